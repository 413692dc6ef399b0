import PyProof.Rows.All
import HandS.Conv
import HandS.Deep
import HandS.Defaults
import HandS.Flow
import HandS.ForMost
import HandS.Head2
import HandS.HeadEnd
import HandS.HeadHook1
import HandS.HeadHook2
import HandS.IsInst
import HandS.TupAny
import HandS.Wide
import KE.KStateDown
import PySem.Challenge.RW_leastapart_k17_whole_fractions_reckoned
set_option Elab.async false
set_option linter.all false
set_option maxRecDepth 100000
set_option maxHeartbeats 0
namespace Ev
open PySem L2

/-! places of the store: numbers by their bits -/
inductive P where
  | one | o (p : P) | i (p : P)
  deriving DecidableEq
def P.succ : P → P
  | .one => .o .one
  | .o p => .i p
  | .i p => .o p.succ
def P.toNat : P → Nat
  | .one => 1
  | .o p => 2 * p.toNat
  | .i p => 2 * p.toNat + 1
theorem P.succ_nat : ∀ p : P, p.succ.toNat = p.toNat + 1
  | .one => rfl
  | .o p => rfl
  | .i p => by
    have h := P.succ_nat p
    simp only [P.succ, P.toNat, h]
    omega
theorem P.pos : ∀ p : P, 0 < p.toNat
  | .one => by decide
  | .o p => by have := P.pos p; simp only [P.toNat]; omega
  | .i p => by simp only [P.toNat]; omega
theorem P.inj : ∀ {p q : P}, p.toNat = q.toNat → p = q
  | .one, .one, _ => rfl
  | .one, .o q, h => by simp only [P.toNat] at h; omega
  | .one, .i q, h => by have := P.pos q; simp only [P.toNat] at h; omega
  | .o p, .one, h => by simp only [P.toNat] at h; omega
  | .i p, .one, h => by have := P.pos p; simp only [P.toNat] at h; omega
  | .o p, .o q, h => by rw [P.inj (p := p) (q := q) (by simp only [P.toNat] at h; omega)]
  | .i p, .i q, h => by rw [P.inj (p := p) (q := q) (by simp only [P.toNat] at h; omega)]
  | .o p, .i q, h => by simp only [P.toNat] at h; omega
  | .i p, .o q, h => by simp only [P.toNat] at h; omega

/-- the built-in kinds -/
inductive Kd where
  | non | bl | int | str | tup | lst | dct | set
  deriving DecidableEq
def Kd.name : Kd → String
  | .non => "NoneType" | .bl => "bool" | .int => "int" | .str => "str" | .tup => "tuple" | .lst => "list" | .dct => "dict" | .set => "set"
/-! values: tuples are trees, what changes is a place of the store -/
inductive D where
  | non | bl (b : Bool) | int (i : Int) | str (x : Str) | rep (d : PyData) | tup (xs : List D) | ref (p : P) | ty (k : Kd) | scr (xs : List D)

inductive O where
  | lst (xs : List D)
  | rol (xs : List D)
  | dct (t : Bool) (kvs : List (D × D))
  | lck (t : Bool) (kvs : List (D × D))

/-! the store: a tree -/
inductive Tr where
  | nil
  | node (o : Option O) (l r : Tr)
def Tr.get : Tr → P → Option O
  | .nil, _ => none
  | .node x _ _, .one => x
  | .node _ l _, .o p => l.get p
  | .node _ _ r, .i p => r.get p
def Tr.put : Tr → P → O → Tr
  | .nil, .one, x => .node (some x) .nil .nil
  | .nil, .o p, x => .node none (Tr.put .nil p x) .nil
  | .nil, .i p, x => .node none .nil (Tr.put .nil p x)
  | .node _ l r, .one, x => .node (some x) l r
  | .node y l r, .o p, x => .node y (l.put p x) r
  | .node y l r, .i p, x => .node y l (r.put p x)
theorem Tr.put_same (x : O) : ∀ (p : P) (t : Tr), (t.put p x).get p = some x
  | .one, .nil => rfl
  | .one, .node _ _ _ => rfl
  | .o p, .nil => Tr.put_same x p .nil
  | .o p, .node _ l _ => Tr.put_same x p l
  | .i p, .nil => Tr.put_same x p .nil
  | .i p, .node _ _ r => Tr.put_same x p r
theorem Tr.put_ne (x : O) : ∀ (p q : P) (t : Tr), q ≠ p → (t.put p x).get q = t.get q
  | .one, .one, _, h => absurd rfl h
  | .one, .o q, .nil, _ => rfl
  | .one, .o q, .node _ l _, _ => rfl
  | .one, .i q, .nil, _ => rfl
  | .one, .i q, .node _ l _, _ => rfl
  | .o p, .one, .nil, _ => rfl
  | .o p, .one, .node _ l _, _ => rfl
  | .i p, .one, .nil, _ => rfl
  | .i p, .one, .node _ l _, _ => rfl
  | .o p, .o q, .nil, h => by
    show (Tr.put .nil p x).get q = none
    exact (Tr.put_ne x p q .nil fun e => h (by rw [e])).trans rfl
  | .o p, .o q, .node _ l _, h => Tr.put_ne x p q l fun e => h (by rw [e])
  | .i p, .i q, .nil, h => by
    show (Tr.put .nil p x).get q = none
    exact (Tr.put_ne x p q .nil fun e => h (by rw [e])).trans rfl
  | .i p, .i q, .node _ _ r, h => Tr.put_ne x p q r fun e => h (by rw [e])
  | .o p, .i q, .nil, _ => rfl
  | .o p, .i q, .node _ l _, _ => rfl
  | .i p, .o q, .nil, _ => rfl
  | .i p, .o q, .node _ l _, _ => rfl

structure Sto where
  nx : P
  t : Tr
def Sto.get (S : Sto) (p : P) : Option O := S.t.get p
def Sto.put (S : Sto) (p : P) (x : O) : Sto := ⟨S.nx, S.t.put p x⟩
def Sto.new (S : Sto) (x : O) : Sto := ⟨S.nx.succ, S.t.put S.nx x⟩

/-! results -/
structure Xn where
  cls : Nat
  flds : List D
inductive R (α : Type) where
  | ok (a : α) (S : Sto)
  | exc (x : Xn) (S : Sto)
  | no
def R.bind {α β : Type} : R α → (α → Sto → R β) → R β
  | .ok a S, f => f a S
  | .exc x S, _ => .exc x S
  | .no, _ => .no
abbrev Env := List (Option D)
abbrev EF := Ev.Env → Sto → R D

/-! the relation with the layer's values and heap -/
/-- a list that is read alone: frozen, or the module's -/
def Scr (K : PySem.W.Frag) (H : Hp) (a : Addr) (vs : List V) : Prop :=
  (∃ o, H a = some (.frz o (.lst vs))) ∨ ∃ (o : Obj) (its : Array Value) (n : Nat), K.lookup a = some o ∧ o.cls = .type "list" ∧ o.dict = none ∧ o.data = .seq its n ∧ its.size ≤ sizeLine ∧ Vals vs its.toList
theorem Scr.sq {K : PySem.W.Frag} {H : Hp} {a : Addr} {vs : List V} (h : Scr K H a vs) : SqL K H a vs := by
  rcases h with ⟨o, h⟩ | h
  · exact Or.inl (Or.inr ⟨o, h⟩)
  · exact Or.inr h
mutual
def RelD (K : PySem.W.Frag) (H : Hp) (ρ : P → Addr) (c : P) : D → V → Prop
  | .non, v => v = .non
  | .bl b, v => v = .bl b
  | .int i, v => v = .int i
  | .str x, v => v = .str x
  | .rep d, v => v = .str d.shown
  | .tup xs, v => ∃ a vs, v = .ref a ∧ H a = some (.tup vs) ∧ RelDs K H ρ c xs vs
  | .ref p, v => p.toNat < c.toNat ∧ v = .ref (ρ p)
  | .ty k, v => v = .ty k.name
  | .scr xs, v => ∃ a vs, v = .ref a ∧ Scr K H a vs ∧ RelDs K H ρ c xs vs
def RelDs (K : PySem.W.Frag) (H : Hp) (ρ : P → Addr) (c : P) : List D → List V → Prop
  | [], vs => vs = []
  | x :: xs, vs => ∃ v r, vs = v :: r ∧ RelD K H ρ c x v ∧ RelDs K H ρ c xs r
end
/-- tuples stay, what is frozen stays -/
structure TK (K : PySem.W.Frag) (H H' : Hp) : Prop where
  tup : ∀ a xs, H a = some (.tup xs) → H' a = some (.tup xs)
  frz : ∀ a o u, H a = some (.frz o u) → H' a = some (.frz o u)
theorem TK.refl (K : PySem.W.Frag) (H : Hp) : TK K H H := ⟨fun _ _ h => h, fun _ _ _ h => h⟩
theorem TK.trans {K : PySem.W.Frag} {H H1 H2 : Hp} (a : TK K H H1) (b : TK K H1 H2) : TK K H H2 := ⟨fun p xs h => b.tup p xs (a.tup p xs h), fun p o u h => b.frz p o u (a.frz p o u h)⟩
theorem TK.new {K : PySem.W.Frag} {H : Hp} {p : Addr} {o : HO} (h : H p = none) : TK K H (upd H p o) :=
  ⟨fun a xs ha => by rw [upd_ne (ne_of_none ha h)]; exact ha, fun a o' u ha => by rw [upd_ne (ne_of_none ha h)]; exact ha⟩
def mutO : HO → Bool
  | .lst _ | .dK _ | .dT _ | .ins _ _ _ | .ext _ => true
  | _ => false
theorem TK.mut {K : PySem.W.Frag} {H : Hp} {p : Addr} {o u : HO} (h : H p = some u) (hm : mutO u = true) : TK K H (upd H p o) := by
  refine ⟨fun a xs ha => ?_, fun a o' u' ha => ?_⟩
  · rw [upd_ne (fun e => by subst e; rw [h] at ha; cases ha; cases hm)]; exact ha
  · rw [upd_ne (fun e => by subst e; rw [h] at ha; cases ha; cases hm)]; exact ha

mutual
theorem RelD.mono {K : PySem.W.Frag} {H H' : Hp} {ρ ρ' : P → Addr} {c c' : P} (tk : TK K H H') (ag : ∀ p, p.toNat < c.toNat → ρ' p = ρ p) (le : c.toNat ≤ c'.toNat) : ∀ {d : D} {v : V}, RelD K H ρ c d v → RelD K H' ρ' c' d v
  | .non, _, h => by simpa [RelD] using h
  | .bl b, _, h => by simpa [RelD] using h
  | .int i, _, h => by simpa [RelD] using h
  | .str x, _, h => by simpa [RelD] using h
  | .rep x, _, h => by simpa [RelD] using h
  | .ty x, _, h => by simpa [RelD] using h
  | .tup xs, _, h => by
    unfold RelD at h ⊢
    obtain ⟨a, vs, e, s, r⟩ := h
    exact ⟨a, vs, e, tk.tup _ _ s, RelDs.mono tk ag le r⟩
  | .scr xs, _, h => by
    unfold RelD at h ⊢
    obtain ⟨a, vs, e, s, r⟩ := h
    refine ⟨a, vs, e, ?_, RelDs.mono tk ag le r⟩
    rcases s with ⟨o, s⟩ | s
    · exact Or.inl ⟨o, tk.frz _ _ _ s⟩
    · exact Or.inr s
  | .ref p, _, h => by
    unfold RelD at h ⊢
    exact ⟨Nat.lt_of_lt_of_le h.1 le, by rw [ag p h.1]; exact h.2⟩
theorem RelDs.mono {K : PySem.W.Frag} {H H' : Hp} {ρ ρ' : P → Addr} {c c' : P} (tk : TK K H H') (ag : ∀ p, p.toNat < c.toNat → ρ' p = ρ p) (le : c.toNat ≤ c'.toNat) : ∀ {ds : List D} {vs : List V}, RelDs K H ρ c ds vs → RelDs K H' ρ' c' ds vs
  | [], _, h => by simpa [RelDs] using h
  | x :: xs, _, h => by
    unfold RelDs at h ⊢
    obtain ⟨v, r, e, h1, h2⟩ := h
    exact ⟨v, r, e, RelD.mono tk ag le h1, RelDs.mono tk ag le h2⟩
end

end Ev

namespace Ev
open PySem L2

def kD : Key → D
  | .inl i => .int i
  | .inr x => .str x
def kT (l : List Key) : D := .tup (l.map kD)
def RelKs (K : PySem.W.Frag) (H : Hp) (ρ : P → Addr) (c : P) {κ : Type} (f : κ → D) : List (D × D) → List (κ × V) → Prop
  | [], l => l = []
  | x :: xs, l => ∃ k v r, l = (k, v) :: r ∧ x.1 = f k ∧ RelD K H ρ c x.2 v ∧ RelKs K H ρ c f xs r
def RelDct (K : PySem.W.Frag) (H : Hp) (ρ : P → Addr) (c : P) (t : Bool) (kvs : List (D × D)) (u : HO) : Prop :=
  (t = false ∧ ∃ l, u = .dK l ∧ RelKs K H ρ c kD kvs l) ∨ (t = true ∧ ∃ l, u = .dT l ∧ RelKs K H ρ c kT kvs l)
def RelO (K : PySem.W.Frag) (H : Hp) (ρ : P → Addr) (c : P) : O → HO → Prop
  | .lst xs, u => ∃ vs, u = .lst vs ∧ RelDs K H ρ c xs vs
  | .rol xs, u => ∃ o vs, u = .frz o (.lst vs) ∧ RelDs K H ρ c xs vs
  | .dct t kvs, u => RelDct K H ρ c t kvs u
  | .lck t kvs, u => ∃ o u', u = .frz o u' ∧ RelDct K H ρ c t kvs u'
structure StRel (K : PySem.W.Frag) (H : Hp) (ρ : P → Addr) (S : Sto) : Prop where
  at_ : ∀ p, p.toNat < S.nx.toNat → ∃ o u, S.get p = some o ∧ H (ρ p) = some u ∧ RelO K H ρ S.nx o u
  inj : ∀ p q, p.toNat < S.nx.toNat → q.toNat < S.nx.toNat → ρ p = ρ q → p = q

section
variable {K : PySem.W.Frag} {H H' : Hp} {ρ ρ' : P → Addr} {c c' : P}
theorem RelKs.mono {κ : Type} {f : κ → D} (tk : TK K H H') (ag : ∀ p, p.toNat < c.toNat → ρ' p = ρ p) (le : c.toNat ≤ c'.toNat) : ∀ {ds : List (D × D)} {vs : List (κ × V)}, RelKs K H ρ c f ds vs → RelKs K H' ρ' c' f ds vs
  | [], _, h => h
  | x :: xs, _, h => by
    obtain ⟨k, v, r, e, e1, h1, h2⟩ := h
    exact ⟨k, v, r, e, e1, RelD.mono tk ag le h1, RelKs.mono tk ag le h2⟩
theorem RelDct.mono (tk : TK K H H') (ag : ∀ p, p.toNat < c.toNat → ρ' p = ρ p) (le : c.toNat ≤ c'.toNat) {t : Bool} {kvs : List (D × D)} {u : HO} (h : RelDct K H ρ c t kvs u) : RelDct K H' ρ' c' t kvs u := by
  rcases h with ⟨z, l, e, h⟩ | ⟨z, l, e, h⟩
  · exact Or.inl ⟨z, l, e, h.mono tk ag le⟩
  · exact Or.inr ⟨z, l, e, h.mono tk ag le⟩
theorem RelO.mono (tk : TK K H H') (ag : ∀ p, p.toNat < c.toNat → ρ' p = ρ p) (le : c.toNat ≤ c'.toNat) {o : O} {u : HO} (h : RelO K H ρ c o u) : RelO K H' ρ' c' o u := by
  cases o with
  | lst xs => obtain ⟨vs, e, h⟩ := h; exact ⟨vs, e, h.mono tk ag le⟩
  | rol xs => obtain ⟨o, vs, e, h⟩ := h; exact ⟨o, vs, e, h.mono tk ag le⟩
  | dct t kvs => exact RelDct.mono tk ag le h
  | lck t kvs => obtain ⟨o, u', e, h⟩ := h; exact ⟨o, u', e, h.mono tk ag le⟩

/-- a new object onto the store -/
theorem StRel.new {S : Sto} {x : O} {u : HO} {q : Addr} (h : StRel K H ρ S) (hq : H q = none)
    (hx : RelO K (upd H q u) (fun p => if p = S.nx then q else ρ p) S.nx.succ x u) :
    StRel K (upd H q u) (fun p => if p = S.nx then q else ρ p) (S.new x) ∧ (∀ p, p.toNat < S.nx.toNat → (if p = S.nx then q else ρ p) = ρ p) := by
  have ag : ∀ p, p.toNat < S.nx.toNat → (if p = S.nx then q else ρ p) = ρ p := fun p hp => if_neg fun e => by subst e; exact Nat.lt_irrefl _ hp
  have hs : (S.nx.succ).toNat = S.nx.toNat + 1 := P.succ_nat _
  have tk : TK K H (upd H q u) := TK.new hq
  refine ⟨⟨fun p hp => ?_, fun p r hp hr e => ?_⟩, ag⟩
  · have hp' : p.toNat < S.nx.toNat + 1 := by rw [← hs]; exact hp
    by_cases e : p = S.nx
    · subst e
      refine ⟨x, u, Tr.put_same _ _ _, ?_, hx⟩
      simp only [if_true]
      exact upd_same
    · have lt : p.toNat < S.nx.toNat := Nat.lt_of_le_of_ne (Nat.le_of_lt_succ hp') fun e' => e (P.inj e')
      obtain ⟨o, w, h1, h2, h3⟩ := h.at_ p lt
      refine ⟨o, w, (Tr.put_ne _ _ _ _ e).trans h1, ?_, h3.mono tk ag (by rw [show (S.new x).nx = S.nx.succ from rfl, hs]; omega)⟩
      rw [if_neg e, upd_ne (ne_of_none h2 hq)]
      exact h2
  · have key : ∀ p, p.toNat < S.nx.toNat → ρ p ≠ q := fun p lt e => by
      obtain ⟨o, w, h1, h2, h3⟩ := h.at_ p lt
      rw [e, hq] at h2; cases h2
    have lt : ∀ p, p ≠ S.nx → p.toNat < (S.new x).nx.toNat → p.toNat < S.nx.toNat := fun p ne hp => by
      rw [show (S.new x).nx = S.nx.succ from rfl, hs] at hp
      exact Nat.lt_of_le_of_ne (Nat.le_of_lt_succ hp) fun e' => ne (P.inj e')
    by_cases e1 : p = S.nx
    · by_cases e2 : r = S.nx
      · rw [e1, e2]
      · rw [if_pos e1, if_neg e2] at e
        exact absurd e.symm (key r (lt r e2 hr))
    · by_cases e2 : r = S.nx
      · rw [if_neg e1, if_pos e2] at e
        exact absurd e (key p (lt p e1 hp))
      · rw [if_neg e1, if_neg e2] at e
        exact h.inj p r (lt p e1 hp) (lt r e2 hr) e
/-- an object of the store changes -/
theorem StRel.put {S : Sto} {x : O} {u w : HO} {p : P} (h : StRel K H ρ S) (hp : p.toNat < S.nx.toNat) (hw : H (ρ p) = some w) (hm : mutO w = true)
    (hx : RelO K (upd H (ρ p) u) ρ S.nx x u) : StRel K (upd H (ρ p) u) ρ (S.put p x) := by
  have tk : TK K H (upd H (ρ p) u) := TK.mut hw hm
  refine ⟨fun q hq => ?_, fun q r hq hr e => h.inj q r hq hr e⟩
  by_cases e : q = p
  · subst e
    exact ⟨x, u, Tr.put_same _ _ _, upd_same, hx⟩
  · obtain ⟨o, y, h1, h2, h3⟩ := h.at_ q hq
    refine ⟨o, y, (Tr.put_ne _ _ _ _ e).trans h1, ?_, h3.mono tk (fun _ _ => rfl) (Nat.le_refl _)⟩
    rw [upd_ne fun e' => e (h.inj q p hq hp e')]
    exact h2
/-- only the heap grew -/
theorem StRel.grow {S : Sto} {q : Addr} {u : HO} (h : StRel K H ρ S) (hq : H q = none) : StRel K (upd H q u) ρ S := by
  have tk : TK K H (upd H q u) := TK.new hq
  refine ⟨fun p hp => ?_, h.inj⟩
  obtain ⟨o, y, h1, h2, h3⟩ := h.at_ p hp
  exact ⟨o, y, h1, by rw [upd_ne (ne_of_none h2 hq)]; exact h2, h3.mono tk (fun _ _ => rfl) (Nat.le_refl _)⟩
end

/-! environments -/
def RelEnv (K : PySem.W.Frag) (H : Hp) (ρ : P → Addr) (c : P) : Ev.Env → St → Prop
  | [], σ => σ = []
  | x :: xs, σ => ∃ v r, σ = v :: r ∧ (∀ d, x = some d → ∃ u, v = some u ∧ RelD K H ρ c d u) ∧ RelEnv K H ρ c xs r
theorem RelEnv.mono {K : PySem.W.Frag} {H H' : Hp} {ρ ρ' : P → Addr} {c c' : P} (tk : TK K H H') (ag : ∀ p, p.toNat < c.toNat → ρ' p = ρ p) (le : c.toNat ≤ c'.toNat) : ∀ {e : Ev.Env} {σ : St}, RelEnv K H ρ c e σ → RelEnv K H' ρ' c' e σ
  | [], _, h => h
  | x :: xs, _, h => by
    obtain ⟨v, r, e, h1, h2⟩ := h
    refine ⟨v, r, e, fun d hd => ?_, RelEnv.mono tk ag le h2⟩
    obtain ⟨u, e1, e2⟩ := h1 d hd
    exact ⟨u, e1, e2.mono tk ag le⟩
theorem RelEnv.get {K : PySem.W.Frag} {H : Hp} {ρ : P → Addr} {c : P} : ∀ {e : Ev.Env} {σ : St} {i : Nat} {d : D}, RelEnv K H ρ c e σ → e[i]? = some (some d) → ∃ u, σ[i]? = some (some u) ∧ RelD K H ρ c d u
  | [], _, _, _, _, he => by simp at he
  | x :: xs, _, 0, d, h, he => by
    obtain ⟨v, r, e, h1, h2⟩ := h
    simp at he
    obtain ⟨u, e1, e2⟩ := h1 d he
    exact ⟨u, by rw [e, e1]; rfl, e2⟩
  | x :: xs, _, i + 1, d, h, he => by
    obtain ⟨v, r, e, h1, h2⟩ := h
    obtain ⟨u, e1, e2⟩ := RelEnv.get (i := i) h2 (by simpa using he)
    exact ⟨u, by rw [e]; simpa using e1, e2⟩
theorem RelEnv.set {K : PySem.W.Frag} {H : Hp} {ρ : P → Addr} {c : P} {d : D} {u : V} (r : RelD K H ρ c d u) : ∀ {e : Ev.Env} {σ : St} (i : Nat), RelEnv K H ρ c e σ → RelEnv K H ρ c (e.set i (some d)) (σ.set i (some u))
  | [], _, i, h => by
    cases h
    simpa [RelEnv] using rfl
  | x :: xs, _, 0, h => by
    obtain ⟨v, r', e, h1, h2⟩ := h
    subst e
    exact ⟨some u, r', rfl, fun d' hd => ⟨u, rfl, by cases hd; exact r⟩, h2⟩
  | x :: xs, _, i + 1, h => by
    obtain ⟨v, r', e, h1, h2⟩ := h
    subst e
    exact ⟨v, r'.set i (some u), rfl, h1, RelEnv.set r i h2⟩
theorem RelEnv.length {K : PySem.W.Frag} {H : Hp} {ρ : P → Addr} {c : P} : ∀ {e : Ev.Env} {σ : St}, RelEnv K H ρ c e σ → e.length = σ.length
  | [], _, h => by cases h; rfl
  | x :: xs, _, h => by
    obtain ⟨v, r', e, h1, h2⟩ := h
    subst e
    simp [RelEnv.length h2]

/-! what is known behind a step: the store, the heap -/
structure Fut (K : PySem.W.Frag) (ρ : P → Addr) (c : P) (H : Hp) (ρ' : P → Addr) (S' : Sto) (H' : Hp) : Prop where
  le : c.toNat ≤ S'.nx.toNat
  ag : ∀ p, p.toNat < c.toNat → ρ' p = ρ p
  tk : TK K H H'
  st : StRel K H' ρ' S'
theorem Fut.refl {K : PySem.W.Frag} {ρ : P → Addr} {H : Hp} {S : Sto} (h : StRel K H ρ S) : Fut K ρ S.nx H ρ S H := ⟨Nat.le_refl _, fun _ _ => rfl, TK.refl _ _, h⟩
theorem Fut.trans {K : PySem.W.Frag} {ρ ρ1 ρ2 : P → Addr} {c : P} {H H1 H2 : Hp} {S1 S2 : Sto} (a : Fut K ρ c H ρ1 S1 H1) (b : Fut K ρ1 S1.nx H1 ρ2 S2 H2) : Fut K ρ c H ρ2 S2 H2 :=
  ⟨Nat.le_trans a.le b.le, fun p hp => (b.ag p (Nat.lt_of_lt_of_le hp a.le)).trans (a.ag p hp), a.tk.trans b.tk, b.st⟩
theorem Fut.d {K : PySem.W.Frag} {ρ ρ1 : P → Addr} {c : P} {H H1 : Hp} {S1 : Sto} (a : Fut K ρ c H ρ1 S1 H1) {d : D} {v : V} (h : RelD K H ρ c d v) : RelD K H1 ρ1 S1.nx d v := h.mono a.tk a.ag a.le
theorem Fut.ds {K : PySem.W.Frag} {ρ ρ1 : P → Addr} {c : P} {H H1 : Hp} {S1 : Sto} (a : Fut K ρ c H ρ1 S1 H1) {d : List D} {v : List V} (h : RelDs K H ρ c d v) : RelDs K H1 ρ1 S1.nx d v := h.mono a.tk a.ag a.le
theorem Fut.e {K : PySem.W.Frag} {ρ ρ1 : P → Addr} {c : P} {H H1 : Hp} {S1 : Sto} (a : Fut K ρ c H ρ1 S1 H1) {d : Ev.Env} {v : St} (h : RelEnv K H ρ c d v) : RelEnv K H1 ρ1 S1.nx d v := h.mono a.tk a.ag a.le

/-- the wanted end, of a result that is a datum; of a list of data; of a truth value -/
def PostR (K : PySem.W.Frag) (ρ : P → Addr) (c : P) (H : Hp) (Q : VK) : R D → Prop
  | .ok d S' => ∀ ρ' H' v, Fut K ρ c H ρ' S' H' → RelD K H' ρ' S'.nx d v → Q v H'
  | _ => False
def PostL (K : PySem.W.Frag) (ρ : P → Addr) (c : P) (H : Hp) (Q : List V → Hp → Prop) : R (List D) → Prop
  | .ok d S' => ∀ ρ' H' v, Fut K ρ c H ρ' S' H' → RelDs K H' ρ' S'.nx d v → Q v H'
  | _ => False
def PostB (K : PySem.W.Frag) (ρ : P → Addr) (c : P) (H : Hp) (Q : Bool → Hp → Prop) : R Bool → Prop
  | .ok b S' => ∀ ρ' H', Fut K ρ c H ρ' S' H' → Q b H'
  | _ => False
def tE (K : PySem.W.Frag) (f : EF) : TE := fun σ H Q => ∃ ρ S e, StRel K H ρ S ∧ RelEnv K H ρ S.nx e σ ∧ PostR K ρ S.nx H Q (f e S)
abbrev LF := Ev.Env → Sto → R (List D)
abbrev BF := Ev.Env → Sto → R Bool
def tA (K : PySem.W.Frag) (f : LF) : TA := fun σ H Q => ∃ ρ S e, StRel K H ρ S ∧ RelEnv K H ρ S.nx e σ ∧ PostL K ρ S.nx H Q (f e S)
def tT (K : PySem.W.Frag) (f : BF) : TT := fun σ H Q => ∃ ρ S e, StRel K H ρ S ∧ RelEnv K H ρ S.nx e σ ∧ PostB K ρ S.nx H Q (f e S)

theorem PE.to {X : Cx} {e : Expr} {t t' : TE} (h : PE X e t) (i : ∀ σ H Q, t' σ H Q → t σ H Q) : PE X e t' := ⟨fun pins s σ H Q I q => h.run pins s σ H Q I (i σ H Q q)⟩
theorem PT.to {X : Cx} {e : Expr} {t t' : TT} (h : PT X e t) (i : ∀ σ H Q, t' σ H Q → t σ H Q) : PT X e t' := ⟨fun pins s σ H Q I q => h.run pins s σ H Q I (i σ H Q q)⟩
theorem PW.to {X : Cx} {e : Expr} {t t' : TT} (h : PW X e t) (i : ∀ σ H Q, t' σ H Q → t σ H Q) : PW X e t' := ⟨fun wh pins s σ H Q I q => h.run wh pins s σ H Q I (i σ H Q q)⟩
theorem PA.to {X : Cx} {e : List Expr} {t t' : TA} (h : PA X e t) (i : ∀ σ H Q, t' σ H Q → t σ H Q) : PA X e t' := ⟨fun p pins s σ H Q I q => h.run p pins s σ H Q I (i σ H Q q)⟩

/-- one behind the other -/
theorem PostR.bind {K : PySem.W.Frag} {ρ : P → Addr} {c : P} {H : Hp} {Q : VK} {r : R D} {g : D → Sto → R D} (h : PostR K ρ c H Q (r.bind g)) :
    PostR K ρ c H (fun v H1 => ∃ ρ1 S1 d, Fut K ρ c H ρ1 S1 H1 ∧ RelD K H1 ρ1 S1.nx d v ∧ PostR K ρ1 S1.nx H1 Q (g d S1)) r := by
  cases r with
  | ok d S' =>
    intro ρ' H' v f r
    refine ⟨ρ', S', d, f, r, ?_⟩
    have h' : PostR K ρ c H Q (g d S') := h
    generalize g d S' = z at h'
    cases z with
    | ok d2 S2 => exact fun ρ2 H2 v2 f2 r2 => h' ρ2 H2 v2 (f.trans f2) r2
    | exc _ _ => exact h'
    | no => exact h'
  | exc _ _ => exact h
  | no => exact h
theorem PostR.imp {K : PySem.W.Frag} {ρ : P → Addr} {c : P} {H : Hp} {Q Q' : VK} {r : R D} (h : PostR K ρ c H Q r) (i : ∀ v H', Q v H' → Q' v H') : PostR K ρ c H Q' r := by
  cases r with
  | ok d S' => exact fun ρ' H' v f r => i _ _ (h ρ' H' v f r)
  | exc _ _ => exact h
  | no => exact h

end Ev

namespace Ev
open PySem L2

section
variable {K : PySem.W.Frag} {H : Hp} {ρ : P → Addr} {c : P} {v : V}
theorem rel_non : RelD K H ρ c .non v ↔ v = .non := by unfold RelD; exact Iff.rfl
theorem rel_bl {b : Bool} : RelD K H ρ c (.bl b) v ↔ v = .bl b := by unfold RelD; exact Iff.rfl
theorem rel_int {i : Int} : RelD K H ρ c (.int i) v ↔ v = .int i := by unfold RelD; exact Iff.rfl
theorem rel_str {x : Str} : RelD K H ρ c (.str x) v ↔ v = .str x := by unfold RelD; exact Iff.rfl
theorem rel_rep {x : PyData} : RelD K H ρ c (.rep x) v ↔ v = .str x.shown := by unfold RelD; exact Iff.rfl
theorem rel_tup {xs : List D} : RelD K H ρ c (.tup xs) v ↔ ∃ a vs, v = .ref a ∧ H a = some (.tup vs) ∧ RelDs K H ρ c xs vs := by unfold RelD; exact Iff.rfl
theorem rel_ref {p : P} : RelD K H ρ c (.ref p) v ↔ p.toNat < c.toNat ∧ v = .ref (ρ p) := by unfold RelD; exact Iff.rfl
theorem rel_ty {k : Kd} : RelD K H ρ c (.ty k) v ↔ v = .ty k.name := by unfold RelD; exact Iff.rfl
theorem rel_scr {xs : List D} : RelD K H ρ c (.scr xs) v ↔ ∃ a vs, v = .ref a ∧ Scr K H a vs ∧ RelDs K H ρ c xs vs := by unfold RelD; exact Iff.rfl
theorem rels_nil {vs : List V} : RelDs K H ρ c [] vs ↔ vs = [] := by unfold RelDs; exact Iff.rfl
theorem rels_cons {x : D} {xs : List D} {vs : List V} : RelDs K H ρ c (x :: xs) vs ↔ ∃ v r, vs = v :: r ∧ RelD K H ρ c x v ∧ RelDs K H ρ c xs r := by
  constructor
  · intro h; unfold RelDs at h; exact h
  · intro h; unfold RelDs; exact h
theorem RelDs.length : ∀ {xs : List D} {vs : List V}, RelDs K H ρ c xs vs → xs.length = vs.length
  | [], _, h => by rw [rels_nil.mp h]; rfl
  | x :: xs, _, h => by
    obtain ⟨v, r, e, _, h2⟩ := rels_cons.mp h
    rw [e, List.length_cons, List.length_cons, RelDs.length h2]
theorem RelDs.append : ∀ {xs ys : List D} {vs ws : List V}, RelDs K H ρ c xs vs → RelDs K H ρ c ys ws → RelDs K H ρ c (xs ++ ys) (vs ++ ws)
  | [], _, _, _, h, h' => by rw [rels_nil.mp h]; exact h'
  | x :: xs, _, _, _, h, h' => by
    obtain ⟨v, r, e, h1, h2⟩ := rels_cons.mp h
    rw [e]
    exact rels_cons.mpr ⟨v, _, rfl, h1, RelDs.append h2 h'⟩
theorem RelDs.get : ∀ {xs : List D} {vs : List V} {i : Nat} {d : D}, RelDs K H ρ c xs vs → xs[i]? = some d → ∃ u, vs[i]? = some u ∧ RelD K H ρ c d u
  | [], _, _, _, _, he => by simp at he
  | x :: xs, _, 0, d, h, he => by
    obtain ⟨v, r, e, h1, h2⟩ := rels_cons.mp h
    simp at he; subst he
    exact ⟨v, by rw [e]; rfl, h1⟩
  | x :: xs, _, i + 1, d, h, he => by
    obtain ⟨v, r, e, h1, h2⟩ := rels_cons.mp h
    obtain ⟨u, e1, e2⟩ := RelDs.get (i := i) h2 (by simpa using he)
    exact ⟨u, by rw [e]; simpa using e1, e2⟩
theorem RelDs.take : ∀ {xs : List D} {vs : List V} (n : Nat), RelDs K H ρ c xs vs → RelDs K H ρ c (xs.take n) (vs.take n)
  | xs, vs, 0, h => by simp; exact rels_nil.mpr rfl
  | [], vs, n + 1, h => by rw [rels_nil.mp h]; simp; exact rels_nil.mpr rfl
  | x :: xs, vs, n + 1, h => by
    obtain ⟨v, r, e, h1, h2⟩ := rels_cons.mp h
    rw [e]
    exact rels_cons.mpr ⟨v, _, rfl, h1, RelDs.take n h2⟩
theorem RelDs.drop : ∀ {xs : List D} {vs : List V} (n : Nat), RelDs K H ρ c xs vs → RelDs K H ρ c (xs.drop n) (vs.drop n)
  | xs, vs, 0, h => by simpa using h
  | [], vs, n + 1, h => by rw [rels_nil.mp h]; simp; exact rels_nil.mpr rfl
  | x :: xs, vs, n + 1, h => by
    obtain ⟨v, r, e, h1, h2⟩ := rels_cons.mp h
    rw [e]
    exact RelDs.drop n h2
theorem RelDs.set {d : D} {u : V} (hd : RelD K H ρ c d u) : ∀ {xs : List D} {vs : List V} (i : Nat), RelDs K H ρ c xs vs → RelDs K H ρ c (xs.set i d) (vs.set i u)
  | [], vs, i, h => by rw [rels_nil.mp h]; simp; exact rels_nil.mpr rfl
  | x :: xs, vs, 0, h => by
    obtain ⟨v, r, e, h1, h2⟩ := rels_cons.mp h
    rw [e]
    exact rels_cons.mpr ⟨u, r, rfl, hd, h2⟩
  | x :: xs, vs, i + 1, h => by
    obtain ⟨v, r, e, h1, h2⟩ := rels_cons.mp h
    rw [e]
    exact rels_cons.mpr ⟨v, _, rfl, h1, RelDs.set hd i h2⟩
theorem RelDs.reverse : ∀ {xs : List D} {vs : List V}, RelDs K H ρ c xs vs → RelDs K H ρ c xs.reverse vs.reverse
  | [], vs, h => by rw [rels_nil.mp h]; exact rels_nil.mpr rfl
  | x :: xs, vs, h => by
    obtain ⟨v, r, e, h1, h2⟩ := rels_cons.mp h
    rw [e, List.reverse_cons, List.reverse_cons]
    exact RelDs.append (RelDs.reverse h2) (rels_cons.mpr ⟨v, [], rfl, h1, rels_nil.mpr rfl⟩)
theorem rels_one {d : D} {v : V} (h : RelD K H ρ c d v) : RelDs K H ρ c [d] [v] := rels_cons.mpr ⟨v, [], rfl, h, rels_nil.mpr rfl⟩
end

/-! ### names, constants -/
def eVar (i : Nat) : EF := fun e S => match e[i]? with
  | some (some d) => .ok d S
  | _ => .no
def eC (d : D) : EF := fun _ S => .ok d S

section
variable {X : Cx}
theorem se_var {i : Nat} {x : Str} {pos : Pos} (hN : X.N[i]? = some x) (hv : Vis X.env.scope x) (hd : (x == ("__debug__" : Str)) = false) (hcd : (x == ("__classdict__" : Str)) = false) :
    PE X (.Name x pos) (tE X.K (eVar i)) := by
  refine PE.to (pe_var hN hv hd hcd) fun σ H Q h => ?_
  obtain ⟨ρ, S, e, hS, hE, hP⟩ := h
  unfold eVar at hP
  split at hP
  · rename_i d hi
    obtain ⟨u, h1, h2⟩ := hE.get hi
    exact ⟨u, h1, hP ρ H u (Fut.refl hS) h2⟩
  · exact hP.elim
theorem post_c {K : PySem.W.Frag} {ρ : P → Addr} {S : Sto} {H : Hp} {Q : VK} {d : D} {v : V} (hS : StRel K H ρ S) (h : PostR K ρ S.nx H Q (.ok d S)) (r : RelD K H ρ S.nx d v) : Q v H := h ρ H v (Fut.refl hS) r
theorem se_const {e : Expr} {d : D} {v : V} (h : PE X e (tC v)) (r : ∀ H ρ c, RelD X.K H ρ c d v) : PE X e (tE X.K (eC d)) := by
  refine PE.to h fun σ H Q h => ?_
  obtain ⟨ρ, S, e, hS, hE, hP⟩ := h
  exact post_c hS hP (r _ _ _)

/-! ### two operands -/
def eOp (op : D → D → Sto → R D) (a b : EF) : EF := fun e S => (a e S).bind fun x S1 => (b e S1).bind fun y S2 => op x y S2
def eUn (op : D → Sto → R D) (a : EF) : EF := fun e S => (a e S).bind fun x S1 => op x S1
def OpD (K : PySem.W.Frag) (op : D → D → Sto → R D) (r : R2) : Prop :=
  ∀ ρ S H x y v u Q, StRel K H ρ S → RelD K H ρ S.nx x v → RelD K H ρ S.nx y u → PostR K ρ S.nx H Q (op x y S) → r v u H Q
def UnD (K : PySem.W.Frag) (op : D → Sto → R D) (r : V → Hp → VK → Prop) : Prop :=
  ∀ ρ S H x v Q, StRel K H ρ S → RelD K H ρ S.nx x v → PostR K ρ S.nx H Q (op x S) → r v H Q

theorem tE_un {f : EF} {op : D → Sto → R D} {σ : St} {H : Hp} {Q : VK} {k : V → Hp → Prop} {K : PySem.W.Frag} (h : tE K (eUn op f) σ H Q)
    (i : ∀ ρ S e x v H1, StRel K H1 ρ S → RelEnv K H1 ρ S.nx e σ → RelD K H1 ρ S.nx x v → PostR K ρ S.nx H1 Q (op x S) → k v H1) : tE K f σ H k := by
  obtain ⟨ρ, S, e, hS, hE, hP⟩ := h
  refine ⟨ρ, S, e, hS, hE, PostR.imp (PostR.bind hP) fun v H1 h1 => ?_⟩
  obtain ⟨ρ1, S1, d, f1, r1, p1⟩ := h1
  exact i ρ1 S1 e d v H1 f1.st (f1.e hE) r1 p1
theorem tE_op {fa fb : EF} {op : D → D → Sto → R D} {σ : St} {H : Hp} {Q : VK} {k : V → V → Hp → Prop} {K : PySem.W.Frag} (h : tE K (eOp op fa fb) σ H Q)
    (i : ∀ ρ S e x y v u H1, StRel K H1 ρ S → RelEnv K H1 ρ S.nx e σ → RelD K H1 ρ S.nx x v → RelD K H1 ρ S.nx y u → PostR K ρ S.nx H1 Q (op x y S) → k v u H1) :
    tE K fa σ H (fun x H1 => tE K fb σ H1 fun y H2 => k x y H2) := by
  obtain ⟨ρ, S, e, hS, hE, hP⟩ := h
  refine ⟨ρ, S, e, hS, hE, PostR.imp (PostR.bind hP) fun v H1 h1 => ?_⟩
  obtain ⟨ρ1, S1, d, f1, r1, p1⟩ := h1
  refine ⟨ρ1, S1, e, f1.st, f1.e hE, PostR.imp (PostR.bind p1) fun u H2 h2 => ?_⟩
  obtain ⟨ρ2, S2, d2, f2, r2, p2⟩ := h2
  exact i ρ2 S2 e d d2 v u H2 f2.st (f2.e (f1.e hE)) (f2.d r1) r2 p2

theorem se_bin {a b : Expr} {fa fb : EF} {o : Operator} {op : D → D → Sto → R D} {r : R2} {pos : Pos} (ho : OpR X (binaryOp o) r) (hd : OpD X.K op r) (ha : PE X a (tE X.K fa)) (hb : PE X b (tE X.K fb)) :
    PE X (.BinOp a o b pos) (tE X.K (eOp op fa fb)) :=
  PE.to (pe_op ho ha hb) fun σ H Q h => tE_op h fun ρ S e x y v u H1 hS hE rx ry hP => hd ρ S H1 x y v u Q hS rx ry hP
theorem se_cmp {a b : Expr} {fa fb : EF} {o : CmpOp} {op : D → D → Sto → R D} {r : R2} {pos : Pos} (ho : OpR X (compareOp o) r) (hd : OpD X.K op r) (ha : PE X a (tE X.K fa)) (hb : PE X b (tE X.K fb))
    (hm : behindInMarks o b = false) : PE X (.Compare a [o] [b] pos) (tE X.K (eOp op fa fb)) :=
  PE.to (pe_cmpR ho ha hb hm) fun σ H Q h => tE_op h fun ρ S e x y v u H1 hS hE rx ry hP => hd ρ S H1 x y v u Q hS rx ry hP
theorem se_un {a : Expr} {fa : EF} {o : UnaryOp} {op : D → Sto → R D} {r : V → Hp → VK → Prop} {pos : Pos} (ho : UnR X (unaryOp o) r) (hd : UnD X.K op r) (ha : PE X a (tE X.K fa)) :
    PE X (.UnaryOp o a pos) (tE X.K (eUn op fa)) :=
  PE.to (pe_un ho ha) fun σ H Q h => tE_un h fun ρ S e x v H1 hS hE rx hP => hd ρ S H1 x v Q hS rx hP
end
end Ev

namespace Ev
open PySem L2

/-! ### arithmetic -/
def subD : D → D → Sto → R D
  | .int i, .int j, S => .ok (.int (i - j)) S
  | _, _, _ => .no
def mulOk (i j : Int) : Bool := decide (i.natAbs.log2 + j.natAbs.log2 < 1000000)
def line : Nat := 16777216
theorem line_eq : line = sizeLine := sizeLine_eq.symm
def mulD : D → D → Sto → R D
  | .int i, .int j, S => bif mulOk i j then .ok (.int (i * j)) S else .no
  | .ref p, .int k, S => match S.get p with
    | some (.lst xs) => bif decide (0 ≤ k) && decide (k < 1000000) && decide (xs.length * k.toNat ≤ line) then .ok (.ref S.nx) (S.new (.lst (List.replicate k.toNat xs).flatten)) else .no
    | _ => .no
  | _, _, _ => .no
def fdivD : D → D → Sto → R D
  | .int i, .int j, S => bif decide (0 < j) && decide (j.natAbs.log2 < 9000) then .ok (.int (i / j)) S else bif decide (j < 0) && decide (j.natAbs < 1073741824) then .ok (.int (i.fdiv j)) S else .no
  | _, _, _ => .no
def modD : D → D → Sto → R D
  | .int i, .int j, S => bif decide (0 < j) then .ok (.int (i % j)) S else .no
  | _, _, _ => .no
def powD : D → D → Sto → R D
  | .int i, .int j, S => bif decide (0 ≤ j) && decide (j ≤ 1000000) && decide (i.natAbs < 18446744073709551616) then .ok (.int (i ^ j.toNat)) S else .no
  | _, _, _ => .no
def addD : D → D → Sto → R D
  | .int i, .int j, S => .ok (.int (i + j)) S
  | .str a, .str b, S => bif decide (a.length + b.length ≤ line) then .ok (.str (a ++ b)) S else .no
  | .tup xs, .tup ys, S => bif decide (xs.length + ys.length ≤ line) then .ok (.tup (xs ++ ys)) S else .no
  | .ref p, .ref q, S => match S.get p, S.get q with
    | some (.lst xs), some (.lst ys) => bif decide (xs.length + ys.length ≤ line) then .ok (.ref S.nx) (S.new (.lst (xs ++ ys))) else .no
    | _, _ => .no
  | _, _, _ => .no
def negD : D → Sto → R D
  | .int i, S => .ok (.int (-i)) S
  | _, _ => .no

theorem bif_post {K : PySem.W.Frag} {ρ : P → Addr} {c : P} {H : Hp} {Q : VK} {b : Bool} {r : R D} (h : PostR K ρ c H Q (bif b then r else .no)) : b = true ∧ PostR K ρ c H Q r := by
  cases b
  · exact h.elim
  · exact ⟨rfl, h⟩

section
variable {X : Cx} {K : PySem.W.Frag}
theorem op_or {f : Value → Value → Sem Value} {r r' : R2} (h : OpR X f r) (h' : OpR X f r') : OpR X f (fun x y H Q => r x y H Q ∨ r' x y H Q) := OpR.or h h'
theorem subD_ok : OpD K subD (rI0 fun i j => .int (i - j)) := by
  intro ρ S H x y v u Q hS hx hy hP
  cases x <;> cases y <;> first | exact hP.elim | skip
  rw [rel_int] at hx hy
  subst hx hy
  exact ⟨_, _, rfl, rfl, post_c hS hP (rel_int.mpr rfl)⟩
theorem modD_ok : OpD K modD (rI (fun _ j => 0 < j) fun i j => .int (i % j)) := by
  intro ρ S H x y v u Q hS hx hy hP
  cases x <;> cases y <;> first | exact hP.elim | skip
  rw [rel_int] at hx hy
  subst hx hy
  obtain ⟨h1, h2⟩ := bif_post hP
  exact ⟨_, _, rfl, rfl, of_decide_eq_true h1, post_c hS h2 (rel_int.mpr rfl)⟩
theorem powD_ok : OpD K powD (rI CPow fun i j => .int (i ^ j.toNat)) := by
  intro ρ S H x y v u Q hS hx hy hP
  cases x <;> cases y <;> first | exact hP.elim | skip
  rw [rel_int] at hx hy
  subst hx hy
  obtain ⟨h1, h2⟩ := bif_post hP
  simp only [Bool.and_eq_true, decide_eq_true_eq] at h1
  exact ⟨_, _, rfl, rfl, ⟨h1.1.1, h1.1.2, h1.2⟩, post_c hS h2 (rel_int.mpr rfl)⟩
def rFd : R2 := fun x y H Q => rI CDivW (fun i j => .int (i / j)) x y H Q ∨ rI CDivN (fun i j => .int (i.fdiv j)) x y H Q
theorem op_fd : OpR X (binaryOp .FloorDiv) rFd := op_or op_fdivW op_fdivN
theorem fdivD_ok : OpD K fdivD rFd := by
  intro ρ S H x y v u Q hS hx hy hP
  cases x <;> cases y <;> first | exact hP.elim | skip
  rename_i i j
  rw [rel_int] at hx hy
  subst hx hy
  have hP' : PostR K ρ S.nx H Q (bif decide (0 < j) && decide (j.natAbs.log2 < 9000) then .ok (.int (i / j)) S else bif decide (j < 0) && decide (j.natAbs < 1073741824) then .ok (.int (i.fdiv j)) S else .no) := hP
  cases hb : (decide (0 < j) && decide (j.natAbs.log2 < 9000)) with
  | true =>
    rw [hb] at hP'
    simp only [Bool.and_eq_true, decide_eq_true_eq] at hb
    exact Or.inl ⟨_, _, rfl, rfl, hb, post_c hS hP' (rel_int.mpr rfl)⟩
  | false =>
    rw [hb] at hP'
    obtain ⟨h1, h2⟩ := bif_post (r := .ok (.int (i.fdiv j)) S) hP'
    simp only [Bool.and_eq_true, decide_eq_true_eq] at h1
    exact Or.inr ⟨_, _, rfl, rfl, ⟨by omega, h1.2⟩, post_c hS h2 (rel_int.mpr rfl)⟩
theorem negD_ok : UnD K negD (rU fun i => .int (-i)) := by
  intro ρ S H x v Q hS hx hP
  cases x <;> first | exact hP.elim | skip
  rw [rel_int] at hx
  subst hx
  exact ⟨_, rfl, post_c hS hP (rel_int.mpr rfl)⟩
/-- a list of the store -/
theorem st_lst {ρ : P → Addr} {S : Sto} {H : Hp} {p : P} {xs : List D} (hS : StRel K H ρ S) (hp : p.toNat < S.nx.toNat) (hg : S.get p = some (.lst xs)) : ∃ vs, H (ρ p) = some (.lst vs) ∧ RelDs K H ρ S.nx xs vs := by
  obtain ⟨o, u, h1, h2, h3⟩ := hS.at_ p hp
  rw [hg] at h1
  cases h1
  obtain ⟨vs, e, h⟩ := h3
  exact ⟨vs, by rw [h2, e], h⟩
/-- a new list -/
theorem post_new {ρ : P → Addr} {S : Sto} {H : Hp} {Q : VK} {xs : List D} {vs : List V} (hS : StRel K H ρ S) (hP : PostR K ρ S.nx H Q (.ok (.ref S.nx) (S.new (.lst xs)))) (r : RelDs K H ρ S.nx xs vs) (q : Addr) (hq : H q = none) : Q (.ref q) (upd H q (.lst vs)) := by
  have tk : TK K H (upd H q (.lst vs)) := TK.new hq
  have hs : (S.nx.succ).toNat = S.nx.toNat + 1 := P.succ_nat _
  have ag : ∀ p, p.toNat < S.nx.toNat → (if p = S.nx then q else ρ p) = ρ p := fun p hp => if_neg fun e => by subst e; exact Nat.lt_irrefl _ hp
  obtain ⟨h1, h2⟩ := StRel.new (x := .lst xs) (u := .lst vs) hS hq ⟨vs, rfl, r.mono tk ag (by omega)⟩
  refine hP (fun p => if p = S.nx then q else ρ p) _ _ ⟨?_, h2, tk, h1⟩ (rel_ref.mpr ⟨?_, ?_⟩)
  · show S.nx.toNat ≤ S.nx.succ.toNat
    omega
  · show S.nx.toNat < S.nx.succ.toNat
    omega
  · show V.ref q = V.ref (if S.nx = S.nx then q else ρ S.nx)
    rw [if_pos rfl]
/-- a new tuple -/
theorem post_tup {ρ : P → Addr} {S : Sto} {H : Hp} {Q : VK} {xs : List D} {vs : List V} (hS : StRel K H ρ S) (hP : PostR K ρ S.nx H Q (.ok (.tup xs) S)) (r : RelDs K H ρ S.nx xs vs) (q : Addr) (hq : H q = none) : Q (.ref q) (upd H q (.tup vs)) := by
  have tk : TK K H (upd H q (.tup vs)) := TK.new hq
  refine hP ρ _ _ ⟨Nat.le_refl _, fun _ _ => rfl, tk, hS.grow hq⟩ (rel_tup.mpr ⟨q, vs, rfl, upd_same, r.mono tk (fun _ _ => rfl) (Nat.le_refl _)⟩)

def rAddA (K : PySem.W.Frag) : R2 := fun x y H Q => rI0 (fun i j => .int (i + j)) x y H Q ∨ ((∃ i j, x = .str i ∧ y = .str j ∧ i.length + j.length ≤ sizeLine ∧ Q (.str (i ++ j)) H) ∨ (rCatA K x y H Q ∨ rCat x y H Q))
theorem op_addA : OpR X (binaryOp .Add) (rAddA X.K) := op_or op_add (op_or op_add_str (op_or op_catA op_cat))
theorem addD_ok : OpD K addD (rAddA K) := by
  intro ρ S H x y v u Q hS hx hy hP
  cases x <;> cases y <;> first | exact hP.elim | skip
  · rw [rel_int] at hx hy
    subst hx hy
    exact Or.inl ⟨_, _, rfl, rfl, post_c hS hP (rel_int.mpr rfl)⟩
  · rw [rel_str] at hx hy
    subst hx hy
    obtain ⟨h1, h2⟩ := bif_post hP
    exact Or.inr (Or.inl ⟨_, _, rfl, rfl, by rw [← line_eq]; exact of_decide_eq_true h1, post_c hS h2 (rel_str.mpr rfl)⟩)
  · rename_i xs ys
    obtain ⟨a, vs, e1, s1, r1⟩ := rel_tup.mp hx
    obtain ⟨b, ws, e2, s2, r2⟩ := rel_tup.mp hy
    subst e1 e2
    obtain ⟨h1, h2⟩ := bif_post hP
    have hl := of_decide_eq_true h1
    refine Or.inr (Or.inr (Or.inl ⟨a, b, vs, ws, rfl, rfl, SqT.of s1, SqT.of s2, ?_, fun e => ?_, fun n e => ?_, fun n m p hp => ?_⟩))
    · rw [← r1.length, ← r2.length, ← line_eq]; exact hl
    · subst e
      have : xs = [] := by cases xs with | nil => rfl | cons z zs => obtain ⟨_, _, e, _⟩ := rels_cons.mp r1; cases e
      subst this
      exact post_c hS h2 (rel_tup.mpr ⟨b, ws, rfl, s2, r2⟩)
    · subst e
      have : ys = [] := by cases ys with | nil => rfl | cons z zs => obtain ⟨_, _, e, _⟩ := rels_cons.mp r2; cases e
      subst this
      rw [List.append_nil] at h2
      exact post_c hS h2 (rel_tup.mpr ⟨a, vs, rfl, s1, r1⟩)
    · exact post_tup hS h2 (r1.append r2) p hp
  · rename_i p q
    obtain ⟨lp, e1⟩ := rel_ref.mp hx
    obtain ⟨lq, e2⟩ := rel_ref.mp hy
    subst e1 e2
    have hP' : PostR K ρ S.nx H Q (match S.get p, S.get q with
      | some (.lst xs), some (.lst ys) => bif decide (xs.length + ys.length ≤ line) then .ok (.ref S.nx) (S.new (.lst (xs ++ ys))) else .no
      | _, _ => .no) := hP
    split at hP'
    · rename_i xs ys g1 g2
      obtain ⟨h1, h2⟩ := bif_post hP'
      have hl := of_decide_eq_true h1
      obtain ⟨vs, a1, r1⟩ := st_lst hS lp g1
      obtain ⟨ws, a2, r2⟩ := st_lst hS lq g2
      refine Or.inr (Or.inr (Or.inr ⟨_, _, vs, ws, rfl, rfl, a1, a2, ?_, fun z hz => post_new hS h2 (r1.append r2) z hz⟩))
      rw [← r1.length, ← r2.length, ← line_eq]; exact hl
    · exact hP'.elim
def rMulA : R2 := fun x y H Q => rI CMulW (fun i j => .int (i * j)) x y H Q ∨ rRep x y H Q
theorem op_mulA : OpR X (binaryOp .Mult) rMulA := op_or op_mulW op_rep
theorem rels_flat {H : Hp} {ρ : P → Addr} {c : P} {xs : List D} {vs : List V} (r : RelDs K H ρ c xs vs) : ∀ n : Nat, RelDs K H ρ c (List.replicate n xs).flatten (List.replicate n vs).flatten
  | 0 => rels_nil.mpr rfl
  | n + 1 => by
    rw [List.replicate_succ, List.replicate_succ, List.flatten_cons, List.flatten_cons]
    exact r.append (rels_flat r n)
theorem mulD_ok : OpD K mulD rMulA := by
  intro ρ S H x y v u Q hS hx hy hP
  cases x <;> cases y <;> first | exact hP.elim | skip
  · rw [rel_int] at hx hy
    subst hx hy
    obtain ⟨h1, h2⟩ := bif_post hP
    exact Or.inl ⟨_, _, rfl, rfl, by unfold mulOk at h1; unfold CMulW; exact of_decide_eq_true h1, post_c hS h2 (rel_int.mpr rfl)⟩
  · rename_i p k
    obtain ⟨lp, e1⟩ := rel_ref.mp hx
    rw [rel_int] at hy
    subst e1 hy
    have hP' : PostR K ρ S.nx H Q (match S.get p with
      | some (.lst xs) => bif decide (0 ≤ k) && decide (k < 1000000) && decide (xs.length * k.toNat ≤ line) then .ok (.ref S.nx) (S.new (.lst (List.replicate k.toNat xs).flatten)) else .no
      | _ => .no) := hP
    split at hP'
    · rename_i xs g1
      obtain ⟨h1, h2⟩ := bif_post hP'
      simp only [Bool.and_eq_true, decide_eq_true_eq] at h1
      obtain ⟨vs, a1, r1⟩ := st_lst hS lp g1
      refine Or.inr ⟨_, k, vs, rfl, rfl, a1, by omega, by omega, ?_, fun z hz => ?_⟩
      · rw [← r1.length, ← line_eq]; exact h1.2
      · exact post_new hS h2 (rels_flat r1 _) z hz
    · exact hP'.elim
end
end Ev

namespace Ev
open PySem L2

/-! ### data as a whole -/
def mapO {α β : Type} (f : α → Option β) : List α → Option (List β)
  | [] => some []
  | x :: xs => match f x with
    | none => none
    | some y => match mapO f xs with
      | none => none
      | some ys => some (y :: ys)
def toP (S : Sto) : Nat → D → Option PyData
  | 0, _ => none
  | n + 1, d => match d with
    | .non => some .none
    | .bl b => some (.bool b)
    | .int i => some (.int i)
    | .str x => some (.str x)
    | .rep x => some (.str x.shown)
    | .tup xs => match mapO (toP S n) xs with
      | some ys => some (.tuple ys)
      | none => none
    | .ref p => match S.get p with
      | some (.lst xs) => (match mapO (toP S n) xs with
        | some ys => some (.list ys)
        | none => none)
      | some (.rol xs) => (match mapO (toP S n) xs with
        | some ys => some (.list ys)
        | none => none)
      | _ => none
    | .ty _ => none
    | .scr _ => none
theorem mapO_dp {K : PySem.W.Frag} {H : Hp} {ρ : P → Addr} {c : P} {f : D → Option PyData} (hf : ∀ d pd v, f d = some pd → RelD K H ρ c d v → Dp K H v pd) :
    ∀ {xs : List D} {ys : List PyData} {vs : List V}, mapO f xs = some ys → RelDs K H ρ c xs vs → DpAll K H vs ys
  | [], ys, vs, h, r => by
    rw [rels_nil.mp r]
    cases h
    exact DpAll.nil
  | x :: xs, ys, vs, h, r => by
    obtain ⟨v, r', e, h1, h2⟩ := rels_cons.mp r
    rw [e]
    unfold mapO at h
    split at h
    · cases h
    · rename_i y hy
      split at h
      · cases h
      · rename_i zs hz
        cases h
        exact DpAll.cons (hf _ _ _ hy h1) (mapO_dp hf hz h2)
theorem toP_dp {K : PySem.W.Frag} {H : Hp} {ρ : P → Addr} {S : Sto} (hS : StRel K H ρ S) : ∀ (n : Nat) (d : D) (pd : PyData) (v : V), toP S n d = some pd → RelD K H ρ S.nx d v → Dp K H v pd
  | 0, d, pd, v, h, r => by cases h
  | n + 1, .non, pd, v, h, r => by cases h; rw [rel_non.mp r]; exact Dp.non
  | n + 1, .bl b, pd, v, h, r => by cases h; rw [rel_bl.mp r]; exact Dp.bl b
  | n + 1, .int b, pd, v, h, r => by cases h; rw [rel_int.mp r]; exact Dp.int b
  | n + 1, .str b, pd, v, h, r => by cases h; rw [rel_str.mp r]; exact Dp.str b
  | n + 1, .rep b, pd, v, h, r => by cases h; rw [rel_rep.mp r]; exact Dp.str _
  | n + 1, .tup xs, pd, v, h, r => by
    obtain ⟨a, vs, e, s1, r1⟩ := rel_tup.mp r
    rw [e]
    have h' : (match mapO (toP S n) xs with | some ys => some (PyData.tuple ys) | none => none) = some pd := h
    split at h'
    · rename_i ys hy
      cases h'
      exact Dp.tup (SqT.of s1) (mapO_dp (fun d pd v q q' => toP_dp hS n d pd v q q') hy r1)
    · cases h'
  | n + 1, .ty k, pd, v, h, r => by cases h
  | n + 1, .scr k, pd, v, h, r => by cases h
  | n + 1, .ref p, pd, v, h, r => by
    obtain ⟨lp, e⟩ := rel_ref.mp r
    rw [e]
    have h' : (match S.get p with
      | some (.lst xs) => (match mapO (toP S n) xs with
        | some ys => some (PyData.list ys)
        | none => none)
      | some (.rol xs) => (match mapO (toP S n) xs with
        | some ys => some (PyData.list ys)
        | none => none)
      | _ => none) = some pd := h
    split at h'
    · rename_i xs hg
      obtain ⟨vs, a1, r1⟩ := st_lst hS lp hg
      split at h'
      · rename_i ys hy
        cases h'
        exact Dp.lst (SqL.of a1) (mapO_dp (fun d pd v q q' => toP_dp hS n d pd v q q') hy r1)
      · cases h'
    · rename_i xs hg
      obtain ⟨o, u, h1, h2, h3⟩ := hS.at_ p lp
      rw [hg] at h1
      cases h1
      obtain ⟨o', vs, e', r1⟩ := h3
      split at h'
      · rename_i ys hy
        cases h'
        exact Dp.lst (Or.inl (Or.inr ⟨o', by rw [h2, e']⟩)) (mapO_dp (fun d pd v q q' => toP_dp hS n d pd v q q') hy r1)
      · cases h'
    · cases h'

/-! ### == -/
def natsEq : List Nat → List Nat → Bool
  | [], [] => true
  | x :: xs, y :: ys => bif Nat.beq x y then natsEq xs ys else false
  | _, _ => false
theorem natsEq_iff : ∀ xs ys : List Nat, natsEq xs ys = true ↔ xs = ys
  | [], [] => by simp [natsEq]
  | [], y :: ys => by simp [natsEq]
  | x :: xs, [] => by simp [natsEq]
  | x :: xs, y :: ys => by
    unfold natsEq
    cases h : Nat.beq x y with
    | true => simp [natsEq_iff xs ys, Nat.eq_of_beq_eq_true h]
    | false =>
      have : x ≠ y := fun e => by subst e; simp at h
      simp [this]
def strEq (x y : Str) : Bool := natsEq x.cps.toList y.cps.toList
theorem strEq_iff (x y : Str) : strEq x y = true ↔ x = y := by
  unfold strEq
  rw [natsEq_iff]
  constructor
  · intro h
    cases x; cases y
    simp at h
    rw [h]
  · intro h; rw [h]
theorem strEq_dec (x y : Str) : decide (V.str x = V.str y) = strEq x y := by
  rw [Bool.eq_iff_iff, strEq_iff]
  simp
mutual
def eqP : PyData → PyData → Bool
  | .none, .none => true
  | .bool a, .bool b => a == b
  | .int i, .int j => decide (i = j)
  | .str x, .str y => strEq x y
  | .list xs, .list ys => eqPs xs ys
  | .tuple xs, .tuple ys => eqPs xs ys
  | _, _ => false
def eqPs : List PyData → List PyData → Bool
  | [], [] => true
  | x :: xs, y :: ys => bif eqP x y then eqPs xs ys else false
  | _, _ => false
end
mutual
theorem eqP_eq : ∀ a b : PyData, eqP a b = true → a = b
  | .none, b, h => by cases b <;> first | rfl | (unfold eqP at h; cases h)
  | .bool x, b, h => by
    cases b <;> unfold eqP at h <;> first | (cases h; done) | skip
    rw [eq_of_beq h]
  | .int x, b, h => by
    cases b <;> unfold eqP at h <;> first | (cases h; done) | skip
    rw [of_decide_eq_true h]
  | .str x, b, h => by
    cases b <;> unfold eqP at h <;> first | (cases h; done) | skip
    rw [(strEq_iff _ _).mp h]
  | .list x, b, h => by
    cases b <;> unfold eqP at h <;> first | (cases h; done) | skip
    rw [eqPs_eq _ _ h]
  | .tuple x, b, h => by
    cases b <;> unfold eqP at h <;> first | (cases h; done) | skip
    rw [eqPs_eq _ _ h]
  | .dict x, b, h => by cases b <;> (unfold eqP at h; cases h)
theorem eqPs_eq : ∀ a b : List PyData, eqPs a b = true → a = b
  | [], [], _ => rfl
  | [], y :: ys, h => by unfold eqPs at h; cases h
  | x :: xs, [], h => by unfold eqPs at h; cases h
  | x :: xs, y :: ys, h => by
    unfold eqPs at h
    cases h1 : eqP x y with
    | false => rw [h1] at h; cases h
    | true => rw [h1] at h; rw [eqP_eq x y h1, eqPs_eq xs ys h]
end

def bothP (S : Sto) (x y : D) : Option Bool := match toP S 50 x, toP S 50 y with
  | some a, some b => bif SeqAt.shaped a && SeqAt.shaped b then some (PyData.eqv a b) else none
  | _, _ => none
/-- whether two values are equal -/
def eqB (S : Sto) : D → D → Option Bool
  | .int i, .int j => some (decide (i = j))
  | .str x, .str y => some (strEq x y)
  | .bl a, .bl b => some (a == b)
  | .non, .non => some true
  | .non, .int _ | .int _, .non | .non, .bl _ | .bl _, .non | .non, .str _ | .str _, .non => some false
  | .int _, .str _ | .str _, .int _ | .bl _, .str _ | .str _, .bl _ => some false
  | .rep a, .rep b => bif eqP a b then some true else some (strEq a.shown b.shown)
  | .rep a, .str b => some (strEq a.shown b)
  | .str a, .rep b => some (strEq a b.shown)
  | x, y => bothP S x y
def eqD (x y : D) (S : Sto) : R D := match eqB S x y with
  | some b => .ok (.bl b) S
  | none => .no
def neD (x y : D) (S : Sto) : R D := match eqB S x y with
  | some b => .ok (.bl (!b)) S
  | none => .no
def rEqA (K : PySem.W.Frag) : R2 := fun x y H Q => rEq x y H Q ∨ rEqD K x y H Q
def rNeA (K : PySem.W.Frag) : R2 := fun x y H Q => rNe x y H Q ∨ rNeD K x y H Q

/-- what is shown by eqB -/
def EqW (K : PySem.W.Frag) (H : Hp) (v u : V) (b : Bool) : Prop := (scal v u = true ∧ decide (v = u) = b) ∨ ∃ d e, Dp K H v d ∧ Dp K H u e ∧ SeqAt.shaped d = true ∧ SeqAt.shaped e = true ∧ PyData.eqv d e = b
theorem bothP_w {K : PySem.W.Frag} {H : Hp} {ρ : P → Addr} {S : Sto} {x y : D} {v u : V} {b : Bool} (hS : StRel K H ρ S) (hx : RelD K H ρ S.nx x v) (hy : RelD K H ρ S.nx y u) (h : bothP S x y = some b) : EqW K H v u b := by
  unfold bothP at h
  split at h
  · rename_i a c ha hc
    cases hb : (SeqAt.shaped a && SeqAt.shaped c) with
    | false => rw [hb] at h; cases h
    | true =>
      rw [hb] at h
      simp only [Bool.and_eq_true] at hb
      exact Or.inr ⟨a, c, toP_dp hS _ _ _ _ ha hx, toP_dp hS _ _ _ _ hc hy, hb.1, hb.2, Option.some.inj h⟩
  · cases h
theorem eqB_w {K : PySem.W.Frag} {H : Hp} {ρ : P → Addr} {S : Sto} {x y : D} {v u : V} {b : Bool} (hS : StRel K H ρ S) (hx : RelD K H ρ S.nx x v) (hy : RelD K H ρ S.nx y u) (h : eqB S x y = some b) : EqW K H v u b := by
  unfold eqB at h
  split at h
  · rw [rel_int.mp hx, rel_int.mp hy]
    cases h
    exact Or.inl ⟨rfl, by simp⟩
  · rw [rel_str.mp hx, rel_str.mp hy]
    cases h
    exact Or.inl ⟨rfl, strEq_dec _ _⟩
  · rw [rel_bl.mp hx, rel_bl.mp hy]
    cases h
    exact Or.inl ⟨rfl, by rw [Bool.eq_iff_iff]; simp⟩
  · rw [rel_non.mp hx, rel_non.mp hy]
    cases h
    exact Or.inl ⟨rfl, rfl⟩
  · rw [rel_non.mp hx, rel_int.mp hy]; cases h; exact Or.inl ⟨rfl, rfl⟩
  · rw [rel_int.mp hx, rel_non.mp hy]; cases h; exact Or.inl ⟨rfl, rfl⟩
  · rw [rel_non.mp hx, rel_bl.mp hy]; cases h; exact Or.inl ⟨rfl, rfl⟩
  · rw [rel_bl.mp hx, rel_non.mp hy]; cases h; exact Or.inl ⟨rfl, rfl⟩
  · rw [rel_non.mp hx, rel_str.mp hy]; cases h; exact Or.inl ⟨rfl, rfl⟩
  · rw [rel_str.mp hx, rel_non.mp hy]; cases h; exact Or.inl ⟨rfl, rfl⟩
  · rw [rel_int.mp hx, rel_str.mp hy]; cases h; exact Or.inl ⟨rfl, rfl⟩
  · rw [rel_str.mp hx, rel_int.mp hy]; cases h; exact Or.inl ⟨rfl, rfl⟩
  · rw [rel_bl.mp hx, rel_str.mp hy]; cases h; exact Or.inl ⟨rfl, rfl⟩
  · rw [rel_str.mp hx, rel_bl.mp hy]; cases h; exact Or.inl ⟨rfl, rfl⟩
  · rename_i a c
    rw [rel_rep.mp hx, rel_rep.mp hy]
    cases he : eqP a c with
    | true =>
      rw [he] at h
      cases h
      rw [eqP_eq _ _ he]
      exact Or.inl ⟨rfl, by simp⟩
    | false =>
      rw [he] at h
      cases h
      exact Or.inl ⟨rfl, strEq_dec _ _⟩
  · rw [rel_rep.mp hx, rel_str.mp hy]
    cases h
    exact Or.inl ⟨rfl, strEq_dec _ _⟩
  · rw [rel_str.mp hx, rel_rep.mp hy]
    cases h
    exact Or.inl ⟨rfl, strEq_dec _ _⟩
  · exact bothP_w hS hx hy h
theorem eqD_ok {K : PySem.W.Frag} : OpD K eqD (rEqA K) := by
  intro ρ S H x y v u Q hS hx hy hP
  unfold eqD at hP
  split at hP
  · rename_i b hb
    have q := post_c hS hP (rel_bl.mpr rfl)
    rcases eqB_w hS hx hy hb with ⟨h1, h2⟩ | ⟨d, e, h1, h2, h3, h4, h5⟩
    · exact Or.inl ⟨h1, by rw [h2]; exact q⟩
    · exact Or.inr ⟨d, e, h1, h2, h3, h4, by rw [h5]; exact q⟩
  · exact hP.elim
theorem neD_ok {K : PySem.W.Frag} : OpD K neD (rNeA K) := by
  intro ρ S H x y v u Q hS hx hy hP
  unfold neD at hP
  split at hP
  · rename_i b hb
    have q := post_c hS hP (rel_bl.mpr rfl)
    rcases eqB_w hS hx hy hb with ⟨h1, h2⟩ | ⟨d, e, h1, h2, h3, h4, h5⟩
    · exact Or.inl ⟨h1, by rw [h2]; exact q⟩
    · exact Or.inr ⟨d, e, h1, h2, h3, h4, by rw [h5]; exact q⟩
  · exact hP.elim
theorem op_eqA {X : Cx} (hu : X.A.units + 64 < cLine) : OpR X (compareOp .Eq) (rEqA X.K) := op_or op_eq (op_eqD hu)
theorem op_neA {X : Cx} (hu : X.A.units + 64 < cLine) : OpR X (compareOp .NotEq) (rNeA X.K) := op_or op_ne (op_neD hu)

/-! ### order -/
def ltStr (x y : Str) : Bool := decide (x.cps.toList < y.cps.toList)
def ltD : D → D → Sto → R D
  | .int i, .int j, S => .ok (.bl (decide (i < j))) S
  | .str x, .str y, S => .ok (.bl (ltStr x y)) S
  | _, _, _ => .no
def leD : D → D → Sto → R D
  | .int i, .int j, S => .ok (.bl (decide (i ≤ j))) S
  | .str x, .str y, S => .ok (.bl (!ltStr y x)) S
  | _, _, _ => .no
def gtD : D → D → Sto → R D
  | .int i, .int j, S => .ok (.bl (decide (j < i))) S
  | .str x, .str y, S => .ok (.bl (ltStr y x)) S
  | _, _, _ => .no
def geD : D → D → Sto → R D
  | .int i, .int j, S => .ok (.bl (decide (j ≤ i))) S
  | .str x, .str y, S => .ok (.bl (!ltStr x y)) S
  | _, _, _ => .no
def rStrB (g : Str → Str → Bool) : R2 := fun x y H Q => ∃ i j, x = .str i ∧ y = .str j ∧ Q (.bl (g i j)) H
section
variable {X : Cx} {K : PySem.W.Frag}
def rLtA : R2 := fun x y H Q => rI0 (fun i j => .bl (decide (i < j))) x y H Q ∨ rStrB (fun i j => decide (i.cps.toList < j.cps.toList)) x y H Q
def rLeA : R2 := fun x y H Q => rI0 (fun i j => .bl (decide (i ≤ j))) x y H Q ∨ rStrB (fun i j => !decide (j.cps.toList < i.cps.toList)) x y H Q
def rGtA : R2 := fun x y H Q => rI0 (fun i j => .bl (decide (j < i))) x y H Q ∨ rStrB (fun i j => decide (j.cps.toList < i.cps.toList)) x y H Q
def rGeA : R2 := fun x y H Q => rI0 (fun i j => .bl (decide (j ≤ i))) x y H Q ∨ rStrB (fun i j => !decide (i.cps.toList < j.cps.toList)) x y H Q
theorem op_ltA : OpR X (compareOp .Lt) rLtA := op_or op_lt op_lt_str
theorem op_leA : OpR X (compareOp .LtE) rLeA := op_or op_le op_le_str
theorem op_gtA : OpR X (compareOp .Gt) rGtA := op_or op_gt op_gt_str
theorem op_geA : OpR X (compareOp .GtE) rGeA := op_or op_ge op_ge_str
theorem ltD_ok : OpD K ltD rLtA := by
  intro ρ S H x y v u Q hS hx hy hP
  cases x <;> cases y <;> first | exact hP.elim | skip
  · rw [rel_int] at hx hy; subst hx hy
    exact Or.inl ⟨_, _, rfl, rfl, post_c hS hP (rel_bl.mpr rfl)⟩
  · rw [rel_str] at hx hy; subst hx hy
    exact Or.inr ⟨_, _, rfl, rfl, post_c hS hP (rel_bl.mpr rfl)⟩
theorem leD_ok : OpD K leD rLeA := by
  intro ρ S H x y v u Q hS hx hy hP
  cases x <;> cases y <;> first | exact hP.elim | skip
  · rw [rel_int] at hx hy; subst hx hy
    exact Or.inl ⟨_, _, rfl, rfl, post_c hS hP (rel_bl.mpr rfl)⟩
  · rw [rel_str] at hx hy; subst hx hy
    exact Or.inr ⟨_, _, rfl, rfl, post_c hS hP (rel_bl.mpr rfl)⟩
theorem gtD_ok : OpD K gtD rGtA := by
  intro ρ S H x y v u Q hS hx hy hP
  cases x <;> cases y <;> first | exact hP.elim | skip
  · rw [rel_int] at hx hy; subst hx hy
    exact Or.inl ⟨_, _, rfl, rfl, post_c hS hP (rel_bl.mpr rfl)⟩
  · rw [rel_str] at hx hy; subst hx hy
    exact Or.inr ⟨_, _, rfl, rfl, post_c hS hP (rel_bl.mpr rfl)⟩
theorem geD_ok : OpD K geD rGeA := by
  intro ρ S H x y v u Q hS hx hy hP
  cases x <;> cases y <;> first | exact hP.elim | skip
  · rw [rel_int] at hx hy; subst hx hy
    exact Or.inl ⟨_, _, rfl, rfl, post_c hS hP (rel_bl.mpr rfl)⟩
  · rw [rel_str] at hx hy; subst hx hy
    exact Or.inr ⟨_, _, rfl, rfl, post_c hS hP (rel_bl.mpr rfl)⟩
end
end Ev

namespace Ev
open PySem L2

/-! ### truth, tests -/
def truB (S : Sto) : D → Option Bool
  | .non => some false
  | .bl b => some b
  | .int i => some (i != 0)
  | .str x => bif decide (x.length ≤ line) then some ((x.length : Int) != 0) else none
  | .tup xs => some (!xs.isEmpty)
  | .ref p => match S.get p with
    | some (.lst xs) => some (!xs.isEmpty)
    | some (.rol xs) => some (!xs.isEmpty)
    | _ => none
  | _ => none
theorem isEmpty_ds {K : PySem.W.Frag} {H : Hp} {ρ : P → Addr} {c : P} {xs : List D} {vs : List V} (r : RelDs K H ρ c xs vs) : xs.isEmpty = vs.isEmpty := by
  cases xs with
  | nil => rw [rels_nil.mp r]; rfl
  | cons x xs => obtain ⟨v, r', e, _⟩ := rels_cons.mp r; rw [e]; rfl
theorem st_rol {K : PySem.W.Frag} {ρ : P → Addr} {S : Sto} {H : Hp} {p : P} {xs : List D} (hS : StRel K H ρ S) (hp : p.toNat < S.nx.toNat) (hg : S.get p = some (.rol xs)) : ∃ o vs, H (ρ p) = some (.frz o (.lst vs)) ∧ RelDs K H ρ S.nx xs vs := by
  obtain ⟨o, u, h1, h2, h3⟩ := hS.at_ p hp
  rw [hg] at h1
  cases h1
  obtain ⟨o', vs, e, h⟩ := h3
  exact ⟨o', vs, by rw [h2, e], h⟩
/-- a list of the store, read -/
def lstOf (S : Sto) (p : P) : Option (List D) := match S.get p with
  | some (.lst xs) => some xs
  | some (.rol xs) => some xs
  | _ => none
theorem lst_sq {K : PySem.W.Frag} {ρ : P → Addr} {S : Sto} {H : Hp} {p : P} {xs : List D} (hS : StRel K H ρ S) (hp : p.toNat < S.nx.toNat) (hg : lstOf S p = some xs) : ∃ vs, SqL K H (ρ p) vs ∧ RelDs K H ρ S.nx xs vs := by
  unfold lstOf at hg
  split at hg
  · rename_i ys h
    cases hg
    obtain ⟨vs, a, r⟩ := st_lst hS hp h
    exact ⟨vs, SqL.of a, r⟩
  · rename_i ys h
    cases hg
    obtain ⟨o, vs, a, r⟩ := st_rol hS hp h
    exact ⟨vs, Or.inl (Or.inr ⟨o, a⟩), r⟩
  · cases hg
theorem truB_w {K : PySem.W.Frag} {H : Hp} {ρ : P → Addr} {S : Sto} {x : D} {v : V} {b : Bool} (hS : StRel K H ρ S) (hx : RelD K H ρ S.nx x v) (h : truB S x = some b) : TruV K v H b := by
  cases x with
  | non => rw [rel_non.mp hx]; cases h; exact rfl
  | bl b => rw [rel_bl.mp hx]; cases h; exact rfl
  | int b => rw [rel_int.mp hx]; cases h; exact rfl
  | str x =>
    rw [rel_str.mp hx]
    have h : (bif decide (x.length ≤ line) then some ((x.length : Int) != 0) else none) = some b := h
    cases hl : decide (x.length ≤ line) with
    | false => rw [hl] at h; cases h
    | true =>
      rw [hl] at h
      cases h
      exact ⟨by rw [← line_eq]; exact of_decide_eq_true hl, rfl⟩
  | rep x => cases h
  | ty k => cases h
  | scr k => cases h
  | tup xs =>
    obtain ⟨a, vs, e, s1, r1⟩ := rel_tup.mp hx
    rw [e]
    cases h
    exact Or.inr (Or.inl ⟨vs, SqT.of s1, by rw [isEmpty_ds r1]⟩)
  | ref p =>
    obtain ⟨lp, e⟩ := rel_ref.mp hx
    rw [e]
    have h' : (match S.get p with
      | some (.lst xs) => some (!xs.isEmpty)
      | some (.rol xs) => some (!xs.isEmpty)
      | _ => none) = some b := h
    have : ∃ xs, lstOf S p = some xs ∧ b = !xs.isEmpty := by
      unfold lstOf
      split at h'
      · rename_i xs hg; cases h'; exact ⟨xs, rfl, rfl⟩
      · rename_i xs hg; cases h'; exact ⟨xs, rfl, rfl⟩
      · cases h'
    obtain ⟨xs, hl, hb⟩ := this
    obtain ⟨vs, s1, r1⟩ := lst_sq hS lp hl
    exact Or.inl ⟨vs, s1, by rw [hb, isEmpty_ds r1]⟩

def truR (d : D) (S : Sto) : R Bool := match truB S d with
  | some b => .ok b S
  | none => .no
def blR (d : D) (S : Sto) : R Bool := match d with
  | .bl b => .ok b S
  | _ => .no
def bTru (f : EF) : BF := fun e S => (f e S).bind truR
def bCmp (f : EF) : BF := fun e S => (f e S).bind blR
def bNot (f : BF) : BF := fun e S => (f e S).bind fun b S1 => .ok (!b) S1
def bAnd (f g : BF) : BF := fun e S => (f e S).bind fun b S1 => bif b then g e S1 else .ok false S1
def bOr (f g : BF) : BF := fun e S => (f e S).bind fun b S1 => bif b then .ok true S1 else g e S1
def bIf (t : BF) (f g : BF) : BF := fun e S => (t e S).bind fun b S1 => bif b then f e S1 else g e S1
def eIf (t : BF) (f g : EF) : EF := fun e S => (t e S).bind fun b S1 => bif b then f e S1 else g e S1
def eAnd (f g : EF) : EF := fun e S => (f e S).bind fun d S1 => match truB S1 d with
  | some true => g e S1
  | some false => .ok d S1
  | none => .no
def eOr (f g : EF) : EF := fun e S => (f e S).bind fun d S1 => match truB S1 d with
  | some true => .ok d S1
  | some false => g e S1
  | none => .no
def eNot (f : EF) : EF := fun e S => (f e S).bind fun d S1 => match truB S1 d with
  | some b => .ok (.bl (!b)) S1
  | none => .no

/-- two steps, the first of whatever kind -/
theorem PostB.bind {K : PySem.W.Frag} {ρ : P → Addr} {c : P} {H : Hp} {r : R D} {Q : Bool → Hp → Prop} {g : D → Sto → R Bool} (h : PostB K ρ c H Q (r.bind g)) :
    PostR K ρ c H (fun v H1 => ∃ ρ1 S1 d, Fut K ρ c H ρ1 S1 H1 ∧ RelD K H1 ρ1 S1.nx d v ∧ PostB K ρ1 S1.nx H1 Q (g d S1)) r := by
  cases r with
  | ok d S' =>
    intro ρ' H' v f r
    refine ⟨ρ', S', d, f, r, ?_⟩
    have h' : PostB K ρ c H Q (g d S') := h
    generalize g d S' = z at h'
    cases z with
    | ok d2 S2 => exact fun ρ2 H2 f2 => h' ρ2 H2 (f.trans f2)
    | exc _ _ => exact h'
    | no => exact h'
  | exc _ _ => exact h
  | no => exact h
theorem PostB.bindB {K : PySem.W.Frag} {ρ : P → Addr} {c : P} {H : Hp} {r : R Bool} {Q : Bool → Hp → Prop} {g : Bool → Sto → R Bool} (h : PostB K ρ c H Q (r.bind g)) :
    PostB K ρ c H (fun b H1 => ∃ ρ1 S1, Fut K ρ c H ρ1 S1 H1 ∧ PostB K ρ1 S1.nx H1 Q (g b S1)) r := by
  cases r with
  | ok d S' =>
    intro ρ' H' f
    refine ⟨ρ', S', f, ?_⟩
    have h' : PostB K ρ c H Q (g d S') := h
    generalize g d S' = z at h'
    cases z with
    | ok d2 S2 => exact fun ρ2 H2 f2 => h' ρ2 H2 (f.trans f2)
    | exc _ _ => exact h'
    | no => exact h'
  | exc _ _ => exact h
  | no => exact h
theorem PostR.bindB {K : PySem.W.Frag} {ρ : P → Addr} {c : P} {H : Hp} {r : R Bool} {Q : VK} {g : Bool → Sto → R D} (h : PostR K ρ c H Q (r.bind g)) :
    PostB K ρ c H (fun b H1 => ∃ ρ1 S1, Fut K ρ c H ρ1 S1 H1 ∧ PostR K ρ1 S1.nx H1 Q (g b S1)) r := by
  cases r with
  | ok d S' =>
    intro ρ' H' f
    refine ⟨ρ', S', f, ?_⟩
    have h' : PostR K ρ c H Q (g d S') := h
    generalize g d S' = z at h'
    cases z with
    | ok d2 S2 => exact fun ρ2 H2 v2 f2 r2 => h' ρ2 H2 v2 (f.trans f2) r2
    | exc _ _ => exact h'
    | no => exact h'
  | exc _ _ => exact h
  | no => exact h
theorem PostB.imp {K : PySem.W.Frag} {ρ : P → Addr} {c : P} {H : Hp} {Q Q' : Bool → Hp → Prop} {r : R Bool} (h : PostB K ρ c H Q r) (i : ∀ v H', Q v H' → Q' v H') : PostB K ρ c H Q' r := by
  cases r with
  | ok d S' => exact fun ρ' H' f => i _ _ (h ρ' H' f)
  | exc _ _ => exact h
  | no => exact h
theorem PostB.c {K : PySem.W.Frag} {ρ : P → Addr} {S : Sto} {H : Hp} {Q : Bool → Hp → Prop} {b : Bool} (hS : StRel K H ρ S) (h : PostB K ρ S.nx H Q (.ok b S)) : Q b H := h ρ H (Fut.refl hS)

section
variable {X : Cx}
theorem st_tru {a : Expr} {f : EF} (h : PE X a (tE X.K f)) (he : ∀ whole : Sem Value, PySem.isTrue a X.env whole = (do let v ← whole; standAt a.pos; holding [v] (truthy v))) : PT X a (tT X.K (bTru f)) := by
  refine PT.to (pt_truth h he) fun σ H Q hq => ?_
  obtain ⟨ρ, S, e, hS, hE, hP⟩ := hq
  refine ⟨ρ, S, e, hS, hE, PostR.imp (PostB.bind hP) fun v H1 h1 => ?_⟩
  obtain ⟨ρ1, S1, d, f1, r1, p1⟩ := h1
  unfold truR at p1
  split at p1
  · rename_i b hb
    exact ⟨b, truB_w f1.st r1 hb, PostB.c f1.st p1⟩
  · exact p1.elim
theorem st_cmp {a b : Expr} {fa fb : EF} {o : CmpOp} {op : D → D → Sto → R D} {r : R2} {pos : Pos} (ho : OpR X (compareOp o) r) (hd : OpD X.K op r) (ha : PE X a (tE X.K fa)) (hb : PE X b (tE X.K fb))
    (hm : behindInMarks o b = false) : PT X (.Compare a [o] [b] pos) (tT X.K (bCmp (eOp op fa fb))) := by
  refine PT.to (pt_cmpR ho ha hb hm) fun σ H Q hq => ?_
  obtain ⟨ρ, S, e, hS, hE, hP⟩ := hq
  have h2 : tE X.K (eOp op fa fb) σ H (fun x H' => ∃ k, x = .bl k ∧ Q k H') := by
    refine ⟨ρ, S, e, hS, hE, PostR.imp (PostB.bind hP) fun v H1 h1 => ?_⟩
    obtain ⟨ρ1, S1, d, f1, r1, p1⟩ := h1
    unfold blR at p1
    split at p1
    · exact ⟨_, rel_bl.mp r1, PostB.c f1.st p1⟩
    · exact p1.elim
  exact tE_op h2 fun ρ S e x y v u H1 hS hE rx ry hP => hd ρ S H1 x y v u _ hS rx ry hP
theorem st_not {a : Expr} {f : BF} {pos : Pos} (h : PT X a (tT X.K f)) : PT X (.UnaryOp .Not a pos) (tT X.K (bNot f)) := by
  refine PT.to (pt_not h) fun σ H Q hq => ?_
  obtain ⟨ρ, S, e, hS, hE, hP⟩ := hq
  refine ⟨ρ, S, e, hS, hE, PostB.imp (PostB.bindB hP) fun b H1 h1 => ?_⟩
  obtain ⟨ρ1, S1, f1, p1⟩ := h1
  exact PostB.c f1.st p1
theorem st_and {a b : Expr} {rest : List Expr} {f g : BF} {pos : Pos} (h : PT X a (tT X.K f)) (h' : PW X (.BoolOp .And (b :: rest) pos) (tT X.K g)) : PW X (.BoolOp .And (a :: b :: rest) pos) (tT X.K (bAnd f g)) := by
  refine PW.to (pw_and h h') fun σ H Q hq => ?_
  obtain ⟨ρ, S, e, hS, hE, hP⟩ := hq
  refine ⟨ρ, S, e, hS, hE, PostB.imp (PostB.bindB hP) fun b H1 h1 => ?_⟩
  obtain ⟨ρ1, S1, f1, p1⟩ := h1
  cases b
  · exact PostB.c f1.st p1
  · exact ⟨ρ1, S1, e, f1.st, f1.e hE, p1⟩
theorem st_or {a b : Expr} {rest : List Expr} {f g : BF} {pos : Pos} (h : PT X a (tT X.K f)) (h' : PW X (.BoolOp .Or (b :: rest) pos) (tT X.K g)) : PW X (.BoolOp .Or (a :: b :: rest) pos) (tT X.K (bOr f g)) := by
  refine PW.to (pw_or h h') fun σ H Q hq => ?_
  obtain ⟨ρ, S, e, hS, hE, hP⟩ := hq
  refine ⟨ρ, S, e, hS, hE, PostB.imp (PostB.bindB hP) fun b H1 h1 => ?_⟩
  obtain ⟨ρ1, S1, f1, p1⟩ := h1
  cases b
  · exact ⟨ρ1, S1, e, f1.st, f1.e hE, p1⟩
  · exact PostB.c f1.st p1
theorem se_if {c a b : Expr} {t : BF} {f g : EF} {pos : Pos} (hc : PT X c (tT X.K t)) (ha : PE X a (tE X.K f)) (hb : PE X b (tE X.K g)) : PE X (.IfExp c a b pos) (tE X.K (eIf t f g)) := by
  refine PE.to (pe_ifExp hc ha hb) fun σ H Q hq => ?_
  obtain ⟨ρ, S, e, hS, hE, hP⟩ := hq
  refine ⟨ρ, S, e, hS, hE, PostB.imp (PostR.bindB hP) fun b H1 h1 => ?_⟩
  obtain ⟨ρ1, S1, f1, p1⟩ := h1
  cases b
  · exact ⟨ρ1, S1, e, f1.st, f1.e hE, p1⟩
  · exact ⟨ρ1, S1, e, f1.st, f1.e hE, p1⟩
theorem se_and {a b : Expr} {rest : List Expr} {f g : EF} {pos : Pos} (h : PE X a (tE X.K f)) (h' : PE X (.BoolOp .And (b :: rest) pos) (tE X.K g)) : PE X (.BoolOp .And (a :: b :: rest) pos) (tE X.K (eAnd f g)) := by
  refine PE.to (pe_andT h h') fun σ H Q hq => ?_
  obtain ⟨ρ, S, e, hS, hE, hP⟩ := hq
  refine ⟨ρ, S, e, hS, hE, PostR.imp (PostR.bind hP) fun v H1 h1 => ?_⟩
  obtain ⟨ρ1, S1, d, f1, r1, p1⟩ := h1
  split at p1
  · rename_i hb
    exact ⟨true, truB_w f1.st r1 hb, ρ1, S1, e, f1.st, f1.e hE, p1⟩
  · rename_i hb
    exact ⟨false, truB_w f1.st r1 hb, post_c f1.st p1 r1⟩
  · exact p1.elim
theorem se_or {a b : Expr} {rest : List Expr} {f g : EF} {pos : Pos} (h : PE X a (tE X.K f)) (h' : PE X (.BoolOp .Or (b :: rest) pos) (tE X.K g)) : PE X (.BoolOp .Or (a :: b :: rest) pos) (tE X.K (eOr f g)) := by
  refine PE.to (pe_orT h h') fun σ H Q hq => ?_
  obtain ⟨ρ, S, e, hS, hE, hP⟩ := hq
  refine ⟨ρ, S, e, hS, hE, PostR.imp (PostR.bind hP) fun v H1 h1 => ?_⟩
  obtain ⟨ρ1, S1, d, f1, r1, p1⟩ := h1
  split at p1
  · rename_i hb
    exact ⟨true, truB_w f1.st r1 hb, post_c f1.st p1 r1⟩
  · rename_i hb
    exact ⟨false, truB_w f1.st r1 hb, ρ1, S1, e, f1.st, f1.e hE, p1⟩
  · exact p1.elim
theorem se_not {a : Expr} {f : EF} {pos : Pos} (h : PE X a (tE X.K f)) : PE X (.UnaryOp .Not a pos) (tE X.K (eNot f)) := by
  refine PE.to (pe_notT h) fun σ H Q hq => ?_
  obtain ⟨ρ, S, e, hS, hE, hP⟩ := hq
  refine ⟨ρ, S, e, hS, hE, PostR.imp (PostR.bind hP) fun v H1 h1 => ?_⟩
  obtain ⟨ρ1, S1, d, f1, r1, p1⟩ := h1
  split at p1
  · rename_i b hb
    exact ⟨b, truB_w f1.st r1 hb, post_c f1.st p1 (rel_bl.mpr rfl)⟩
  · exact p1.elim

/-! ### argument lists, displays -/
def aNil : LF := fun _ S => .ok [] S
def aCons (f : EF) (g : LF) : LF := fun e S => (f e S).bind fun d S1 => (g e S1).bind fun ds S2 => .ok (d :: ds) S2
theorem PostL.bind {K : PySem.W.Frag} {ρ : P → Addr} {c : P} {H : Hp} {r : R D} {Q : List V → Hp → Prop} {g : D → Sto → R (List D)} (h : PostL K ρ c H Q (r.bind g)) :
    PostR K ρ c H (fun v H1 => ∃ ρ1 S1 d, Fut K ρ c H ρ1 S1 H1 ∧ RelD K H1 ρ1 S1.nx d v ∧ PostL K ρ1 S1.nx H1 Q (g d S1)) r := by
  cases r with
  | ok d S' =>
    intro ρ' H' v f r
    refine ⟨ρ', S', d, f, r, ?_⟩
    have h' : PostL K ρ c H Q (g d S') := h
    generalize g d S' = z at h'
    cases z with
    | ok d2 S2 => exact fun ρ2 H2 v2 f2 r2 => h' ρ2 H2 v2 (f.trans f2) r2
    | exc _ _ => exact h'
    | no => exact h'
  | exc _ _ => exact h
  | no => exact h
theorem PostL.bindL {K : PySem.W.Frag} {ρ : P → Addr} {c : P} {H : Hp} {r : R (List D)} {Q : List V → Hp → Prop} {g : List D → Sto → R (List D)} (h : PostL K ρ c H Q (r.bind g)) :
    PostL K ρ c H (fun v H1 => ∃ ρ1 S1 d, Fut K ρ c H ρ1 S1 H1 ∧ RelDs K H1 ρ1 S1.nx d v ∧ PostL K ρ1 S1.nx H1 Q (g d S1)) r := by
  cases r with
  | ok d S' =>
    intro ρ' H' v f r
    refine ⟨ρ', S', d, f, r, ?_⟩
    have h' : PostL K ρ c H Q (g d S') := h
    generalize g d S' = z at h'
    cases z with
    | ok d2 S2 => exact fun ρ2 H2 v2 f2 r2 => h' ρ2 H2 v2 (f.trans f2) r2
    | exc _ _ => exact h'
    | no => exact h'
  | exc _ _ => exact h
  | no => exact h
theorem PostR.bindL {K : PySem.W.Frag} {ρ : P → Addr} {c : P} {H : Hp} {r : R (List D)} {Q : VK} {g : List D → Sto → R D} (h : PostR K ρ c H Q (r.bind g)) :
    PostL K ρ c H (fun v H1 => ∃ ρ1 S1 d, Fut K ρ c H ρ1 S1 H1 ∧ RelDs K H1 ρ1 S1.nx d v ∧ PostR K ρ1 S1.nx H1 Q (g d S1)) r := by
  cases r with
  | ok d S' =>
    intro ρ' H' v f r
    refine ⟨ρ', S', d, f, r, ?_⟩
    have h' : PostR K ρ c H Q (g d S') := h
    generalize g d S' = z at h'
    cases z with
    | ok d2 S2 => exact fun ρ2 H2 v2 f2 r2 => h' ρ2 H2 v2 (f.trans f2) r2
    | exc _ _ => exact h'
    | no => exact h'
  | exc _ _ => exact h
  | no => exact h
theorem PostL.imp {K : PySem.W.Frag} {ρ : P → Addr} {c : P} {H : Hp} {Q Q' : List V → Hp → Prop} {r : R (List D)} (h : PostL K ρ c H Q r) (i : ∀ v H', Q v H' → Q' v H') : PostL K ρ c H Q' r := by
  cases r with
  | ok d S' => exact fun ρ' H' v f r => i _ _ (h ρ' H' v f r)
  | exc _ _ => exact h
  | no => exact h
theorem PostL.c {K : PySem.W.Frag} {ρ : P → Addr} {S : Sto} {H : Hp} {Q : List V → Hp → Prop} {ds : List D} {vs : List V} (hS : StRel K H ρ S) (h : PostL K ρ S.nx H Q (.ok ds S)) (r : RelDs K H ρ S.nx ds vs) : Q vs H := h ρ H vs (Fut.refl hS) r
theorem sa_nil : PA X [] (tA X.K aNil) := by
  refine PA.to pa_nil fun σ H Q hq => ?_
  obtain ⟨ρ, S, e, hS, hE, hP⟩ := hq
  exact PostL.c hS hP (rels_nil.mpr rfl)
def notStar : Expr → Bool
  | .Starred .. => false
  | _ => true
theorem starEach_cons {e : Expr} {es : List Expr} {env : PySem.Env} (h : notStar e = true) : starEach (e :: es) env = (false, eval e env) :: starEach es env := by
  cases e <;> first | rfl | cases h
theorem sa_cons {e : Expr} {es : List Expr} {f : EF} {g : LF} (hn : notStar e = true) (h : PE X e (tE X.K f)) (h' : PA X es (tA X.K g)) : PA X (e :: es) (tA X.K (aCons f g)) := by
  refine PA.to (pa_cons h h' (starEach_cons hn)) fun σ H Q hq => ?_
  obtain ⟨ρ, S, e, hS, hE, hP⟩ := hq
  refine ⟨ρ, S, e, hS, hE, PostR.imp (PostL.bind hP) fun v H1 h1 => ?_⟩
  obtain ⟨ρ1, S1, d, f1, r1, p1⟩ := h1
  refine ⟨ρ1, S1, e, f1.st, f1.e hE, PostL.imp (PostL.bindL p1) fun vs H2 h2 => ?_⟩
  obtain ⟨ρ2, S2, ds, f2, r2, p2⟩ := h2
  exact PostL.c f2.st p2 (rels_cons.mpr ⟨v, vs, rfl, f2.d r1, r2⟩)

def tupR (ds : List D) (S : Sto) : R D := bif decide (ds.length ≤ line) then .ok (.tup ds) S else .no
def lstR (ds : List D) (S : Sto) : R D := bif decide (ds.length ≤ line) then .ok (.ref S.nx) (S.new (.lst ds)) else .no
def eTup (f : LF) : EF := fun e S => (f e S).bind tupR
def eLst (f : LF) : EF := fun e S => (f e S).bind lstR
theorem se_tup {es : List Expr} {f : LF} {k : Nat} {pos : Pos} (h : PA X es (tA X.K f)) : PE X (.Tuple es k pos) (tE X.K (eTup f)) := by
  refine PE.to (pe_tup h) fun σ H Q hq => ?_
  obtain ⟨ρ, S, e, hS, hE, hP⟩ := hq
  refine ⟨ρ, S, e, hS, hE, PostL.imp (PostR.bindL hP) fun v H1 h1 => ?_⟩
  obtain ⟨ρ1, S1, d, f1, r1, p1⟩ := h1
  obtain ⟨hl, p2⟩ := bif_post p1
  exact ⟨by rw [← r1.length, ← line_eq]; exact of_decide_eq_true hl, fun p hp => post_tup f1.st p2 r1 p hp⟩
theorem se_lst {es : List Expr} {f : LF} {pos : Pos} (h : PA X es (tA X.K f)) : PE X (.List es pos) (tE X.K (eLst f)) := by
  refine PE.to (pe_lst h) fun σ H Q hq => ?_
  obtain ⟨ρ, S, e, hS, hE, hP⟩ := hq
  refine ⟨ρ, S, e, hS, hE, PostL.imp (PostR.bindL hP) fun v H1 h1 => ?_⟩
  obtain ⟨ρ1, S1, d, f1, r1, p1⟩ := h1
  obtain ⟨hl, p2⟩ := bif_post p1
  exact ⟨by rw [← r1.length, ← line_eq]; exact of_decide_eq_true hl, fun p hp => post_new f1.st p2 r1 p hp⟩
end
end Ev

namespace Ev
open PySem L2

/-! ### keys of dicts -/
def keyOf : D → Option Key
  | .int i => some (.inl i)
  | .str x => some (.inr x)
  | _ => none
def keysOf : D → Option (List Key)
  | .tup xs => mapO keyOf xs
  | _ => none
def keyEq : Key → Key → Bool
  | .inl i, .inl j => decide (i = j)
  | .inr x, .inr y => strEq x y
  | _, _ => false
def keysEq : List Key → List Key → Bool
  | [], [] => true
  | x :: xs, y :: ys => bif keyEq x y then keysEq xs ys else false
  | _, _ => false
theorem keyEq_iff : ∀ a b : Key, keyEq a b = true ↔ a = b
  | .inl i, .inl j => by simp [keyEq]
  | .inr x, .inr y => by simp [keyEq, strEq_iff]
  | .inl i, .inr y => by simp [keyEq]
  | .inr x, .inl j => by simp [keyEq]
theorem keysEq_iff : ∀ a b : List Key, keysEq a b = true ↔ a = b
  | [], [] => by simp [keysEq]
  | [], y :: ys => by simp [keysEq]
  | x :: xs, [] => by simp [keysEq]
  | x :: xs, y :: ys => by
    unfold keysEq
    cases h : keyEq x y with
    | true => simp [keysEq_iff xs ys, (keyEq_iff x y).mp h]
    | false =>
      have : x ≠ y := fun e => by rw [(keyEq_iff x y).mpr e] at h; cases h
      simp [this]
theorem keyOf_kD : ∀ k : Key, keyOf (kD k) = some k
  | .inl _ => rfl
  | .inr _ => rfl
theorem keyOf_eq {d : D} {k : Key} (h : keyOf d = some k) : d = kD k := by
  cases d <;> first | (cases h; done) | (cases h; rfl)
theorem mapO_key : ∀ {xs : List D} {l : List Key}, mapO keyOf xs = some l → xs = l.map kD
  | [], l, h => by cases h; rfl
  | x :: xs, l, h => by
    unfold mapO at h
    split at h
    · cases h
    · rename_i y hy
      split at h
      · cases h
      · rename_i zs hz
        cases h
        rw [keyOf_eq hy, mapO_key hz]
        rfl
theorem keysOf_eq {d : D} {l : List Key} (h : keysOf d = some l) : d = kT l := by
  cases d <;> first | (cases h; done) | skip
  rw [mapO_key h]
  rfl
theorem kD_inj {a b : Key} (h : kD a = kD b) : a = b := Option.some.inj ((keyOf_kD a).symm.trans (by rw [h]; exact keyOf_kD b))
theorem kT_inj {a b : List Key} (h : kT a = kT b) : a = b := by
  have h' : a.map kD = b.map kD := by
    unfold kT at h
    injection h
  exact (List.map_inj_right (fun _ _ e => kD_inj e)).mp h'

/-- what a dict holds under a key: keys by their own kind -/
def valA {κ : Type} (of : D → Option κ) (eq : κ → κ → Bool) (k : κ) : List (D × D) → Option D
  | [] => none
  | p :: r => match of p.1 with
    | some k' => bif eq k' k then some p.2 else valA of eq k r
    | none => valA of eq k r
def hasA {κ : Type} (of : D → Option κ) (eq : κ → κ → Bool) (k : κ) : List (D × D) → Bool
  | [] => false
  | p :: r => match of p.1 with
    | some k' => bif eq k' k then true else hasA of eq k r
    | none => hasA of eq k r
def mapA {κ : Type} (of : D → Option κ) (eq : κ → κ → Bool) (k : κ) (v : D) : List (D × D) → List (D × D)
  | [] => []
  | p :: r => match of p.1 with
    | some k' => bif eq k' k then (p.1, v) :: mapA of eq k v r else p :: mapA of eq k v r
    | none => p :: mapA of eq k v r
def putA {κ : Type} (of : D → Option κ) (eq : κ → κ → Bool) (k : κ) (kd v : D) (kvs : List (D × D)) : List (D × D) :=
  bif hasA of eq k kvs then mapA of eq k v kvs else kvs ++ [(kd, v)]

structure KeyOk {κ : Type} [DecidableEq κ] (f : κ → D) (of : D → Option κ) (eq : κ → κ → Bool) : Prop where
  of_f : ∀ k, of (f k) = some k
  eq_iff : ∀ a b, eq a b = true ↔ a = b
theorem kDok : KeyOk kD keyOf keyEq := ⟨keyOf_kD, keyEq_iff⟩
theorem mapO_kD : ∀ l : List Key, mapO keyOf (l.map kD) = some l
  | [] => rfl
  | k :: l => by
    rw [List.map_cons]
    unfold mapO
    rw [keyOf_kD, mapO_kD l]
theorem kTok : KeyOk kT keysOf keysEq := ⟨fun l => mapO_kD l, keysEq_iff⟩

section
variable {K : PySem.W.Frag} {H : Hp} {ρ : P → Addr} {c : P} {κ : Type} [DecidableEq κ] {f : κ → D} {of : D → Option κ} {eq : κ → κ → Bool}
theorem valA_some (ko : KeyOk f of eq) {k : κ} : ∀ {kvs : List (D × D)} {l : List (κ × V)} {d : D}, RelKs K H ρ c f kvs l → valA of eq k kvs = some d → ∃ v, valV l k = some v ∧ RelD K H ρ c d v
  | [], _, _, _, h => by cases h
  | p :: r, _, d, ⟨k', v, l', e, e1, h1, h2⟩, h => by
    subst e
    have h' : (match of p.1 with | some k' => (bif eq k' k then some p.2 else valA of eq k r) | none => valA of eq k r) = some d := h
    rw [e1, ko.of_f] at h'
    dsimp only at h'
    by_cases hk : k' = k
    · rw [(ko.eq_iff k' k).mpr hk] at h'
      cases h'
      exact ⟨v, valV_pos hk, h1⟩
    · have hf : eq k' k = false := by
        cases he : eq k' k with
        | false => rfl
        | true => exact absurd ((ko.eq_iff _ _).mp he) hk
      rw [hf] at h'
      obtain ⟨v', a, b⟩ := valA_some ko h2 h'
      exact ⟨v', (valV_neg hk).trans a, b⟩
theorem valA_none (ko : KeyOk f of eq) {k : κ} : ∀ {kvs : List (D × D)} {l : List (κ × V)}, RelKs K H ρ c f kvs l → valA of eq k kvs = none → valV l k = none
  | [], _, h, _ => by rw [show _ = _ from h]; exact valV_nil
  | p :: r, _, ⟨k', v, l', e, e1, h1, h2⟩, h => by
    subst e
    have h' : (match of p.1 with | some k' => (bif eq k' k then some p.2 else valA of eq k r) | none => valA of eq k r) = none := h
    rw [e1, ko.of_f] at h'
    dsimp only at h'
    by_cases hk : k' = k
    · rw [(ko.eq_iff k' k).mpr hk] at h'
      cases h'
    · have hf : eq k' k = false := by
        cases he : eq k' k with
        | false => rfl
        | true => exact absurd ((ko.eq_iff _ _).mp he) hk
      rw [hf] at h'
      exact (valV_neg hk).trans (valA_none ko h2 h')
theorem eq_false (ko : KeyOk f of eq) {a b : κ} (h : ¬ a = b) : eq a b = false := by
  cases he : eq a b with
  | false => rfl
  | true => exact absurd ((ko.eq_iff _ _).mp he) h
theorem hasA_eq (ko : KeyOk f of eq) {k : κ} : ∀ {kvs : List (D × D)} {l : List (κ × V)}, RelKs K H ρ c f kvs l → hasA of eq k kvs = l.any fun kv => decide (kv.1 = k)
  | [], _, h => by rw [show _ = _ from h]; rfl
  | p :: r, _, ⟨k', v', l', e, e1, h1, h2⟩ => by
    subst e
    unfold hasA
    rw [e1, ko.of_f]
    dsimp only
    rw [List.any_cons]
    by_cases hk : k' = k
    · rw [(ko.eq_iff k' k).mpr hk]
      simp [hk]
    · rw [eq_false ko hk, hasA_eq ko h2]
      simp [hk]
theorem mapA_rel (ko : KeyOk f of eq) {k : κ} {dv : D} {v : V} (hv : RelD K H ρ c dv v) : ∀ {kvs : List (D × D)} {l : List (κ × V)}, RelKs K H ρ c f kvs l →
    RelKs K H ρ c f (mapA of eq k dv kvs) (l.map fun kv => if kv.1 = k then (kv.1, v) else kv)
  | [], _, h => by
    rw [show _ = _ from h]
    exact rfl
  | p :: r, _, ⟨k', v', l', e, e1, h1, h2⟩ => by
    subst e
    unfold mapA
    rw [e1, ko.of_f]
    dsimp only
    rw [List.map_cons]
    by_cases hk : k' = k
    · rw [(ko.eq_iff k' k).mpr hk, if_pos hk]
      exact ⟨k', v, _, rfl, rfl, hv, mapA_rel ko hv h2⟩
    · rw [eq_false ko hk, if_neg hk]
      exact ⟨k', v', _, rfl, e1, h1, mapA_rel ko hv h2⟩
theorem RelKs.snoc {k : κ} {dv : D} {v : V} (hv : RelD K H ρ c dv v) : ∀ {kvs : List (D × D)} {l : List (κ × V)}, RelKs K H ρ c f kvs l → RelKs K H ρ c f (kvs ++ [(f k, dv)]) (l ++ [(k, v)])
  | [], _, h => by
    rw [show _ = _ from h]
    exact ⟨k, v, [], rfl, rfl, hv, rfl⟩
  | p :: r, _, ⟨k', v', l', e, e1, h1, h2⟩ => by
    subst e
    exact ⟨k', v', _, rfl, e1, h1, RelKs.snoc hv h2⟩
theorem putA_rel (ko : KeyOk f of eq) {k : κ} {dv : D} {v : V} (hv : RelD K H ρ c dv v) {kvs : List (D × D)} {l : List (κ × V)} (h : RelKs K H ρ c f kvs l) :
    RelKs K H ρ c f (putA of eq k (f k) dv kvs) (putK l k v) := by
  unfold putA putK
  rw [hasA_eq ko h]
  cases l.any fun kv => decide (kv.1 = k) with
  | true => exact mapA_rel ko hv h
  | false => exact RelKs.snoc hv h
theorem RelKs.length : ∀ {kvs : List (D × D)} {l : List (κ × V)}, RelKs K H ρ c f kvs l → kvs.length = l.length
  | [], _, h => by rw [show _ = _ from h]; rfl
  | p :: r, _, ⟨k', v', l', e, e1, h1, h2⟩ => by
    subst e
    simp [RelKs.length h2]
end

/-! ### items -/
def getA (t : Bool) (kvs : List (D × D)) (k : D) : Option (Option D) := match t with
  | false => match keyOf k with
    | some κ => some (valA keyOf keyEq κ kvs)
    | none => none
  | true => match keysOf k with
    | some κ => some (valA keysOf keysEq κ kvs)
    | none => none
def setA (t : Bool) (kvs : List (D × D)) (k v : D) : Option (List (D × D)) := match t with
  | false => match keyOf k with
    | some κ => some (putA keyOf keyEq κ k v kvs)
    | none => none
  | true => match keysOf k with
    | some κ => some (putA keysOf keysEq κ k v kvs)
    | none => none
def dctOf (S : Sto) (p : P) : Option (Bool × List (D × D)) := match S.get p with
  | some (.dct t kvs) => some (t, kvs)
  | some (.lck t kvs) => some (t, kvs)
  | _ => none
section
variable {K : PySem.W.Frag} {H : Hp} {ρ : P → Addr} {S : Sto}
theorem dct_get {p : P} {t : Bool} {kvs : List (D × D)} {k : D} {r : Option D} {y : V} (hS : StRel K H ρ S) (hp : p.toNat < S.nx.toNat) (hg : dctOf S p = some (t, kvs)) (hk : RelD K H ρ S.nx k y) (h : getA t kvs k = some r) :
    ∃ o, DGet H (ρ p) y o ∧ (r = none → o = none) ∧ ∀ d, r = some d → ∃ v, o = some v ∧ RelD K H ρ S.nx d v := by
  obtain ⟨ob, u, h1, h2, h3⟩ := hS.at_ p hp
  have rd : ∃ u', Rd H (ρ p) u' ∧ RelDct K H ρ S.nx t kvs u' := by
    unfold dctOf at hg
    rw [h1] at hg
    cases ob with
    | lst _ => cases hg
    | rol _ => cases hg
    | dct t' kvs' => cases hg; exact ⟨u, Or.inl h2, h3⟩
    | lck t' kvs' =>
      cases hg
      obtain ⟨o, u', e, h4⟩ := h3
      exact ⟨u', Or.inr ⟨o, by rw [h2, e]⟩, h4⟩
  obtain ⟨u', hr, h4⟩ := rd
  rcases h4 with ⟨e, l, e1, h5⟩ | ⟨e, l, e1, h5⟩
  · subst e e1
    have h' : (match keyOf k with | some κ => some (valA keyOf keyEq κ kvs) | none => none) = some r := h
    split at h'
    · rename_i κ hκ
      cases h'
      have hy : y = kV κ := by
        rw [keyOf_eq hκ] at hk
        cases κ with
        | inl i => exact rel_int.mp hk
        | inr x => exact rel_str.mp hk
      exact ⟨valV l κ, Or.inl ⟨l, κ, hr, hy, rfl⟩, fun e => valA_none kDok h5 e, fun d e => valA_some kDok h5 e⟩
    · cases h'
  · subst e e1
    have h' : (match keysOf k with | some κ => some (valA keysOf keysEq κ kvs) | none => none) = some r := h
    split at h'
    · rename_i κ hκ
      cases h'
      have hy : ∃ b, y = .ref b ∧ H b = some (.tup (κ.map kV)) := by
        rw [keysOf_eq hκ] at hk
        obtain ⟨b, vs, e, hb, hr⟩ := rel_tup.mp hk
        refine ⟨b, e, ?_⟩
        rw [hb]
        have : vs = κ.map kV := by
          clear hb e hκ h hk
          induction κ generalizing vs with
          | nil => exact rels_nil.mp hr
          | cons z κ ih =>
            obtain ⟨v, r, e, h1, h2⟩ := rels_cons.mp hr
            rw [e, ih _ h2]
            cases z with
            | inl i => rw [rel_int.mp h1]; rfl
            | inr x => rw [rel_str.mp h1]; rfl
        rw [this]
      obtain ⟨b, e, hb⟩ := hy
      exact ⟨valV l κ, Or.inr ⟨l, κ, b, hr, e, hb, rfl⟩, fun e => valA_none kTok h5 e, fun d e => valA_some kTok h5 e⟩
    · cases h'
end
end Ev

namespace Ev
open PySem L2

/-! ### items and slices -/
def nthR (o : Option D) (S : Sto) : R D := match o with
  | some d => .ok d S
  | none => .no
def ixD : D → D → Sto → R D
  | .tup xs, .int i, S => nthR (atI xs i) S
  | .str z, .int i, S => bif decide (z.length ≤ line) then (match atI z.cps.toList i with
    | some c => .ok (.str ⟨#[c]⟩) S
    | none => .no) else .no
  | .ref p, k, S => match lstOf S p, k with
    | some xs, .int i => nthR (atI xs i) S
    | _, _ => match dctOf S p with
      | some (t, kvs) => (match getA t kvs k with
        | some (some d) => .ok d S
        | _ => .no)
      | none => .no
  | _, _, _ => .no
def rIxDict : R2 := fun x y H Q => ∃ a v, x = .ref a ∧ DGet H a y (some v) ∧ Q v H
def rIxA (K : PySem.W.Frag) : R2 := fun x y H Q => rIx K x y H Q ∨ rIxDict x y H Q
theorem ix_dict {X : Cx} (hu : X.A.units + 1 < cLine) : IxR X rIxDict := by
  intro value slice pins s σ H x y v u Q I rx ry h hs
  obtain ⟨a, z, rfl, g, q⟩ := h
  obtain rfl : v = Value.ref a := rx
  exact PyProof.Rows.tail_any (dict_typeIs I g) PySem.F.slot_dict_getitem.lookup (d_getItem hu I g ry fun w' s' I' r' => ⟨z, H, I', r', q⟩) hs
theorem ix_all {X : Cx} (hu : X.A.units + 1 < cLine) : IxR X (rIxA X.K) := IxR.or ix_seq (ix_dict hu)
theorem atI_rel {K : PySem.W.Frag} {H : Hp} {ρ : P → Addr} {c : P} {xs : List D} {vs : List V} {i : Int} {d : D} (r : RelDs K H ρ c xs vs) (h : atI xs i = some d) : ∃ u, atI vs i = some u ∧ RelD K H ρ c d u := by
  unfold atI at h ⊢
  rw [← r.length]
  cases e : ixN xs.length i with
  | none => rw [e] at h; cases h
  | some j =>
    rw [e] at h
    exact r.get h
theorem ixD_ok {K : PySem.W.Frag} : OpD K ixD (rIxA K) := by
  intro ρ S H x y v u Q hS hx hy hP
  cases x with
  | non => exact hP.elim
  | bl _ => exact hP.elim
  | int _ => exact hP.elim
  | rep _ => exact hP.elim
  | ty _ => exact hP.elim
  | scr _ => exact hP.elim
  | str z =>
    cases y with
    | int i =>
      rw [rel_str] at hx; rw [rel_int] at hy; subst hx hy
      obtain ⟨h1, h2⟩ := bif_post hP
      split at h2
      · rename_i c hc
        exact Or.inl (Or.inr (Or.inr ⟨z, i, c, rfl, rfl, by rw [← line_eq]; exact of_decide_eq_true h1, hc, post_c hS h2 (rel_str.mpr rfl)⟩))
      · exact h2.elim
    | _ => exact hP.elim
  | tup xs =>
    cases y with
    | int i =>
      rw [rel_int] at hy; subst hy
      obtain ⟨a, vs, e, s1, r1⟩ := rel_tup.mp hx
      subst e
      have hP' : PostR K ρ S.nx H Q (nthR (atI xs i) S) := hP
      unfold nthR at hP'
      split at hP'
      · rename_i d hd
        obtain ⟨w, h1, h2⟩ := atI_rel r1 hd
        exact Or.inl (Or.inr (Or.inl ⟨a, vs, i, w, rfl, rfl, SqT.of s1, h1, post_c hS hP' h2⟩))
      · exact hP'.elim
    | _ => exact hP.elim
  | ref p =>
    obtain ⟨lp, e⟩ := rel_ref.mp hx
    subst e
    have dict : PostR K ρ S.nx H Q (match dctOf S p with
      | some (t, kvs) => (match getA t kvs y with
        | some (some d) => .ok d S
        | _ => .no)
      | none => .no) → rIxA K (.ref (ρ p)) u H Q := fun hP' => by
      split at hP'
      · rename_i t kvs hg
        split at hP'
        · rename_i d hd
          obtain ⟨o, h1, h2, h3⟩ := dct_get hS lp hg hy hd
          obtain ⟨w, e, r⟩ := h3 d rfl
          subst e
          exact Or.inr ⟨_, w, rfl, h1, post_c hS hP' r⟩
        · exact hP'.elim
      · exact hP'.elim
    unfold ixD at hP
    dsimp only at hP
    split at hP
    · rename_i xs i hl
      rw [rel_int] at hy; subst hy
      obtain ⟨vs, s1, r1⟩ := lst_sq hS lp hl
      unfold nthR at hP
      split at hP
      · rename_i d hd
        obtain ⟨w, h1, h2⟩ := atI_rel r1 hd
        exact Or.inl (Or.inl ⟨_, vs, i, w, rfl, rfl, s1, h1, post_c hS hP h2⟩)
      · exact hP.elim
    · exact dict hP

section
variable {X : Cx}
def plainIx : Expr → Bool
  | .Slice .. => false
  | _ => true
theorem plainIx_ok {b : Expr} (h : plainIx b = true) : PlainIx b := by
  intro o i
  cases b <;> first | rfl | cases h
theorem se_ix {a b : Expr} {fa fb : EF} {pos : Pos} (hu : X.A.units + 1 < cLine) (hp : plainIx b = true) (ha : PE X a (tE X.K fa)) (hb : PE X b (tE X.K fb)) : PE X (.Subscript a b pos) (tE X.K (eOp ixD fa fb)) :=
  PE.to (pe_ix (ix_all hu) ha hb (plainIx_ok hp)) fun σ H Q h => tE_op h fun ρ S e x y v u H1 hS hE rx ry hP => ixD_ok ρ S H1 x y v u Q hS rx ry hP

def cutA {α : Type} (xs : List α) (lo hi : Option Int) : List α := (xs.drop (HT.sIx xs.length 0 lo)).take (HT.sIx xs.length xs.length hi - HT.sIx xs.length 0 lo)
def slcD : D → Option Int → Option Int → Sto → R D
  | .tup xs, lo, hi, S => .ok (.tup (cutA xs lo hi)) S
  | .str z, lo, hi, S => bif decide (z.length ≤ line) then .ok (.str ⟨(cutA z.cps.toList lo hi).toArray⟩) S else .no
  | .ref p, lo, hi, S => match lstOf S p with
    | some xs => .ok (.ref S.nx) (S.new (.lst (cutA xs lo hi)))
    | none => .no
  | .scr xs, lo, hi, S => .ok (.ref S.nx) (S.new (.lst (cutA xs lo hi)))
  | _, _, _, _ => .no
abbrev OF := Ev.Env → Sto → R (Option Int)
def oNone : OF := fun _ S => .ok none S
def oSome (f : EF) : OF := fun e S => (f e S).bind fun d S1 => match d with
  | .int i => .ok (some i) S1
  | _ => .no
def eSlc (f : EF) (l h : OF) : EF := fun e S => (f e S).bind fun d S1 => (l e S1).bind fun lo S2 => (h e S2).bind fun hi S3 => slcD d lo hi S3
def PostO (K : PySem.W.Frag) (ρ : P → Addr) (c : P) (H : Hp) (Q : Option Int → Hp → Prop) : R (Option Int) → Prop
  | .ok b S' => ∀ ρ' H', Fut K ρ c H ρ' S' H' → Q b H'
  | _ => False
def tO (K : PySem.W.Frag) (f : OF) : TO := fun σ H Q => ∃ ρ S e, StRel K H ρ S ∧ RelEnv K H ρ S.nx e σ ∧ PostO K ρ S.nx H Q (f e S)
theorem PO.to {e : Option Expr} {t t' : TO} (h : PO X e t) (i : ∀ σ H Q, t' σ H Q → t σ H Q) : PO X e t' := ⟨fun pins s σ H Q I q => h.run pins s σ H Q I (i σ H Q q)⟩
theorem PostR.bindO {K : PySem.W.Frag} {ρ : P → Addr} {c : P} {H : Hp} {r : R (Option Int)} {Q : VK} {g : Option Int → Sto → R D} (h : PostR K ρ c H Q (r.bind g)) :
    PostO K ρ c H (fun b H1 => ∃ ρ1 S1, Fut K ρ c H ρ1 S1 H1 ∧ PostR K ρ1 S1.nx H1 Q (g b S1)) r := by
  cases r with
  | ok d S' =>
    intro ρ' H' f
    refine ⟨ρ', S', f, ?_⟩
    have h' : PostR K ρ c H Q (g d S') := h
    generalize g d S' = z at h'
    cases z with
    | ok d2 S2 => exact fun ρ2 H2 v2 f2 r2 => h' ρ2 H2 v2 (f.trans f2) r2
    | exc _ _ => exact h'
    | no => exact h'
  | exc _ _ => exact h
  | no => exact h
theorem PostO.imp {K : PySem.W.Frag} {ρ : P → Addr} {c : P} {H : Hp} {Q Q' : Option Int → Hp → Prop} {r : R (Option Int)} (h : PostO K ρ c H Q r) (i : ∀ v H', Q v H' → Q' v H') : PostO K ρ c H Q' r := by
  cases r with
  | ok d S' => exact fun ρ' H' f => i _ _ (h ρ' H' f)
  | exc _ _ => exact h
  | no => exact h
theorem PostO.bind {K : PySem.W.Frag} {ρ : P → Addr} {c : P} {H : Hp} {r : R D} {Q : Option Int → Hp → Prop} {g : D → Sto → R (Option Int)} (h : PostO K ρ c H Q (r.bind g)) :
    PostR K ρ c H (fun v H1 => ∃ ρ1 S1 d, Fut K ρ c H ρ1 S1 H1 ∧ RelD K H1 ρ1 S1.nx d v ∧ PostO K ρ1 S1.nx H1 Q (g d S1)) r := by
  cases r with
  | ok d S' =>
    intro ρ' H' v f r
    refine ⟨ρ', S', d, f, r, ?_⟩
    have h' : PostO K ρ c H Q (g d S') := h
    generalize g d S' = z at h'
    cases z with
    | ok d2 S2 => exact fun ρ2 H2 f2 => h' ρ2 H2 (f.trans f2)
    | exc _ _ => exact h'
    | no => exact h'
  | exc _ _ => exact h
  | no => exact h
theorem so_none : PO X none (tO X.K oNone) := by
  refine PO.to po_none fun σ H Q hq => ?_
  obtain ⟨ρ, S, e, hS, hE, hP⟩ := hq
  exact hP ρ H (Fut.refl hS)
theorem so_some {a : Expr} {f : EF} (h : PE X a (tE X.K f)) : PO X (some a) (tO X.K (oSome f)) := by
  refine PO.to (po_some h) fun σ H Q hq => ?_
  obtain ⟨ρ, S, e, hS, hE, hP⟩ := hq
  refine ⟨ρ, S, e, hS, hE, PostR.imp (PostO.bind hP) fun v H1 h1 => ?_⟩
  obtain ⟨ρ1, S1, d, f1, r1, p1⟩ := h1
  split at p1
  · exact ⟨_, rel_int.mp r1, p1 ρ1 H1 (Fut.refl f1.st)⟩
  · exact p1.elim
def rSlAll (K : PySem.W.Frag) : V → Option Int → Option Int → Hp → VK → Prop := fun x lo hi H Q => rSlA K x lo hi H Q ∨ (rSlL K x lo hi H Q ∨ rSlS x lo hi H Q)
theorem sl_all : SlR X (rSlAll X.K) := SlR.or sl_tupA (SlR.or sl_list sl_str)
theorem cutA_rel {K : PySem.W.Frag} {H : Hp} {ρ : P → Addr} {c : P} {xs : List D} {vs : List V} (r : RelDs K H ρ c xs vs) (lo hi : Option Int) : RelDs K H ρ c (cutA xs lo hi) (cutV vs lo hi) := by
  unfold cutA cutV
  rw [← r.length]
  exact (r.drop _).take _
theorem slcD_ok {K : PySem.W.Frag} {ρ : P → Addr} {S : Sto} {H : Hp} {x : D} {v : V} {lo hi : Option Int} {Q : VK} (hS : StRel K H ρ S) (hx : RelD K H ρ S.nx x v) (hP : PostR K ρ S.nx H Q (slcD x lo hi S)) : rSlAll K v lo hi H Q := by
  cases x with
  | non => exact hP.elim
  | bl _ => exact hP.elim
  | int _ => exact hP.elim
  | rep _ => exact hP.elim
  | ty _ => exact hP.elim
  | scr xs =>
    obtain ⟨a, vs, e, s1, r1⟩ := rel_scr.mp hx
    subst e
    exact Or.inr (Or.inl ⟨_, vs, rfl, s1.sq, fun p hp => post_new hS hP (cutA_rel r1 lo hi) p hp⟩)
  | str z =>
    rw [rel_str] at hx; subst hx
    obtain ⟨h1, h2⟩ := bif_post hP
    exact Or.inr (Or.inr ⟨z, rfl, by rw [← line_eq]; exact of_decide_eq_true h1, post_c hS h2 (rel_str.mpr rfl)⟩)
  | tup xs =>
    obtain ⟨a, vs, e, s1, r1⟩ := rel_tup.mp hx
    subst e
    refine Or.inl ⟨a, vs, rfl, SqT.of s1, fun hw => ?_, fun hw p hp => post_tup hS hP (cutA_rel r1 lo hi) p hp⟩
    have hP' : PostR K ρ S.nx H Q (.ok (.tup (cutA xs lo hi)) S) := hP
    have e : cutA xs lo hi = xs := by
      unfold cutA
      rw [r1.length, hw.1, hw.2, List.drop_zero, Nat.sub_zero, ← r1.length, List.take_length]
    rw [e] at hP'
    exact post_c hS hP' hx
  | ref p =>
    obtain ⟨lp, e⟩ := rel_ref.mp hx
    subst e
    unfold slcD at hP
    dsimp only at hP
    split at hP
    · rename_i xs hl
      obtain ⟨vs, s1, r1⟩ := lst_sq hS lp hl
      exact Or.inr (Or.inl ⟨_, vs, rfl, s1, fun p hp => post_new hS hP (cutA_rel r1 lo hi) p hp⟩)
    · exact hP.elim
theorem se_slc {a : Expr} {lo hi : Option Expr} {f : EF} {l h : OF} {pos p2 : Pos} (ha : PE X a (tE X.K f)) (hl : PO X lo (tO X.K l)) (hh : PO X hi (tO X.K h)) :
    PE X (.Subscript a (.Slice lo hi none p2) pos) (tE X.K (eSlc f l h)) := by
  refine PE.to (pe_slice sl_all ha hl hh) fun σ H Q hq => ?_
  obtain ⟨ρ, S, e, hS, hE, hP⟩ := hq
  refine ⟨ρ, S, e, hS, hE, PostR.imp (PostR.bind hP) fun v H1 h1 => ?_⟩
  obtain ⟨ρ1, S1, d, f1, r1, p1⟩ := h1
  refine ⟨ρ1, S1, e, f1.st, f1.e hE, PostO.imp (PostR.bindO p1) fun o1 H2 h2 => ?_⟩
  obtain ⟨ρ2, S2, f2, p2⟩ := h2
  refine ⟨ρ2, S2, e, f2.st, f2.e (f1.e hE), PostO.imp (PostR.bindO p2) fun o2 H3 h3 => ?_⟩
  obtain ⟨ρ3, S3, f3, p3⟩ := h3
  exact slcD_ok f3.st (f3.d (f2.d r1)) p3
end
end Ev

namespace Ev
open PySem L2

/-! ### built-in functions -/
def CallD (K : PySem.W.Frag) (op : List D → Sto → R D) (r : List V → Hp → VK → Prop) : Prop :=
  ∀ ρ S H xs vs Q, StRel K H ρ S → RelDs K H ρ S.nx xs vs → PostR K ρ S.nx H Q (op xs S) → r vs H Q
def eB (op : List D → Sto → R D) (f : LF) : EF := fun e S => (f e S).bind op
theorem call_or {X : Cx} {f : Value} {r r' : List V → Hp → VK → Prop} (h : CallR X f r) (h' : CallR X f r') : CallR X f (fun x H Q => r x H Q ∨ r' x H Q) := by
  intro pins s σ H xs us Q I hv hq
  rcases hq with hq | hq
  · exact h pins s σ H xs us Q I hv hq
  · exact h' pins s σ H xs us Q I hv hq
theorem call_to {X : Cx} {f : Value} {r r' : List V → Hp → VK → Prop} (h : CallR X f r) (i : ∀ x H Q, r' x H Q → r x H Q) : CallR X f r' := fun pins s σ H xs us Q I hv hq => h pins s σ H xs us Q I hv (i _ _ _ hq)
/-- the things that hold of a built-in's name -/
def noStars (es : List Expr) : Bool := es.all notStar
theorem backTo_stars {pos : Pos} {env : PySem.Env} : ∀ {es : List Expr}, noStars es = true → (backTo pos (starEach es env)).any (·.1) = false
  | [], _ => rfl
  | e :: es, h => by
    unfold noStars at h
    rw [List.all_cons, Bool.and_eq_true] at h
    rw [starEach_cons h.1]
    have ih := backTo_stars (pos := pos) (env := env) (es := es) h.2
    unfold backTo at ih ⊢
    rw [List.map_cons, List.any_cons, ih]
    rfl
section
variable {X : Cx}
theorem tB_to {K : PySem.W.Frag} {f : LF} {op : List D → Sto → R D} {r : List V → Hp → VK → Prop} (hd : CallD K op r) {σ : St} {H : Hp} {Q : VK} (h : tE K (eB op f) σ H Q) : tCB r (tA K f) σ H Q := by
  obtain ⟨ρ, S, e, hS, hE, hP⟩ := h
  refine ⟨ρ, S, e, hS, hE, PostL.imp (PostR.bindL hP) fun v H1 h1 => ?_⟩
  obtain ⟨ρ1, S1, d, f1, r1, p1⟩ := h1
  exact hd ρ1 S1 H1 d v Q f1.st r1 p1
theorem se_callB {x : Str} {p pos : Pos} {a : Expr} {es : List Expr} {f : LF} {id : String} {op : List D → Sto → R D} {r : List V → Hp → VK → Prop} (hc : CallR X (.builtin id) r) (hd : CallD X.K op r)
    (hg : Gl X x) (hm : X.mg x = none) (hv : bootBuiltins x = some (.builtin id)) (ha : PA X (a :: es) (tA X.K f)) (hn : x ≠ ("__name__" : Str)) (hdb : (x == ("__debug__" : Str)) = false) (hs : noStars (a :: es) = true) :
    PE X (.Call (.Name x p) (a :: es) [] pos) (tE X.K (eB op f)) := by
  have hs' := hs
  unfold noStars at hs'
  rw [List.all_cons, Bool.and_eq_true] at hs'
  exact PE.to (pe_callB hc hg hm hv ha hn hdb (starEach_cons hs'.1) (backTo_stars hs'.2)) fun σ H Q h => tB_to hd h
theorem se_callTy {x : Str} {p pos : Pos} {a : Expr} {es : List Expr} {f : LF} {T : String} {op : List D → Sto → R D} {r : List V → Hp → VK → Prop} (hc : CallR X (.type T) r) (hd : CallD X.K op r)
    (hg : Gl X x) (hm : X.mg x = none) (hv : bootBuiltins x = some (.type T)) (ha : PA X (a :: es) (tA X.K f)) (hn : x ≠ ("__name__" : Str)) (hdb : (x == ("__debug__" : Str)) = false) (hs : noStars (a :: es) = true) :
    PE X (.Call (.Name x p) (a :: es) [] pos) (tE X.K (eB op f)) := by
  have hs' := hs
  unfold noStars at hs'
  rw [List.all_cons, Bool.and_eq_true] at hs'
  exact PE.to (pe_callTy hc hg hm hv ha hn hdb (starEach_cons hs'.1) (backTo_stars hs'.2)) fun σ H Q h => tB_to hd h

/-! len, abs, int, tuple, list -/
def oneR (g : D → Sto → R D) : List D → Sto → R D
  | [d], S => g d S
  | _, _ => .no
theorem one_ok {K : PySem.W.Frag} {g : D → Sto → R D} {r : V → Hp → VK → Prop} (h : UnD K g r) : CallD K (oneR g) (fun xs H Q => ∃ x, xs = [x] ∧ r x H Q) := by
  intro ρ S H xs vs Q hS hx hP
  match xs, hP with
  | [d], hP =>
    obtain ⟨v, r', e, h1, h2⟩ := rels_cons.mp hx
    rw [rels_nil.mp h2] at e
    exact ⟨v, e, h ρ S H d v Q hS h1 hP⟩
  | [], hP => exact hP.elim
  | _ :: _ :: _, hP => exact hP.elim
def lenD : D → Sto → R D
  | .str x, S => bif decide (x.length ≤ line) then .ok (.int x.length) S else .no
  | .tup xs, S => .ok (.int xs.length) S
  | .ref p, S => match lstOf S p with
    | some xs => .ok (.int xs.length) S
    | none => .no
  | _, _ => .no
theorem lenD_ok {K : PySem.W.Frag} : UnD K lenD (fun x H Q => ∃ n, LenV K x H n ∧ Q (.int n) H) := by
  intro ρ S H x v Q hS hx hP
  cases x with
  | str x =>
    rw [rel_str] at hx; subst hx
    obtain ⟨h1, h2⟩ := bif_post hP
    exact ⟨_, ⟨by rw [← line_eq]; exact of_decide_eq_true h1, rfl⟩, post_c hS h2 (rel_int.mpr rfl)⟩
  | tup xs =>
    obtain ⟨a, vs, e, s1, r1⟩ := rel_tup.mp hx
    subst e
    exact ⟨vs.length, Or.inr ⟨vs, SqT.of s1, rfl⟩, post_c hS hP (rel_int.mpr (by rw [r1.length]))⟩
  | ref p =>
    obtain ⟨lp, e⟩ := rel_ref.mp hx
    subst e
    unfold lenD at hP
    dsimp only at hP
    split at hP
    · rename_i xs hl
      obtain ⟨vs, s1, r1⟩ := lst_sq hS lp hl
      exact ⟨vs.length, Or.inl ⟨vs, s1, rfl⟩, post_c hS hP (rel_int.mpr (by rw [r1.length]))⟩
    · exact hP.elim
  | _ => exact hP.elim
theorem call_lenA : CallR X (.builtin "len") (fun xs H Q => ∃ x, xs = [x] ∧ ∃ n, LenV X.K x H n ∧ Q (.int n) H) := call_to call_len fun xs H Q ⟨x, e, n, h, q⟩ => ⟨x, n, e, h, q⟩
def absD : D → Sto → R D
  | .int i, S => .ok (.int (if i < 0 then -i else i)) S
  | _, _ => .no
theorem absD_ok {K : PySem.W.Frag} : UnD K absD (fun x H Q => ∃ i, x = .int i ∧ Q (.int (if i < 0 then -i else i)) H) := by
  intro ρ S H x v Q hS hx hP
  cases x <;> first | exact hP.elim | skip
  rw [rel_int] at hx; subst hx
  exact ⟨_, rfl, post_c hS hP (rel_int.mpr rfl)⟩
theorem call_absA : CallR X (.builtin "abs") (fun xs H Q => ∃ x, xs = [x] ∧ ∃ i, x = .int i ∧ Q (.int (if i < 0 then -i else i)) H) := call_to call_abs fun xs H Q ⟨x, e, i, h, q⟩ => ⟨i, by rw [e, h], q⟩
def intD : D → Sto → R D
  | .int i, S => .ok (.int i) S
  | .bl k, S => .ok (.int (if k then 1 else 0)) S
  | _, _ => .no
def rInt (x : V) (H : Hp) (Q : VK) : Prop := (∃ i, x = .int i ∧ Q (.int i) H) ∨ ∃ k, x = .bl k ∧ Q (.int (if k then 1 else 0)) H
theorem intD_ok {K : PySem.W.Frag} : UnD K intD rInt := by
  intro ρ S H x v Q hS hx hP
  cases x <;> first | exact hP.elim | skip
  · rw [rel_bl] at hx; subst hx
    exact Or.inr ⟨_, rfl, post_c hS hP (rel_int.mpr rfl)⟩
  · rw [rel_int] at hx; subst hx
    exact Or.inl ⟨_, rfl, post_c hS hP (rel_int.mpr rfl)⟩
theorem call_intA : CallR X (.type "int") (fun xs H Q => ∃ x, xs = [x] ∧ rInt x H Q) := call_to call_int1 fun xs H Q ⟨x, e, h⟩ => by
  subst e
  rcases h with ⟨i, h, q⟩ | ⟨i, h, q⟩
  · subst h; exact Or.inl ⟨i, rfl, q⟩
  · subst h; exact Or.inr ⟨i, rfl, q⟩
def tupD : D → Sto → R D
  | .tup xs, S => .ok (.tup xs) S
  | .ref p, S => match lstOf S p with
    | some xs => .ok (.tup xs) S
    | none => .no
  | _, _ => .no
theorem tupD_ok {K : PySem.W.Frag} : UnD K tupD (fun x H Q => ∃ p ys, x = .ref p ∧ ((SqL K H p ys ∧ ∀ l, H l = none → Q (.ref l) (upd H l (.tup ys))) ∨ (SqT K H p ys ∧ Q (.ref p) H))) := by
  intro ρ S H x v Q hS hx hP
  cases x with
  | tup xs =>
    obtain ⟨a, vs, e, s1, r1⟩ := rel_tup.mp hx
    subst e
    exact ⟨a, vs, rfl, Or.inr ⟨SqT.of s1, post_c hS hP hx⟩⟩
  | ref p =>
    obtain ⟨lp, e⟩ := rel_ref.mp hx
    subst e
    unfold tupD at hP
    dsimp only at hP
    split at hP
    · rename_i xs hl
      obtain ⟨vs, s1, r1⟩ := lst_sq hS lp hl
      exact ⟨_, vs, rfl, Or.inl ⟨s1, fun l hl => post_tup hS hP r1 l hl⟩⟩
    · exact hP.elim
  | _ => exact hP.elim
theorem call_tupA : CallR X (.type "tuple") (fun xs H Q => ∃ x, xs = [x] ∧ ∃ p ys, x = .ref p ∧ ((SqL X.K H p ys ∧ ∀ l, H l = none → Q (.ref l) (upd H l (.tup ys))) ∨ (SqT X.K H p ys ∧ Q (.ref p) H))) :=
  call_to call_tuple_of fun xs H Q ⟨x, e, p, ys, h, q⟩ => ⟨p, ys, by rw [e, h], q⟩
def listD : D → Sto → R D
  | .tup xs, S => .ok (.ref S.nx) (S.new (.lst xs))
  | .ref p, S => match lstOf S p with
    | some xs => .ok (.ref S.nx) (S.new (.lst xs))
    | none => .no
  | _, _ => .no
theorem listD_ok {K : PySem.W.Frag} : UnD K listD (fun x H Q => ∃ p ys, x = .ref p ∧ (SqL K H p ys ∨ SqT K H p ys) ∧ ∀ l, H l = none → Q (.ref l) (upd H l (.lst ys))) := by
  intro ρ S H x v Q hS hx hP
  cases x with
  | tup xs =>
    obtain ⟨a, vs, e, s1, r1⟩ := rel_tup.mp hx
    subst e
    exact ⟨a, vs, rfl, Or.inr (SqT.of s1), fun l hl => post_new hS hP r1 l hl⟩
  | ref p =>
    obtain ⟨lp, e⟩ := rel_ref.mp hx
    subst e
    unfold listD at hP
    dsimp only at hP
    split at hP
    · rename_i xs hl
      obtain ⟨vs, s1, r1⟩ := lst_sq hS lp hl
      exact ⟨_, vs, rfl, Or.inl s1, fun l hl => post_new hS hP r1 l hl⟩
    · exact hP.elim
  | _ => exact hP.elim
theorem call_listA : CallR X (.type "list") (fun xs H Q => ∃ x, xs = [x] ∧ ∃ p ys, x = .ref p ∧ (SqL X.K H p ys ∨ SqT X.K H p ys) ∧ ∀ l, H l = none → Q (.ref l) (upd H l (.lst ys))) :=
  call_to call_list_of fun xs H Q ⟨x, e, p, ys, h, q⟩ => ⟨p, ys, by rw [e, h], q⟩

/-! isinstance -/
def kindD (S : Sto) : D → Option Kd
  | .non => some .non
  | .bl _ => some .bl
  | .int _ => some .int
  | .str _ => some .str
  | .rep _ => some .str
  | .tup _ => some .tup
  | .ref p => match S.get p with
    | some (.lst _) => some .lst
    | some (.rol _) => some .lst
    | some (.dct _ _) => some .dct
    | _ => none
  | .ty _ => none
  | .scr _ => some .lst
def subKd : Kd → Kd → Bool
  | .bl, .int => true
  | .non, .non => true | .bl, .bl => true | .int, .int => true | .str, .str => true | .tup, .tup => true | .lst, .lst => true | .dct, .dct => true | .set, .set => true
  | _, _ => false
theorem subKd_ok (a b : Kd) (h : b ≠ .non) : kitB a.name b.name = some (subKd a b) := by
  cases a <;> cases b <;> first | exact absurd rfl h | decide +kernel
def isiD : List D → Sto → R D
  | [x, .ty k], S => match kindD S x with
    | some j => bif decide (k = .non) then .no else .ok (.bl (subKd j k)) S
    | none => .no
  | _, _ => .no
theorem kindD_ok {K : PySem.W.Frag} {H : Hp} {ρ : P → Addr} {S : Sto} {x : D} {v : V} {k : Kd} (hS : StRel K H ρ S) (hx : RelD K H ρ S.nx x v) (h : kindD S x = some k) : TyX K H v (.type k.name) := by
  cases x with
  | non => cases h; rw [rel_non.mp hx]; exact .base .non
  | bl b => cases h; rw [rel_bl.mp hx]; exact .base (.bl _)
  | int b => cases h; rw [rel_int.mp hx]; exact .base (.int _)
  | str b => cases h; rw [rel_str.mp hx]; exact .base (.str _)
  | rep b => cases h; rw [rel_rep.mp hx]; exact .base (.str _)
  | ty b => cases h
  | scr xs =>
    cases h
    obtain ⟨a, vs, e, s1, r1⟩ := rel_scr.mp hx
    subst e
    rcases s1 with ⟨o, s1⟩ | ⟨o, its, n, s1, s2, _⟩
    · exact .base (.frz s1)
    · exact .kList s1 s2
  | tup xs =>
    cases h
    obtain ⟨a, vs, e, s1, r1⟩ := rel_tup.mp hx
    subst e
    exact .base (.tup s1)
  | ref p =>
    obtain ⟨lp, e⟩ := rel_ref.mp hx
    subst e
    obtain ⟨o, u, h1, h2, h3⟩ := hS.at_ p lp
    unfold kindD at h
    dsimp only at h
    rw [h1] at h
    cases o with
    | lst xs => cases h; obtain ⟨vs, e, _⟩ := h3; exact .base (.lst (by rw [h2, e]))
    | rol xs => cases h; obtain ⟨o, vs, e, _⟩ := h3; exact .base (.frz (by rw [h2, e]))
    | dct t xs =>
      cases h
      rcases h3 with ⟨_, l, e, _⟩ | ⟨_, l, e, _⟩
      · exact .base (.dK (by rw [h2, e]))
      · exact .base (.dT (by rw [h2, e]))
    | lck t xs => cases h
theorem isiD_ok {K : PySem.W.Frag} : CallD K isiD (rIsi K) := by
  intro ρ S H xs vs Q hS hx hP
  match xs, hP with
  | [x, .ty k], hP =>
    obtain ⟨v, r', e, h1, h2⟩ := rels_cons.mp hx
    obtain ⟨w, r2, e2, h3, h4⟩ := rels_cons.mp h2
    rw [rels_nil.mp h4] at e2
    rw [rel_ty.mp h3] at e2
    subst e2
    unfold isiD at hP
    dsimp only at hP
    split at hP
    · rename_i j hj
      by_cases hk : k = .non
      · rw [decide_eq_true hk] at hP
        exact hP.elim
      · rw [decide_eq_false hk] at hP
        exact ⟨v, .ty k.name, .type j.name, .type k.name, subKd j k, e, .ty _, kindD_ok hS h1 hj, kit_ty (subKd_ok j k hk), post_c hS hP (rel_bl.mpr rfl)⟩
    · exact hP.elim
/-! repr -/
def reprD : D → Sto → R D
  | .ref p, S => match toP S 50 (.ref p) with
    | some pd => bif pd.showable && decide (pd.shown.length ≤ line) && decide (pd.depth ≤ 60) && !pd.hasDict then .ok (.rep pd) S else .no
    | none => .no
  | .tup xs, S => match toP S 50 (.tup xs) with
    | some pd => bif pd.showable && decide (pd.shown.length ≤ line) && decide (pd.depth ≤ 60) && !pd.hasDict then .ok (.rep pd) S else .no
    | none => .no
  | _, _ => .no
def rRepr (K : PySem.W.Frag) : List V → Hp → VK → Prop := fun xs H Q => ∃ a d, xs = [.ref a] ∧ Dp K H (.ref a) d ∧ d.showable = true ∧ d.shown.length ≤ sizeLine ∧ d.depth ≤ 60 ∧ d.hasDict = false ∧ Q (.str d.shown) H
theorem call_reprA (hg : X.A.guards = some []) (hu : X.A.units + 64 < cLine) : CallR X (.builtin "repr") (rRepr X.K) := by
  intro pins s σ H xs us Q I hv hq
  obtain ⟨a, d, rfl, hd, h1, h2, h3, h4, q⟩ := hq
  obtain ⟨u, rfl, ru⟩ := vals1 hv
  obtain rfl : u = Value.ref a := ru
  obtain ⟨as, hr⟩ := Dp.reads I d (.ref a) (.ref a) hd rfl
  exact repr_of_reads' hr h1 (fun e => by rw [h4] at e; cases e) hg (by omega) (fun _ _ e => e) (fun h' t tk k => ⟨.str d.shown, H, I.kept k, ⟨t, rfl⟩, q⟩) h2
theorem reprD_ok {K : PySem.W.Frag} : CallD K (oneR reprD) (rRepr K) := by
  have key : ∀ {ρ S H x a Q}, StRel K H ρ S → RelD K H ρ S.nx x (.ref a) → PostR K ρ S.nx H Q (match toP S 50 x with
    | some pd => bif pd.showable && decide (pd.shown.length ≤ line) && decide (pd.depth ≤ 60) && !pd.hasDict then .ok (.rep pd) S else .no
    | none => .no) → rRepr K [.ref a] H Q := by
    intro ρ S H x a Q hS hx hP
    split at hP
    · rename_i pd hpd
      obtain ⟨h1, h2⟩ := bif_post hP
      simp only [Bool.and_eq_true, decide_eq_true_eq, Bool.not_eq_true'] at h1
      exact ⟨a, pd, rfl, toP_dp hS _ _ _ _ hpd hx, h1.1.1.1, by rw [← line_eq]; exact h1.1.1.2, h1.1.2, h1.2, post_c hS h2 (rel_rep.mpr rfl)⟩
    · exact hP.elim
  intro ρ S H xs vs Q hS hx hP
  match xs, hP with
  | [d], hP =>
    obtain ⟨v, r', e, h1, h2⟩ := rels_cons.mp hx
    rw [rels_nil.mp h2] at e
    subst e
    cases d with
    | ref p =>
      obtain ⟨lp, e⟩ := rel_ref.mp h1
      subst e
      exact key hS h1 hP
    | tup xs =>
      obtain ⟨a, vs, e, s1, r1⟩ := rel_tup.mp h1
      subst e
      exact key hS h1 hP
    | _ => exact hP.elim
  | [], hP => exact hP.elim
  | _ :: _ :: _, hP => exact hP.elim
end
end Ev

namespace Ev
open PySem L2

/-! ### statements -/
inductive RS where
  | next (e : Ev.Env) (S : Sto)
  | ret (d : D) (S : Sto)
  | brk (e : Ev.Env) (S : Sto)
  | cont (e : Ev.Env) (S : Sto)
  | exc (x : Xn) (e : Ev.Env) (S : Sto)
  | no
abbrev SF := Ev.Env → Sto → RS
def PostS (K : PySem.W.Frag) (ρ : P → Addr) (c : P) (H : Hp) (W : Ends) : RS → Prop
  | .next e S' => ∀ ρ' H' σ', Fut K ρ c H ρ' S' H' → RelEnv K H' ρ' S'.nx e σ' → W.nx σ' H'
  | .ret d S' => ∀ ρ' H' v, Fut K ρ c H ρ' S' H' → RelD K H' ρ' S'.nx d v → W.rt v H'
  | .brk e S' => ∀ ρ' H' σ', Fut K ρ c H ρ' S' H' → RelEnv K H' ρ' S'.nx e σ' → W.bk σ' H'
  | .cont e S' => ∀ ρ' H' σ', Fut K ρ c H ρ' S' H' → RelEnv K H' ρ' S'.nx e σ' → W.ct σ' H'
  | _ => False
def tS (K : PySem.W.Frag) (f : SF) : TS := fun W σ H => ∃ ρ S e, StRel K H ρ S ∧ RelEnv K H ρ S.nx e σ ∧ PostS K ρ S.nx H W (f e S)
theorem PS.to {X : Cx} {e : Stmt} {t t' : TS} (h : PS X e t) (i : ∀ W σ H, t' W σ H → t W σ H) : PS X e t' := ⟨fun pins s σ H W I q => h.run pins s σ H W I (i W σ H q)⟩
theorem PSs.to {X : Cx} {e : List Stmt} {t t' : TS} (h : PSs X e t) (i : ∀ W σ H, t' W σ H → t W σ H) : PSs X e t' := ⟨fun pins s σ H W I q => h.run pins s σ H W I (i W σ H q)⟩
def R.toS {α : Type} (r : R α) (e : Ev.Env) (g : α → Sto → RS) : RS := match r with
  | .ok a S => g a S
  | .exc x S => .exc x e S
  | .no => .no
theorem PostS.fut {K : PySem.W.Frag} {ρ ρ1 : P → Addr} {c : P} {S1 : Sto} {H H1 : Hp} {W : Ends} {r : RS} (f : Fut K ρ c H ρ1 S1 H1) (h : PostS K ρ c H W r) : PostS K ρ1 S1.nx H1 W r := by
  cases r with
  | next e S' => exact fun ρ' H' σ' f' r' => h ρ' H' σ' (f.trans f') r'
  | ret e S' => exact fun ρ' H' σ' f' r' => h ρ' H' σ' (f.trans f') r'
  | brk e S' => exact fun ρ' H' σ' f' r' => h ρ' H' σ' (f.trans f') r'
  | cont e S' => exact fun ρ' H' σ' f' r' => h ρ' H' σ' (f.trans f') r'
  | exc _ _ _ => exact h
  | no => exact h
theorem PostS.bind {K : PySem.W.Frag} {ρ : P → Addr} {c : P} {H : Hp} {W : Ends} {r : R D} {e : Ev.Env} {g : D → Sto → RS} (h : PostS K ρ c H W (r.toS e g)) :
    PostR K ρ c H (fun v H1 => ∃ ρ1 S1 d, Fut K ρ c H ρ1 S1 H1 ∧ RelD K H1 ρ1 S1.nx d v ∧ PostS K ρ1 S1.nx H1 W (g d S1)) r := by
  cases r with
  | ok d S' => exact fun ρ' H' v f r => ⟨ρ', S', d, f, r, PostS.fut f h⟩
  | exc _ _ => exact h
  | no => exact h
theorem PostS.bindB {K : PySem.W.Frag} {ρ : P → Addr} {c : P} {H : Hp} {W : Ends} {r : R Bool} {e : Ev.Env} {g : Bool → Sto → RS} (h : PostS K ρ c H W (r.toS e g)) :
    PostB K ρ c H (fun b H1 => ∃ ρ1 S1, Fut K ρ c H ρ1 S1 H1 ∧ PostS K ρ1 S1.nx H1 W (g b S1)) r := by
  cases r with
  | ok d S' => exact fun ρ' H' f => ⟨ρ', S', f, PostS.fut f h⟩
  | exc _ _ => exact h
  | no => exact h
theorem PostS.bindL {K : PySem.W.Frag} {ρ : P → Addr} {c : P} {H : Hp} {W : Ends} {r : R (List D)} {e : Ev.Env} {g : List D → Sto → RS} (h : PostS K ρ c H W (r.toS e g)) :
    PostL K ρ c H (fun v H1 => ∃ ρ1 S1 d, Fut K ρ c H ρ1 S1 H1 ∧ RelDs K H1 ρ1 S1.nx d v ∧ PostS K ρ1 S1.nx H1 W (g d S1)) r := by
  cases r with
  | ok d S' => exact fun ρ' H' v f r => ⟨ρ', S', d, f, r, PostS.fut f h⟩
  | exc _ _ => exact h
  | no => exact h
theorem PostS.n {K : PySem.W.Frag} {ρ : P → Addr} {S : Sto} {H : Hp} {W : Ends} {e : Ev.Env} {σ : St} (hS : StRel K H ρ S) (hE : RelEnv K H ρ S.nx e σ) (h : PostS K ρ S.nx H W (.next e S)) : W.nx σ H := h ρ H σ (Fut.refl hS) hE
theorem PostS.rt {K : PySem.W.Frag} {ρ : P → Addr} {S : Sto} {H : Hp} {W : Ends} {d : D} {v : V} (hS : StRel K H ρ S) (hE : RelD K H ρ S.nx d v) (h : PostS K ρ S.nx H W (.ret d S)) : W.rt v H := h ρ H v (Fut.refl hS) hE

section
variable {X : Cx}
def sNil : SF := fun e S => .next e S
def sCons (f g : SF) : SF := fun e S => match f e S with
  | .next e1 S1 => g e1 S1
  | r => r
theorem ss_nil : PSs X [] (tS X.K sNil) := PSs.to pss_nil fun W σ H ⟨ρ, S, e, hS, hE, hP⟩ => PostS.n hS hE hP
theorem ss_cons {st : Stmt} {rest : List Stmt} {f g : SF} (h : PS X st (tS X.K f)) (h' : PSs X rest (tS X.K g)) : PSs X (st :: rest) (tS X.K (sCons f g)) := by
  refine PSs.to (pss_cons h h') fun W σ H hq => ?_
  obtain ⟨ρ, S, e, hS, hE, hP⟩ := hq
  refine ⟨ρ, S, e, hS, hE, ?_⟩
  unfold sCons at hP
  generalize f e S = z at hP
  cases z with
  | next e1 S1 => exact fun ρ1 H1 σ1 f1 r1 => ⟨ρ1, S1, e1, f1.st, r1, PostS.fut f1 hP⟩
  | ret d S1 => exact hP
  | brk e1 S1 => exact hP
  | cont e1 S1 => exact hP
  | exc _ _ _ => exact hP
  | no => exact hP
def sExpr (f : EF) : SF := fun e S => (f e S).toS e fun _ S1 => .next e S1
def sRet (f : EF) : SF := fun e S => (f e S).toS e fun d S1 => .ret d S1
def sRetN : SF := fun _ S => .ret .non S
def sIf (t : BF) (f g : SF) : SF := fun e S => (t e S).toS e fun b S1 => bif b then f e S1 else g e S1
def sBrk : SF := fun e S => .brk e S
def sCont : SF := fun e S => .cont e S
theorem ss_expr {a : Expr} {f : EF} {pos : Pos} (h : PE X a (tE X.K f)) (hs : swapsWith a none pos.line X.env = pure false) : PS X (.Expr a pos) (tS X.K (sExpr f)) := by
  refine PS.to (ps_expr h hs) fun W σ H hq => ?_
  obtain ⟨ρ, S, e, hS, hE, hP⟩ := hq
  refine ⟨ρ, S, e, hS, hE, PostR.imp (PostS.bind hP) fun v H1 h1 => ?_⟩
  obtain ⟨ρ1, S1, d, f1, r1, p1⟩ := h1
  exact PostS.n f1.st (f1.e hE) p1
theorem ss_ret {a : Expr} {f : EF} {pos : Pos} (h : PE X a (tE X.K f)) : PS X (.Return (some a) pos) (tS X.K (sRet f)) := by
  refine PS.to (ps_ret h) fun W σ H hq => ?_
  obtain ⟨ρ, S, e, hS, hE, hP⟩ := hq
  refine ⟨ρ, S, e, hS, hE, PostR.imp (PostS.bind hP) fun v H1 h1 => ?_⟩
  obtain ⟨ρ1, S1, d, f1, r1, p1⟩ := h1
  exact PostS.rt f1.st r1 p1
theorem ss_retN {pos : Pos} : PS X (.Return none pos) (tS X.K sRetN) := PS.to ps_retN fun W σ H ⟨ρ, S, e, hS, hE, hP⟩ => PostS.rt hS (rel_non.mpr rfl) hP
theorem ss_if {c : Expr} {a b : List Stmt} {t : BF} {f g : SF} {pos : Pos} (hc : PT X c (tT X.K t)) (ha : PSs X a (tS X.K f)) (hb : PSs X b (tS X.K g)) : PS X (.If c a b pos) (tS X.K (sIf t f g)) := by
  refine PS.to (ps_if hc ha hb) fun W σ H hq => ?_
  obtain ⟨ρ, S, e, hS, hE, hP⟩ := hq
  refine ⟨ρ, S, e, hS, hE, PostB.imp (PostS.bindB hP) fun b H1 h1 => ?_⟩
  obtain ⟨ρ1, S1, f1, p1⟩ := h1
  cases b
  · exact ⟨ρ1, S1, e, f1.st, f1.e hE, p1⟩
  · exact ⟨ρ1, S1, e, f1.st, f1.e hE, p1⟩
theorem ss_pass {pos : Pos} : PS X (.Pass pos) (tS X.K sNil) := PS.to ps_pass fun W σ H ⟨ρ, S, e, hS, hE, hP⟩ => PostS.n hS hE hP
theorem ss_brk {pos : Pos} : PS X (.Break pos) (tS X.K sBrk) := PS.to ps_break fun W σ H ⟨ρ, S, e, hS, hE, hP⟩ => hP ρ H σ (Fut.refl hS) hE
theorem ss_cont {pos : Pos} : PS X (.Continue pos) (tS X.K sCont) := PS.to ps_continue fun W σ H ⟨ρ, S, e, hS, hE, hP⟩ => hP ρ H σ (Fut.refl hS) hE

/-! ### targets -/
abbrev GF := D → Ev.Env → Sto → RS
/-- two frames alike but for some slots -/
def Alike (vs : List Nat) (σ σ' : St) : Prop := σ'.length = σ.length ∧ ∀ i, i ∉ vs → σ'[i]? = σ[i]?
theorem Alike.refl (σ : St) : Alike [] σ σ := ⟨rfl, fun _ _ => rfl⟩
theorem Alike.trans {vs ws : List Nat} {σ σ1 σ2 : St} (a : Alike vs σ σ1) (b : Alike ws σ1 σ2) : Alike (vs ++ ws) σ σ2 :=
  ⟨b.1.trans a.1, fun i hi => (b.2 i fun h => hi (List.mem_append_right _ h)).trans (a.2 i fun h => hi (List.mem_append_left _ h))⟩
theorem Alike.set (σ : St) (i : Nat) (v : Option V) : Alike [i] σ (σ.set i v) := ⟨List.length_set .., fun j hj => List.getElem?_set_ne (fun e => hj (by simp [e]))⟩
def PostG (K : PySem.W.Frag) (ρ : P → Addr) (c : P) (H : Hp) (vs : List Nat) (σ : St) (Q : St → Hp → Prop) : RS → Prop
  | .next e S' => ∀ ρ' H' σ', Fut K ρ c H ρ' S' H' → RelEnv K H' ρ' S'.nx e σ' → Alike vs σ σ' → Q σ' H'
  | _ => False
def tG (K : PySem.W.Frag) (vs : List Nat) (f : GF) : TG := fun v σ H Q => ∃ ρ S e d, StRel K H ρ S ∧ RelEnv K H ρ S.nx e σ ∧ RelD K H ρ S.nx d v ∧ PostG K ρ S.nx H vs σ Q (f d e S)
theorem PG.to {tg : Expr} {t t' : TG} (h : PG X tg t) (i : ∀ v σ H Q, t' v σ H Q → t v σ H Q) : PG X tg t' := ⟨fun pins s σ H v u Q I r q => h.run pins s σ H v u Q I r (i v σ H Q q)⟩
def gSet (i : Nat) : GF := fun d e S => .next (e.set i (some d)) S
theorem sg_name {i : Nat} {x : Str} {pos : Pos} (hN : X.N.Nodup) (hi : X.N[i]? = some x) (hl : L2.Loc X.env.scope x) (hf : X.fn x = true ∨ X.env.scope.names.lookup x = some .local) : PG X (.Name x pos) (tG X.K [i] (gSet i)) :=
  PG.to (pg_name hN hi hl hf) fun v σ H Q ⟨ρ, S, e, d, hS, hE, hd, hP⟩ => hP ρ H _ (Fut.refl hS) (hE.set hd i) (Alike.set _ _ _)
def sAsg (f : EF) (g : GF) : SF := fun e S => (f e S).toS e fun d S1 => g d e S1
/-- a target's results are next, or nothing -/
def isNx : RS → Prop
  | .next _ _ => True
  | .no => True
  | _ => False
def onlyNext (g : GF) : Prop := ∀ d e S, isNx (g d e S)
theorem PostG.of {K : PySem.W.Frag} {ρ : P → Addr} {c : P} {H : Hp} {vs : List Nat} {σ : St} {W : Ends} {r : RS} (h : PostS K ρ c H W r) (ho : isNx r) : PostG K ρ c H vs σ W.nx r := by
  cases r with
  | next e S => exact fun ρ' H' σ' f r _ => h ρ' H' σ' f r
  | no => exact h
  | ret _ _ => exact ho.elim
  | brk _ _ => exact ho.elim
  | cont _ _ => exact ho.elim
  | exc _ _ _ => exact ho.elim
theorem ss_asg {tg a : Expr} {f : EF} {g : GF} {vs : List Nat} {pos : Pos} (h : PE X a (tE X.K f)) (hg : PG X tg (tG X.K vs g)) (ho : onlyNext g) (hs : swapsWithSole [tg] a pos.line X.env = pure false) (hw : swappedStores [tg] a X.env = pure none)
    (h1 : (assignEach [tg] X.env).map (·.2) = [assign tg X.env]) : PS X (.Assign [tg] a pos) (tS X.K (sAsg f g)) := by
  refine PS.to (ps_asg h hg hs hw h1) fun W σ H hq => ?_
  obtain ⟨ρ, S, e, hS, hE, hP⟩ := hq
  refine ⟨ρ, S, e, hS, hE, PostR.imp (PostS.bind hP) fun v H1 h1 => ?_⟩
  obtain ⟨ρ1, S1, d, f1, r1, p1⟩ := h1
  exact ⟨ρ1, S1, e, d, f1.st, f1.e hE, r1, PostG.of p1 (ho _ _ _)⟩
/-! tuples of targets -/
abbrev GsF := List D → Ev.Env → Sto → RS
def tGs (K : PySem.W.Frag) (ws : List Nat) (f : GsF) : TGs := fun vs σ H Q => ∃ ρ S e ds, StRel K H ρ S ∧ RelEnv K H ρ S.nx e σ ∧ RelDs K H ρ S.nx ds vs ∧ PostG K ρ S.nx H ws σ Q (f ds e S)
theorem PGs.to {tg : List Expr} {t t' : TGs} (h : PGs X tg t) (i : ∀ v σ H Q, t' v σ H Q → t v σ H Q) : PGs X tg t' := ⟨fun pins s σ H v u Q I r q => h.run pins s σ H v u Q I r (i v σ H Q q)⟩
def gsNil : GsF := fun ds e S => match ds with
  | [] => .next e S
  | _ => .no
def gsCons (g : GF) (h : GsF) : GsF := fun ds e S => match ds with
  | d :: r => (match g d e S with
    | .next e1 S1 => h r e1 S1
    | _ => .no)
  | [] => .no
theorem sgs_nil : PGs X [] (tGs X.K [] gsNil) := PGs.to pgs_nil fun vs σ H Q ⟨ρ, S, e, ds, hS, hE, hd, hP⟩ => by
  cases ds with
  | nil => exact ⟨rels_nil.mp hd, hP ρ H σ (Fut.refl hS) hE (Alike.refl _)⟩
  | cons _ _ => exact hP.elim
theorem sgs_cons {a : Expr} {es : List Expr} {g : GF} {h : GsF} {ws ws' : List Nat} (hg : PG X a (tG X.K ws g)) (hh : PGs X es (tGs X.K ws' h))
    (he : (assignEach (a :: es) X.env).map (·.2) = assign a X.env :: (assignEach es X.env).map (·.2)) : PGs X (a :: es) (tGs X.K (ws ++ ws') (gsCons g h)) := by
  refine PGs.to (pgs_cons hg hh he) fun vs σ H Q hq => ?_
  obtain ⟨ρ, S, e, ds, hS, hE, hd, hP⟩ := hq
  cases ds with
  | nil => exact hP.elim
  | cons d r =>
    obtain ⟨v, vs', ev, h1, h2⟩ := rels_cons.mp hd
    refine ⟨v, vs', ev, ρ, S, e, d, hS, hE, h1, ?_⟩
    have hP' : PostG X.K ρ S.nx H (ws ++ ws') σ Q (match g d e S with | .next e1 S1 => h r e1 S1 | _ => .no) := hP
    generalize g d e S = z at hP'
    cases z with
    | next e1 S1 =>
      intro ρ1 H1 σ1 f1 r1 al
      refine ⟨ρ1, S1, e1, r, f1.st, r1, f1.ds h2, ?_⟩
      have hP2 : PostG X.K ρ S.nx H (ws ++ ws') σ Q (h r e1 S1) := hP'
      generalize h r e1 S1 = y at hP2
      cases y with
      | next e2 S2 => exact fun ρ2 H2 σ2 f2 r2 al2 => hP2 ρ2 H2 σ2 (f1.trans f2) r2 (al.trans al2)
      | _ => exact hP2.elim
    | _ => exact hP'.elim
def gTupD (n : Nat) (h : GsF) : GF := fun d e S => match d with
  | .tup ds => bif Nat.beq ds.length n then h ds e S else .no
  | _ => .no
theorem sg_tup {es : List Expr} {h : GsF} {ws : List Nat} {k n : Nat} {pos : Pos} (hc : X.calm = true) (hh : PGs X es (tGs X.K ws h)) (hl : (assignEach es X.env).length = n) (hf : (assignEach es X.env).findIdx? (·.1) = none) : PG X (.Tuple es k pos) (tG X.K ws (gTupD n h)) := by
  refine PG.to (pg_tup hc hh hl hf) fun v σ H Q hq => ?_
  obtain ⟨ρ, S, e, d, hS, hE, hd, hP⟩ := hq
  cases d with
  | tup ds =>
    obtain ⟨a, vs, ev, s1, r1⟩ := rel_tup.mp hd
    have hP' : PostG X.K ρ S.nx H ws σ Q (bif Nat.beq ds.length n then h ds e S else .no) := hP
    cases hb : Nat.beq ds.length n with
    | false => rw [hb] at hP'; exact hP'.elim
    | true =>
      rw [hb] at hP'
      exact ⟨a, vs, ev, SqT.of s1, by rw [← r1.length]; exact Nat.eq_of_beq_eq_true hb, ρ, S, e, ds, hS, hE, r1, hP'⟩
  | _ => exact hP.elim
/-! two names, two values at once -/
def sPar (i j : Nat) (f : LF) : SF := fun e S => (f e S).toS e fun ds S1 => match ds with
  | [x, y] => .next ((e.set i (some x)).set j (some y)) S1
  | _ => .no
theorem ss_par {i j : Nat} {x y : Str} {a b : Expr} {f : LF} {px py pt pos : Pos} {kt k2 : Nat} {pt2 : Pos} (hc : X.calm = true) (hN : X.N.Nodup) (hi : X.N[i]? = some x) (hj : X.N[j]? = some y) (hij : i ≠ j)
    (hx : X.env.scope.names.lookup x = some .local) (hy : X.env.scope.names.lookup y = some .local) (ha : PA X [a, b] (tA X.K f))
    (hw : swappedStores [.Tuple [.Name x px, .Name y py] kt pt] (.Tuple [a, b] k2 pt2) X.env = pure (some [x, y]))
    (hs : swapsWithSole [.Tuple [.Name x px, .Name y py] kt pt] (.Tuple [a, b] k2 pt2) pos.line X.env = pure false) :
    PS X (.Assign [.Tuple [.Name x px, .Name y py] kt pt] (.Tuple [a, b] k2 pt2) pos) (tS X.K (sPar i j f)) := by
  refine PS.to (ps_par hc hN hi hj hij hx hy ha hw hs) fun W σ H hq => ?_
  obtain ⟨ρ, S, e, hS, hE, hP⟩ := hq
  refine ⟨ρ, S, e, hS, hE, PostL.imp (PostS.bindL hP) fun vs H1 h1 => ?_⟩
  obtain ⟨ρ1, S1, ds, f1, r1, p1⟩ := h1
  match ds, p1 with
  | [d1, d2], p1 =>
    obtain ⟨v, r, e1, q1, q2⟩ := rels_cons.mp r1
    obtain ⟨u, r2, e2, q3, q4⟩ := rels_cons.mp q2
    rw [rels_nil.mp q4] at e2
    refine ⟨v, u, by rw [e1, e2], PostS.n f1.st (((f1.e hE).set q1 i).set q3 j) p1⟩
  | [], p1 => exact p1.elim
  | [_], p1 => exact p1.elim
  | _ :: _ :: _ :: _, p1 => exact p1.elim
end
end Ev

namespace Ev
open PySem L2

/-! ### while -/
def whileR (t : BF) (f : SF) : Nat → SF
  | 0, _, _ => .no
  | n + 1, e, S => (t e S).toS e fun b S1 => bif b then (match f e S1 with
    | .next e1 S2 => whileR t f n e1 S2
    | .cont e1 S2 => whileR t f n e1 S2
    | .brk e1 S2 => .next e1 S2
    | r => r) else .next e S1
section
variable {X : Cx}
theorem ss_while {c : Expr} {body : List Stmt} {t : BF} {f : SF} {n : Nat} {pos : Pos} (hx : X.xe = fun _ _ => False) (hc : PT X c (tT X.K t)) (hb : PSs X body (tS X.K f)) : PS X (.While c body [] pos) (tS X.K (whileR t f n)) := by
  refine PS.to (ps_while (by rw [hx]; exact PassesOwn.never) hc hb) fun W σ H hq => ?_
  obtain ⟨ρ, S, e, hS, hE, hP⟩ := hq
  refine ⟨fun m σ H => ∃ ρ S e, StRel X.K H ρ S ∧ RelEnv X.K H ρ S.nx e σ ∧ PostS X.K ρ S.nx H W (whileR t f m e S), ⟨n, ρ, S, e, hS, hE, hP⟩, ?_⟩
  rintro m σ H ⟨ρ, S, e, hS, hE, hP⟩
  cases m with
  | zero => exact hP.elim
  | succ m =>
    refine ⟨ρ, S, e, hS, hE, PostB.imp (PostS.bindB hP) fun b H1 h1 => ?_⟩
    obtain ⟨ρ1, S1, f1, p1⟩ := h1
    cases b with
    | false => exact PostS.n f1.st (f1.e hE) p1
    | true =>
      refine ⟨fun σ' H' => ∃ ρ S e, StRel X.K H' ρ S ∧ RelEnv X.K H' ρ S.nx e σ' ∧ PostS X.K ρ S.nx H' W (whileR t f m e S), fun σ' H' h => ⟨m, Nat.lt_succ_self m, h⟩, ρ1, S1, e, f1.st, f1.e hE, ?_⟩
      have p2 : PostS X.K ρ1 S1.nx H1 W (match f e S1 with
        | .next e1 S2 => whileR t f m e1 S2
        | .cont e1 S2 => whileR t f m e1 S2
        | .brk e1 S2 => .next e1 S2
        | r => r) := p1
      generalize f e S1 = z at p2
      cases z with
      | next e1 S2 => exact fun ρ2 H2 σ2 f2 r2 => ⟨ρ2, S2, e1, f2.st, r2, PostS.fut f2 p2⟩
      | cont e1 S2 => exact fun ρ2 H2 σ2 f2 r2 => ⟨ρ2, S2, e1, f2.st, r2, PostS.fut f2 p2⟩
      | brk e1 S2 => exact p2
      | ret d S2 => exact p2
      | exc _ _ _ => exact p2
      | no => exact p2
end

/-! ### for -/
inductive NX where
  | stop
  | item (d : D)
  | bad
abbrev IT := Nat → Sto → NX
abbrev IF := Ev.Env → Sto → R IT
def forR (nx : IT) (g : GF) (f : SF) : Nat → Nat → SF
  | 0, _, _, _ => .no
  | n + 1, i, e, S => match nx i S with
    | .stop => .next e S
    | .item d => (match g d e S with
      | .next e1 S1 => (match f e1 S1 with
        | .next e2 S2 => forR nx g f n (i + 1) e2 S2
        | .cont e2 S2 => forR nx g f n (i + 1) e2 S2
        | .brk e2 S2 => .next e2 S2
        | r => r)
      | _ => .no)
    | .bad => .no
def sFor (n : Nat) (it : IF) (g : GF) (f : SF) : SF := fun e S => (it e S).toS e fun nx S1 => forR nx g f n 0 e S1
def ItOk (K : PySem.W.Frag) (nx : IT) (ρ : P → Addr) (S : Sto) (H : Hp) (J : It) : Prop :=
  ∀ ρ1 S1 H1 i, Fut K ρ S.nx H ρ1 S1 H1 → (nx i S1 = .stop → J.stop i H1) ∧ ∀ d, nx i S1 = .item d → J.go i H1 ∧ ∀ x H2, J.yld i H1 x H2 → Fut K ρ1 S1.nx H1 ρ1 S1 H2 ∧ RelD K H2 ρ1 S1.nx d x
def PostI (K : PySem.W.Frag) (ρ : P → Addr) (c : P) (H : Hp) (Q : It → Hp → Prop) : R IT → Prop
  | .ok nx S' => ∀ ρ' H' J, Fut K ρ c H ρ' S' H' → ItOk K nx ρ' S' H' J → Q J H'
  | _ => False
def tI (K : PySem.W.Frag) (f : IF) : TI := fun σ H Q => ∃ ρ S e, StRel K H ρ S ∧ RelEnv K H ρ S.nx e σ ∧ PostI K ρ S.nx H Q (f e S)
section
variable {X : Cx} {tg : Expr}
theorem PI.to {it : Expr} {t t' : TI} (h : PI X tg it t) (i : ∀ σ H Q, t' σ H Q → t σ H Q) : PI X tg it t' := ⟨fun pins s σ H Q I q => h.run pins s σ H Q I (i σ H Q q)⟩
theorem PI.or {it : Expr} {t t' : TI} (h : PI X tg it t) (h' : PI X tg it t') : PI X tg it (fun σ H Q => t σ H Q ∨ t' σ H Q) := ⟨fun pins s σ H Q I q => by
  rcases q with q | q
  · exact h.run pins s σ H Q I q
  · exact h'.run pins s σ H Q I q⟩
theorem PostI.fut {K : PySem.W.Frag} {ρ ρ1 : P → Addr} {c : P} {S1 : Sto} {H H1 : Hp} {Q : It → Hp → Prop} {r : R IT} (f : Fut K ρ c H ρ1 S1 H1) (h : PostI K ρ c H Q r) : PostI K ρ1 S1.nx H1 Q r := by
  cases r with
  | ok nx S' => exact fun ρ' H' J f' k => h ρ' H' J (f.trans f') k
  | exc _ _ => exact h
  | no => exact h
theorem PostI.bind {K : PySem.W.Frag} {ρ : P → Addr} {c : P} {H : Hp} {Q : It → Hp → Prop} {r : R D} {g : D → Sto → R IT} (h : PostI K ρ c H Q (r.bind g)) :
    PostR K ρ c H (fun v H1 => ∃ ρ1 S1 d, Fut K ρ c H ρ1 S1 H1 ∧ RelD K H1 ρ1 S1.nx d v ∧ PostI K ρ1 S1.nx H1 Q (g d S1)) r := by
  cases r with
  | ok d S' => exact fun ρ' H' v f r => ⟨ρ', S', d, f, r, PostI.fut f h⟩
  | exc _ _ => exact h
  | no => exact h
theorem PostI.bindL {K : PySem.W.Frag} {ρ : P → Addr} {c : P} {H : Hp} {Q : It → Hp → Prop} {r : R (List D)} {g : List D → Sto → R IT} (h : PostI K ρ c H Q (r.bind g)) :
    PostL K ρ c H (fun v H1 => ∃ ρ1 S1 d, Fut K ρ c H ρ1 S1 H1 ∧ RelDs K H1 ρ1 S1.nx d v ∧ PostI K ρ1 S1.nx H1 Q (g d S1)) r := by
  cases r with
  | ok d S' => exact fun ρ' H' v f r => ⟨ρ', S', d, f, r, PostI.fut f h⟩
  | exc _ _ => exact h
  | no => exact h
theorem PostI.c {K : PySem.W.Frag} {ρ : P → Addr} {S : Sto} {H : Hp} {Q : It → Hp → Prop} {nx : IT} {J : It} (hS : StRel K H ρ S) (h : PostI K ρ S.nx H Q (.ok nx S)) (k : ItOk K nx ρ S H J) : Q J H := h ρ H J (Fut.refl hS) k
def listX (o : Option (List D)) (i : Nat) : NX := match o with
  | some xs => (match xs[i]? with
    | some d => .item d
    | none => .stop)
  | none => .bad
def itLst (p : P) : IT := fun i S => listX (lstOf S p) i
def itTup (xs : List D) : IT := fun i _ => listX (some xs) i
def itRng (lo : Int) (n : Nat) : IT := fun i _ => bif Nat.blt i n then .item (.int (lo + i)) else .stop
theorem itLst_ok {K : PySem.W.Frag} {ρ : P → Addr} {S : Sto} {H : Hp} {p : P} (lp : p.toNat < S.nx.toNat) : ItOk K (itLst p) ρ S H (Itl K (ρ p)) := by
  intro ρ1 S1 H1 i f
  have lp1 : p.toNat < S1.nx.toNat := Nat.lt_of_lt_of_le lp f.le
  have e : ρ1 p = ρ p := f.ag p lp
  have key : ∀ xs, lstOf S1 p = some xs → ∃ vs, SqL K H1 (ρ p) vs ∧ RelDs K H1 ρ1 S1.nx xs vs := fun xs h => by rw [← e]; exact lst_sq f.st lp1 h
  unfold itLst listX
  constructor
  · intro h
    split at h
    · rename_i xs hl
      obtain ⟨vs, s1, r1⟩ := key xs hl
      split at h
      · cases h
      · rename_i hx
        exact ⟨vs, s1, by rw [← r1.length]; exact List.getElem?_eq_none_iff.mp hx⟩
    · cases h
  · intro d h
    split at h
    · rename_i xs hl
      obtain ⟨vs, s1, r1⟩ := key xs hl
      split at h
      · rename_i d' hd
        cases h
        obtain ⟨u, e1, e2⟩ := r1.get hd
        refine ⟨⟨vs, u, s1, e1⟩, fun x H2 hy => ?_⟩
        obtain ⟨rfl, hy⟩ := hy
        have := hy vs s1
        rw [e1] at this
        cases this
        exact ⟨Fut.refl f.st, e2⟩
      · cases h
    · cases h
theorem itTup_ok {K : PySem.W.Frag} {ρ : P → Addr} {S : Sto} {H : Hp} {a : Addr} {xs : List D} {vs : List V} (ha : H a = some (.tup vs)) (r : RelDs K H ρ S.nx xs vs) : ItOk K (itTup xs) ρ S H (Itt K a) := by
  intro ρ1 S1 H1 i f
  have s1 : SqT K H1 a vs := SqT.of (f.tk.tup _ _ ha)
  have r1 := f.ds r
  unfold itTup listX
  dsimp only
  constructor
  · intro h
    split at h
    · cases h
    · rename_i hx
      exact ⟨vs, s1, by rw [← r1.length]; exact List.getElem?_eq_none_iff.mp hx⟩
  · intro d h
    split at h
    · rename_i d' hd
      cases h
      obtain ⟨u, e1, e2⟩ := r1.get hd
      refine ⟨⟨vs, u, s1, e1⟩, fun x H2 hy => ?_⟩
      obtain ⟨rfl, hy⟩ := hy
      have := hy vs s1
      rw [e1] at this
      cases this
      exact ⟨Fut.refl f.st, e2⟩
    · cases h
theorem itRng_ok {K : PySem.W.Frag} {ρ : P → Addr} {S : Sto} {H : Hp} {lo : Int} {n : Nat} : ItOk K (itRng lo n) ρ S H (Itr lo n) := by
  intro ρ1 S1 H1 i f
  unfold itRng
  cases hb : Nat.blt i n with
  | true =>
    refine ⟨fun h => (by cases h), fun d h => ?_⟩
    cases h
    refine ⟨Nat.blt_eq.mp hb, fun x H2 hy => ?_⟩
    obtain ⟨e1, e2⟩ := hy
    subst e1 e2
    exact ⟨Fut.refl f.st, rel_int.mpr rfl⟩
  | false =>
    refine ⟨fun _ => ?_, fun d h => by cases h⟩
    have : ¬ i < n := fun h => by rw [Nat.blt_eq.mpr h] at hb; cases hb
    exact Nat.le_of_not_lt this
def toIt (d : D) (S : Sto) : R IT := match d with
  | .tup xs => .ok (itTup xs) S
  | .ref p => (match lstOf S p with
    | some _ => .ok (itLst p) S
    | none => .no)
  | _ => .no
def iOf (f : EF) : IF := fun e S => (f e S).bind toIt
theorem si_of {it : Expr} {f : EF} (h : PE X it (tE X.K f)) : PI X tg it (tI X.K (iOf f)) := by
  refine PI.to (PI.or (pi_list h) (pi_tup h)) fun σ H R hq => ?_
  obtain ⟨ρ, S, e, hS, hE, hP⟩ := hq
  unfold iOf at hP
  cases hr : f e S with
  | exc _ _ => rw [hr] at hP; exact hP.elim
  | no => rw [hr] at hP; exact hP.elim
  | ok d S' =>
    rw [hr] at hP
    have hP' : PostI X.K ρ S.nx H R (toIt d S') := hP
    cases d with
    | tup xs =>
      refine Or.inr ⟨ρ, S, e, hS, hE, ?_⟩
      rw [hr]
      intro ρ1 H1 v f1 r1
      obtain ⟨a, vs, ev, s1, r2⟩ := rel_tup.mp r1
      exact ⟨a, ev, ⟨vs, SqT.of s1⟩, PostI.c f1.st (PostI.fut f1 hP') (itTup_ok s1 r2)⟩
    | ref p =>
      refine Or.inl ⟨ρ, S, e, hS, hE, ?_⟩
      rw [hr]
      intro ρ1 H1 v f1 r1
      obtain ⟨lp, ev⟩ := rel_ref.mp r1
      unfold toIt at hP'
      dsimp only at hP'
      split at hP'
      · rename_i xs hl
        obtain ⟨vs, s1, _⟩ := lst_sq f1.st lp hl
        exact ⟨_, ev, ⟨vs, s1⟩, PostI.c f1.st (PostI.fut f1 hP') (itLst_ok lp)⟩
      · exact hP'.elim
    | _ => exact hP'.elim
/-! range -/
def rngOk (i : Int) : Bool := decide (-4611686018427387904 ≤ i) && decide (i < 4611686018427387904)
def rngI1 : List D → Sto → R IT
  | [.int j], S => bif rngOk j then .ok (itRng 0 j.toNat) S else .no
  | _, _ => .no
def rngI2 : List D → Sto → R IT
  | [.int i, .int j], S => bif rngOk i && rngOk j then .ok (itRng i (j - i).toNat) S else .no
  | _, _ => .no
def iRng1' (f : LF) : IF := fun e S => (f e S).bind rngI1
def iRng2' (f : LF) : IF := fun e S => (f e S).bind rngI2
theorem bif_postI {K : PySem.W.Frag} {ρ : P → Addr} {c : P} {H : Hp} {Q : It → Hp → Prop} {b : Bool} {r : R IT} (h : PostI K ρ c H Q (bif b then r else .no)) : b = true ∧ PostI K ρ c H Q r := by
  cases b
  · exact h.elim
  · exact ⟨rfl, h⟩
theorem si_range1 {a : Expr} {f : LF} {p pos : Pos} (hg : Gl X "range") (hm : X.mg "range" = none) (hn : notStar a = true) (ha : PA X [a] (tA X.K f)) : PI X tg (.Call (.Name "range" p) [a] [] pos) (tI X.K (iRng1' f)) := by
  refine PI.to (pi_range1 hg hm ha (by rw [starEach_cons hn]; rfl)) fun σ H R hq => ?_
  obtain ⟨ρ, S, e, hS, hE, hP⟩ := hq
  refine ⟨ρ, S, e, hS, hE, PostL.imp (PostI.bindL hP) fun vs H1 h1 => ?_⟩
  obtain ⟨ρ1, S1, ds, f1, r1, p1⟩ := h1
  unfold rngI1 at p1
  split at p1
  · rename_i j
    obtain ⟨v, r, e1, q1, q2⟩ := rels_cons.mp r1
    rw [rels_nil.mp q2, rel_int.mp q1] at e1
    obtain ⟨h1, h2⟩ := bif_postI p1
    unfold rngOk at h1
    simp only [Bool.and_eq_true, decide_eq_true_eq] at h1
    exact ⟨j, e1, h1.1, h1.2, PostI.c f1.st h2 itRng_ok⟩
  · exact p1.elim
theorem si_range2 {a b : Expr} {f : LF} {p pos : Pos} (hg : Gl X "range") (hm : X.mg "range" = none) (hn : notStar a = true) (hn2 : notStar b = true) (ha : PA X [a, b] (tA X.K f)) : PI X tg (.Call (.Name "range" p) [a, b] [] pos) (tI X.K (iRng2' f)) := by
  refine PI.to (pi_range2 hg hm ha (by rw [starEach_cons hn, starEach_cons hn2]; rfl) (by rw [starEach_cons hn2]; rfl)) fun σ H R hq => ?_
  obtain ⟨ρ, S, e, hS, hE, hP⟩ := hq
  refine ⟨ρ, S, e, hS, hE, PostL.imp (PostI.bindL hP) fun vs H1 h1 => ?_⟩
  obtain ⟨ρ1, S1, ds, f1, r1, p1⟩ := h1
  unfold rngI2 at p1
  split at p1
  · rename_i i j
    obtain ⟨v, r, e1, q1, q2⟩ := rels_cons.mp r1
    obtain ⟨w, r', e2, q3, q4⟩ := rels_cons.mp q2
    rw [rels_nil.mp q4, rel_int.mp q3] at e2
    rw [e2, rel_int.mp q1] at e1
    obtain ⟨h1, h2⟩ := bif_postI p1
    unfold rngOk at h1
    simp only [Bool.and_eq_true, decide_eq_true_eq] at h1
    exact ⟨i, j, e1, ⟨h1.1.1, h1.1.2, h1.2.1, h1.2.2⟩, PostI.c f1.st h2 itRng_ok⟩
  · exact p1.elim
theorem PostS.bindI {K : PySem.W.Frag} {ρ : P → Addr} {c : P} {H : Hp} {W : Ends} {r : R IT} {e : Ev.Env} {g : IT → Sto → RS} (h : PostS K ρ c H W (r.toS e g)) :
    PostI K ρ c H (fun J H1 => ∃ ρ1 S1 nx, Fut K ρ c H ρ1 S1 H1 ∧ ItOk K nx ρ1 S1 H1 J ∧ PostS K ρ1 S1.nx H1 W (g nx S1)) r := by
  cases r with
  | ok d S' => exact fun ρ' H' J f k => ⟨ρ', S', d, f, k, PostS.fut f h⟩
  | exc _ _ => exact h
  | no => exact h
theorem PostI.imp {K : PySem.W.Frag} {ρ : P → Addr} {c : P} {H : Hp} {Q Q' : It → Hp → Prop} {r : R IT} (h : PostI K ρ c H Q r) (i : ∀ v H', Q v H' → Q' v H') : PostI K ρ c H Q' r := by
  cases r with
  | ok d S' => exact fun ρ' H' J f k => i _ _ (h ρ' H' J f k)
  | exc _ _ => exact h
  | no => exact h
/-- for -/
theorem ss_for {it : Expr} {body : List Stmt} {i : IF} {g : GF} {vs : List Nat} {f : SF} {n : Nat} {pos : Pos} (hx : X.xe = fun _ _ => False) (hc : X.calm = true) (hi : PI X tg it (tI X.K i)) (hg : PG X tg (tG X.K vs g)) (hb : PSs X body (tS X.K f))
    (hs : ∀ x, foldedSetIterable it X.env x = pure x) : PS X (.For tg it body [] pos) (tS X.K (sFor n i g f)) := by
  refine PS.to (ps_for (by rw [hx]; exact PassesOwn.never) hc hi hg hb hs) fun W σ H hq => ?_
  obtain ⟨ρ, S, e, hS, hE, hP⟩ := hq
  refine ⟨ρ, S, e, hS, hE, PostI.imp (PostS.bindI hP) fun J H1 h1 => ?_⟩
  obtain ⟨ρ1, S1, nx, f1, k1, p1⟩ := h1
  let Wd : Nat → Nat → St → Hp → Prop := fun j m σ H => ∃ ρ2 S2 e2, Fut X.K ρ1 S1.nx H1 ρ2 S2 H ∧ RelEnv X.K H ρ2 S2.nx e2 σ ∧ PostS X.K ρ2 S2.nx H W (forR nx g f m j e2 S2)
  refine ⟨Wd, ⟨n, ρ1, S1, e, Fut.refl f1.st, f1.e hE, p1⟩, ?_⟩
  rintro j m σ H ⟨ρ2, S2, e2, f2, r2, p2⟩
  cases m with
  | zero => exact p2.elim
  | succ m =>
    have p3 : PostS X.K ρ2 S2.nx H W (match nx j S2 with
      | .stop => .next e2 S2
      | .item d => (match g d e2 S2 with
        | .next e1 S1 => (match f e1 S1 with
          | .next e2 S2 => forR nx g f m (j + 1) e2 S2
          | .cont e2 S2 => forR nx g f m (j + 1) e2 S2
          | .brk e2 S2 => .next e2 S2
          | r => r)
        | _ => .no)
      | .bad => .no) := p2
    obtain ⟨ks, ki⟩ := k1 ρ2 S2 H j f2
    cases hn : nx j S2 with
    | bad => rw [hn] at p3; exact p3.elim
    | stop => rw [hn] at p3; exact Or.inl ⟨ks hn, PostS.n f2.st r2 p3⟩
    | item d =>
      rw [hn] at p3
      obtain ⟨hgo, hy⟩ := ki d hn
      refine Or.inr ⟨hgo, fun σ' H' => Wd (j + 1) m σ' H', fun σ' H' h => ⟨m, Nat.lt_succ_self m, h⟩, fun x H2 hx => ?_⟩
      obtain ⟨f3, r3⟩ := hy x H2 hx
      have f23 := f2.trans f3
      refine ⟨ρ2, S2, e2, d, f3.st, f3.e r2, r3, ?_⟩
      have p4 := PostS.fut f3 p3
      clear p3 p2
      dsimp only at p4
      generalize g d e2 S2 = z at p4
      cases z with
      | next e3 S3 =>
        intro ρ4 H4 σ4 f4 r4 _
        refine ⟨ρ4, S3, e3, f4.st, r4, ?_⟩
        have p5 := PostS.fut f4 p4
        dsimp only at p5
        generalize f e3 S3 = y at p5
        cases y with
        | next e5 S5 => exact fun ρ5 H5 σ5 f5 r5 => ⟨ρ5, S5, e5, (f23.trans f4).trans f5, r5, PostS.fut f5 p5⟩
        | cont e5 S5 => exact fun ρ5 H5 σ5 f5 r5 => ⟨ρ5, S5, e5, (f23.trans f4).trans f5, r5, PostS.fut f5 p5⟩
        | brk e5 S5 => exact p5
        | ret d5 S5 => exact p5
        | exc _ _ _ => exact p5
        | no => exact p5
      | _ => exact p4.elim
end
end Ev

namespace Ev
open PySem L2

/-! ### list comprehensions -/
def wipeE (e : Ev.Env) : List Nat → Ev.Env
  | [] => e
  | v :: vs => (wipeE e vs).set v none
theorem RelEnv.unset {K : PySem.W.Frag} {H : Hp} {ρ : P → Addr} {c : P} : ∀ {e : Ev.Env} {σ : St} (i : Nat), RelEnv K H ρ c e σ → RelEnv K H ρ c (e.set i none) (σ.set i none)
  | [], _, i, h => by
    cases h
    simpa [RelEnv] using rfl
  | x :: xs, _, 0, h => by
    obtain ⟨v, r', e, h1, h2⟩ := h
    subst e
    exact ⟨none, r', rfl, fun d' hd => (by cases hd), h2⟩
  | x :: xs, _, i + 1, h => by
    obtain ⟨v, r', e, h1, h2⟩ := h
    subst e
    exact ⟨v, r'.set i none, rfl, h1, RelEnv.unset i h2⟩
theorem RelEnv.wipe {K : PySem.W.Frag} {H : Hp} {ρ : P → Addr} {c : P} {e : Ev.Env} {σ : St} (h : RelEnv K H ρ c e σ) : ∀ vs : List Nat, RelEnv K H ρ c (wipeE e vs) (L2.wipe σ vs)
  | [] => h
  | v :: vs => RelEnv.unset v (RelEnv.wipe h vs)
theorem wipe_alike {σ : St} : ∀ {vs ws : List Nat} {σ' : St}, Alike ws (L2.wipe σ vs) σ' → (∀ i ∈ ws, i ∈ vs) → L2.wipe σ' vs = L2.wipe σ vs := by
  intro vs ws σ' h hw
  have inn : ∀ (τ : St) (us : List Nat) (i : Nat), i ∈ us → (L2.wipe τ us)[i]? = if i < τ.length then some none else none := by
    intro τ us
    induction us with
    | nil => intro i hi; cases hi
    | cons u us ih =>
      intro i hi
      unfold L2.wipe
      by_cases e : u = i
      · subst e
        by_cases hl : u < τ.length
        · rw [if_pos hl, List.getElem?_set_self (by rw [wipe_length]; exact hl)]
        · rw [if_neg hl, List.getElem?_eq_none]
          rw [List.length_set, wipe_length]
          omega
      · rw [List.getElem?_set_ne e]
        rcases List.mem_cons.mp hi with q | q
        · exact absurd q.symm e
        · exact ih i q
  have hl : σ'.length = σ.length := by rw [h.1, wipe_length]
  apply List.ext_getElem?
  intro i
  by_cases hi : i ∈ vs
  · rw [inn σ' vs i hi, inn σ vs i hi, hl]
  · rw [wipe_out hi, h.2 i (fun q => hi (hw i q)), wipe_out hi]

def lcR (nx : IT) (g : GF) (t : BF) (f : EF) (e : Ev.Env) (q : P) : Nat → Nat → Sto → R Unit
  | 0, _, _ => .no
  | n + 1, i, S => match nx i S with
    | .stop => .ok () S
    | .bad => .no
    | .item d => (match g d e S with
      | .next e1 S1 => (t e1 S1).bind fun b S2 => bif b then ((f e1 S2).bind fun y S3 => match S3.get q with
          | some (.lst acc) => bif decide (acc.length < line) then lcR nx g t f e q n (i + 1) (S3.put q (.lst (acc ++ [y]))) else .no
          | _ => .no)
        else lcR nx g t f e q n (i + 1) S2
      | _ => .no)
def eLc (n : Nat) (it : IF) (g : GF) (t : BF) (f : EF) (vs : List Nat) : EF := fun e S => (it e S).bind fun nx S1 =>
  (lcR nx g t f (wipeE e vs) S1.nx n 0 (S1.new (.lst []))).bind fun _ S2 => .ok (.ref S1.nx) S2
def PostU (K : PySem.W.Frag) (ρ : P → Addr) (c : P) (H : Hp) (Q : (P → Addr) → Sto → Hp → Prop) : R Unit → Prop
  | .ok _ S' => ∀ ρ' H', Fut K ρ c H ρ' S' H' → Q ρ' S' H'
  | _ => False
theorem PostU.fut {K : PySem.W.Frag} {ρ ρ1 : P → Addr} {c : P} {S1 : Sto} {H H1 : Hp} {Q : (P → Addr) → Sto → Hp → Prop} {r : R Unit} (f : Fut K ρ c H ρ1 S1 H1) (h : PostU K ρ c H Q r) : PostU K ρ1 S1.nx H1 Q r := by
  cases r with
  | ok nx S' => exact fun ρ' H' f' => h ρ' H' (f.trans f')
  | exc _ _ => exact h
  | no => exact h
theorem PostU.bindB {K : PySem.W.Frag} {ρ : P → Addr} {c : P} {H : Hp} {Q : (P → Addr) → Sto → Hp → Prop} {r : R Bool} {g : Bool → Sto → R Unit} (h : PostU K ρ c H Q (r.bind g)) :
    PostB K ρ c H (fun b H1 => ∃ ρ1 S1, Fut K ρ c H ρ1 S1 H1 ∧ PostU K ρ1 S1.nx H1 Q (g b S1)) r := by
  cases r with
  | ok d S' => exact fun ρ' H' f => ⟨ρ', S', f, PostU.fut f h⟩
  | exc _ _ => exact h
  | no => exact h
theorem PostU.bind {K : PySem.W.Frag} {ρ : P → Addr} {c : P} {H : Hp} {Q : (P → Addr) → Sto → Hp → Prop} {r : R D} {g : D → Sto → R Unit} (h : PostU K ρ c H Q (r.bind g)) :
    PostR K ρ c H (fun v H1 => ∃ ρ1 S1 d, Fut K ρ c H ρ1 S1 H1 ∧ RelD K H1 ρ1 S1.nx d v ∧ PostU K ρ1 S1.nx H1 Q (g d S1)) r := by
  cases r with
  | ok d S' => exact fun ρ' H' v f r => ⟨ρ', S', d, f, r, PostU.fut f h⟩
  | exc _ _ => exact h
  | no => exact h
theorem PostR.fut {K : PySem.W.Frag} {ρ ρ1 : P → Addr} {c : P} {S1 : Sto} {H H1 : Hp} {Q : VK} {r : R D} (f : Fut K ρ c H ρ1 S1 H1) (h : PostR K ρ c H Q r) : PostR K ρ1 S1.nx H1 Q r := by
  cases r with
  | ok nx S' => exact fun ρ' H' v f' => h ρ' H' v (f.trans f')
  | exc _ _ => exact h
  | no => exact h
theorem PostR.bindI {K : PySem.W.Frag} {ρ : P → Addr} {c : P} {H : Hp} {Q : VK} {r : R IT} {g : IT → Sto → R D} (h : PostR K ρ c H Q (r.bind g)) :
    PostI K ρ c H (fun J H1 => ∃ ρ1 S1 nx, Fut K ρ c H ρ1 S1 H1 ∧ ItOk K nx ρ1 S1 H1 J ∧ PostR K ρ1 S1.nx H1 Q (g nx S1)) r := by
  cases r with
  | ok d S' => exact fun ρ' H' J f k => ⟨ρ', S', d, f, k, PostR.fut f h⟩
  | exc _ _ => exact h
  | no => exact h

section
variable {X : Cx}
/-- from a new list on: the new place, its list -/
theorem new_fut {K : PySem.W.Frag} {ρ : P → Addr} {S : Sto} {H : Hp} {q : Addr} {xs : List D} {vs : List V} (hS : StRel K H ρ S) (hq : H q = none) (r : RelDs K H ρ S.nx xs vs) :
    ∃ ρ', Fut K ρ S.nx H ρ' (S.new (.lst xs)) (upd H q (.lst vs)) ∧ ρ' S.nx = q ∧ S.nx.toNat < (S.new (.lst xs)).nx.toNat := by
  have tk : TK K H (upd H q (.lst vs)) := TK.new hq
  have hs : (S.nx.succ).toNat = S.nx.toNat + 1 := P.succ_nat _
  have ag : ∀ p, p.toNat < S.nx.toNat → (if p = S.nx then q else ρ p) = ρ p := fun p hp => if_neg fun e => by subst e; exact Nat.lt_irrefl _ hp
  obtain ⟨h1, h2⟩ := StRel.new (x := .lst xs) (u := .lst vs) hS hq ⟨vs, rfl, r.mono tk ag (by omega)⟩
  refine ⟨fun p => if p = S.nx then q else ρ p, ⟨?_, h2, tk, h1⟩, if_pos rfl, ?_⟩
  · show S.nx.toNat ≤ S.nx.succ.toNat
    omega
  · show S.nx.toNat < S.nx.succ.toNat
    omega
/-- a list of the store changes -/
theorem put_fut {K : PySem.W.Frag} {ρ : P → Addr} {S : Sto} {H : Hp} {p : P} {ws : List V} {xs : List D} {vs : List V} (hS : StRel K H ρ S) (hp : p.toNat < S.nx.toNat) (ha : H (ρ p) = some (.lst ws)) (r : RelDs K H ρ S.nx xs vs) :
    Fut K ρ S.nx H ρ (S.put p (.lst xs)) (upd H (ρ p) (.lst vs)) := by
  have tk : TK K H (upd H (ρ p) (.lst vs)) := TK.mut ha rfl
  exact ⟨Nat.le_refl _, fun _ _ => rfl, tk, StRel.put hS hp ha rfl ⟨vs, rfl, r.mono tk (fun _ _ => rfl) (Nat.le_refl _)⟩⟩

theorem se_lc {elt tg iter : Expr} {ifs : List Expr} {scope : Scope} {own : List (Str × Nat)} {pos : Pos} {n : Nat} {i : IF} {g : GF} {ws : List Nat} {t : BF} {f : EF}
    (hw : ∀ i ∈ ws, i ∈ own.map (·.2)) {σ : St} {H : Hp} {Q : VK} {K : PySem.W.Frag} (h : tE K (eLc n i g t f (own.map (·.2))) σ H Q) :
    tLc (tI K i) (tG K ws g) (tT K t) (tE K f) (own.map (·.2)) σ H Q := by
  obtain ⟨ρ, S, e, hS, hE, hP⟩ := h
  refine ⟨ρ, S, e, hS, hE, PostI.imp (PostR.bindI hP) fun J H1 h1 => ?_⟩
  obtain ⟨ρ1, S1, nx, f1, k1, p1⟩ := h1
  intro Da hD
  obtain ⟨ρ2, f2, e2, l2⟩ := new_fut (xs := []) (vs := []) f1.st hD (rels_nil.mpr rfl)
  let W : Nat → Nat → Hp → Prop := fun j m H => ∃ ρ3 S3, Fut K ρ2 (S1.new (.lst [])).nx (upd H1 Da (.lst [])) ρ3 S3 H ∧ PostU K ρ3 S3.nx H (fun ρ' S' H' => Q (.ref Da) H') (lcR nx g t f (wipeE e (own.map (·.2))) S1.nx m j S3)
  have start : W 0 n (upd H1 Da (.lst [])) := by
    refine ⟨ρ2, _, Fut.refl f2.st, ?_⟩
    have p2 := PostR.fut f2 p1
    generalize hz : lcR nx g t f (wipeE e (own.map (·.2))) S1.nx n 0 (S1.new (.lst [])) = z at p2 ⊢
    cases z with
    | ok u S' =>
      intro ρ' H' f'
      have p3 : PostR K ρ2 (S1.new (.lst [])).nx (upd H1 Da (.lst [])) Q (.ok (.ref S1.nx) S') := p2
      refine p3 ρ' H' _ f' (rel_ref.mpr ⟨Nat.lt_of_lt_of_le l2 f'.le, ?_⟩)
      rw [f'.ag _ l2, e2]
    | exc _ _ => exact p2
    | no => exact p2
  refine ⟨W, ⟨n, start⟩, ?_⟩
  rintro j m H3 ⟨ρ3, S3, f3, p3⟩
  cases m with
  | zero => exact p3.elim
  | succ m =>
    have f13 : Fut K ρ1 S1.nx H1 ρ3 S3 H3 := f2.trans f3
    have lq : S1.nx.toNat < S3.nx.toNat := Nat.lt_of_lt_of_le l2 f3.le
    have eq : ρ3 S1.nx = Da := (f3.ag _ l2).trans e2
    have hE3 : RelEnv K H3 ρ3 S3.nx (wipeE e (own.map (·.2))) (L2.wipe σ (own.map (·.2))) := (f13.e (f1.e hE)).wipe _
    obtain ⟨ks, ki⟩ := k1 ρ3 S3 H3 j f13
    unfold lcR at p3
    cases hn : nx j S3 with
    | bad => rw [hn] at p3; exact p3.elim
    | stop => rw [hn] at p3; exact Or.inl ⟨ks hn, p3 ρ3 H3 (Fut.refl f3.st)⟩
    | item d =>
      rw [hn] at p3
      obtain ⟨hgo, hy⟩ := ki d hn
      refine Or.inr ⟨hgo, fun H' => W (j + 1) m H', fun H' h => ⟨m, Nat.lt_succ_self m, h⟩, fun x H4 hx => ?_⟩
      obtain ⟨f4, r4⟩ := hy x H4 hx
      refine ⟨ρ3, S3, wipeE e (own.map (·.2)), d, f4.st, f4.e hE3, r4, ?_⟩
      have p4 := PostU.fut f4 p3
      clear p3
      dsimp only at p4
      generalize g d (wipeE e (own.map (·.2))) S3 = z at p4
      cases z with
      | next e5 S5 =>
        intro ρ5 H5 σ5 f5 r5 al5
        refine ⟨wipe_alike al5 hw, ρ5, S5, e5, f5.st, r5, ?_⟩
        have p5 := PostU.fut f5 p4
        refine PostB.imp (PostU.bindB p5) fun b H6 h6 => ?_
        obtain ⟨ρ6, S6, f6, p6⟩ := h6
        have f36 : Fut K ρ2 (S1.new (.lst [])).nx (upd H1 Da (.lst [])) ρ6 S6 H6 := ((f3.trans f4).trans f5).trans f6
        cases b with
        | false => exact ⟨ρ6, S6, f36, p6⟩
        | true =>
          refine ⟨ρ6, S6, e5, f6.st, f6.e r5, PostR.imp (PostU.bind p6) fun y H7 h7 => ?_⟩
          obtain ⟨ρ7, S7, dy, f7, r7, p7⟩ := h7
          have f27 := f36.trans f7
          have lq7 : S1.nx.toNat < S7.nx.toNat := Nat.lt_of_lt_of_le l2 f27.le
          have eq7 : ρ7 S1.nx = Da := (f27.ag _ l2).trans e2
          split at p7
          · rename_i acc hacc
            cases hl : decide (acc.length < line) with
            | false => rw [hl] at p7; exact p7.elim
            | true =>
              rw [hl] at p7
              obtain ⟨va, ha, ra⟩ := st_lst f7.st lq7 hacc
              have f8 := put_fut f7.st lq7 ha (ra.append (rels_one r7))
              rw [eq7] at ha f8
              refine ⟨va, ha, by rw [← ra.length, ← line_eq]; exact of_decide_eq_true hl, ρ7, _, f27.trans f8, PostU.fut f8 p7⟩
          · exact p7.elim
      | _ => exact p4.elim
end
end Ev

namespace Ev
open PySem L2

theorem new_futO {K : PySem.W.Frag} {ρ : P → Addr} {S : Sto} {H : Hp} {q : Addr} {x : O} {u : HO} (hS : StRel K H ρ S) (hq : H q = none)
    (r : ∀ ρ', RelO K (upd H q u) ρ' S.nx.succ x u ∨ (TK K H (upd H q u) → (∀ p, p.toNat < S.nx.toNat → ρ' p = ρ p) → RelO K (upd H q u) ρ' S.nx.succ x u)) :
    ∃ ρ', Fut K ρ S.nx H ρ' (S.new x) (upd H q u) ∧ ρ' S.nx = q ∧ S.nx.toNat < (S.new x).nx.toNat := by
  have tk : TK K H (upd H q u) := TK.new hq
  have hs : (S.nx.succ).toNat = S.nx.toNat + 1 := P.succ_nat _
  have ag : ∀ p, p.toNat < S.nx.toNat → (if p = S.nx then q else ρ p) = ρ p := fun p hp => if_neg fun e => by subst e; exact Nat.lt_irrefl _ hp
  have hx : RelO K (upd H q u) (fun p => if p = S.nx then q else ρ p) S.nx.succ x u := by
    rcases r (fun p => if p = S.nx then q else ρ p) with h | h
    · exact h
    · exact h tk ag
  obtain ⟨h1, h2⟩ := StRel.new hS hq hx
  refine ⟨fun p => if p = S.nx then q else ρ p, ⟨?_, h2, tk, h1⟩, if_pos rfl, ?_⟩
  · show S.nx.toNat ≤ S.nx.succ.toNat
    omega
  · show S.nx.toNat < S.nx.succ.toNat
    omega
theorem put_futO {K : PySem.W.Frag} {ρ : P → Addr} {S : Sto} {H : Hp} {p : P} {w u : HO} {x : O} (hS : StRel K H ρ S) (hp : p.toNat < S.nx.toNat) (ha : H (ρ p) = some w) (hm : mutO w = true) (r : RelO K H ρ S.nx x u) :
    Fut K ρ S.nx H ρ (S.put p x) (upd H (ρ p) u) := by
  have tk : TK K H (upd H (ρ p) u) := TK.mut ha hm
  exact ⟨Nat.le_refl _, fun _ _ => rfl, tk, StRel.put hS hp ha hm (r.mono tk (fun _ _ => rfl) (Nat.le_refl _))⟩

/-! ### dict displays with written keys -/
def prR : List (EF × EF) → Ev.Env → Sto → R (List (D × D))
  | [], _, S => .ok [] S
  | (fk, fv) :: r, e, S => (fk e S).bind fun k S1 => (fv e S1).bind fun v S2 => (prR r e S2).bind fun ps S3 => .ok ((k, v) :: ps) S3
def RelPs (K : PySem.W.Frag) (H : Hp) (ρ : P → Addr) (c : P) : List (D × D) → List (V × V) → Prop
  | [], vs => vs = []
  | x :: xs, vs => ∃ a b r, vs = (a, b) :: r ∧ RelD K H ρ c x.1 a ∧ RelD K H ρ c x.2 b ∧ RelPs K H ρ c xs r
theorem RelPs.mono {K : PySem.W.Frag} {H H' : Hp} {ρ ρ' : P → Addr} {c c' : P} (tk : TK K H H') (ag : ∀ p, p.toNat < c.toNat → ρ' p = ρ p) (le : c.toNat ≤ c'.toNat) : ∀ {ds : List (D × D)} {vs : List (V × V)}, RelPs K H ρ c ds vs → RelPs K H' ρ' c' ds vs
  | [], _, h => h
  | x :: xs, _, ⟨a, b, r, e, h1, h2, h3⟩ => ⟨a, b, r, e, h1.mono tk ag le, h2.mono tk ag le, RelPs.mono tk ag le h3⟩
def PostP (K : PySem.W.Frag) (ρ : P → Addr) (c : P) (H : Hp) (Q : List (V × V) → Hp → Prop) : R (List (D × D)) → Prop
  | .ok ds S' => ∀ ρ' H' vs, Fut K ρ c H ρ' S' H' → RelPs K H' ρ' S'.nx ds vs → Q vs H'
  | _ => False
theorem PostP.fut {K : PySem.W.Frag} {ρ ρ1 : P → Addr} {c : P} {S1 : Sto} {H H1 : Hp} {Q : List (V × V) → Hp → Prop} {r : R (List (D × D))} (f : Fut K ρ c H ρ1 S1 H1) (h : PostP K ρ c H Q r) : PostP K ρ1 S1.nx H1 Q r := by
  cases r with
  | ok nx S' => exact fun ρ' H' v f' => h ρ' H' v (f.trans f')
  | exc _ _ => exact h
  | no => exact h
theorem PostP.bind {K : PySem.W.Frag} {ρ : P → Addr} {c : P} {H : Hp} {Q : List (V × V) → Hp → Prop} {r : R D} {g : D → Sto → R (List (D × D))} (h : PostP K ρ c H Q (r.bind g)) :
    PostR K ρ c H (fun v H1 => ∃ ρ1 S1 d, Fut K ρ c H ρ1 S1 H1 ∧ RelD K H1 ρ1 S1.nx d v ∧ PostP K ρ1 S1.nx H1 Q (g d S1)) r := by
  cases r with
  | ok d S' => exact fun ρ' H' v f r => ⟨ρ', S', d, f, r, PostP.fut f h⟩
  | exc _ _ => exact h
  | no => exact h
theorem tPairs_of {K : PySem.W.Frag} : ∀ (fs : List (EF × EF)) {σ : St} {H : Hp} {Q : List (V × V) → Hp → Prop} {ρ : P → Addr} {S : Sto} {e : Ev.Env}, StRel K H ρ S → RelEnv K H ρ S.nx e σ → PostP K ρ S.nx H Q (prR fs e S) →
    tPairs (fs.map fun p => (tE K p.1, tE K p.2)) σ H Q
  | [], σ, H, Q, ρ, S, e, hS, hE, hP => hP ρ H [] (Fut.refl hS) rfl
  | (fk, fv) :: r, σ, H, Q, ρ, S, e, hS, hE, hP => by
    refine ⟨ρ, S, e, hS, hE, PostR.imp (PostP.bind hP) fun v H1 h1 => ?_⟩
    obtain ⟨ρ1, S1, d, f1, r1, p1⟩ := h1
    refine ⟨ρ1, S1, e, f1.st, f1.e hE, PostR.imp (PostP.bind p1) fun u H2 h2 => ?_⟩
    obtain ⟨ρ2, S2, d2, f2, r2, p2⟩ := h2
    refine tPairs_of r (ρ := ρ2) (S := S2) (e := e) f2.st (f2.e (f1.e hE)) ?_
    generalize prR r e S2 = z at p2
    cases z with
    | ok ps S3 =>
      intro ρ3 H3 vs f3 r3
      have p3 : PostP K ρ2 S2.nx H2 Q (.ok ((d, d2) :: ps) S3) := p2
      exact p3 ρ3 H3 ((v, u) :: vs) f3 ⟨v, u, vs, rfl, f3.d (f2.d r1), f3.d r2, r3⟩
    | exc _ _ => exact p2
    | no => exact p2
def allKeys : List (D × D) → Bool
  | [] => true
  | p :: r => match keyOf p.1 with
    | some _ => allKeys r
    | none => false
def mergeA (kvs : List (D × D)) : List (D × D) → List (D × D)
  | [] => kvs
  | p :: r => match keyOf p.1 with
    | some k => mergeA (putA keyOf keyEq k p.1 p.2 kvs) r
    | none => kvs
theorem merge_rel {K : PySem.W.Frag} {H : Hp} {ρ : P → Addr} {c : P} : ∀ {ps : List (D × D)} {vs : List (V × V)} {kvs : List (D × D)} {l : List (Key × V)}, RelPs K H ρ c ps vs → allKeys ps = true → RelKs K H ρ c kD kvs l →
    ∃ m : List (Key × V), vs = m.map (fun kv => (kV kv.1, kv.2)) ∧ m.length = ps.length ∧ RelKs K H ρ c kD (mergeA kvs ps) (mergeK l m)
  | [], vs, kvs, l, h, _, hk => ⟨[], by rw [show _ = _ from h]; rfl, rfl, hk⟩
  | p :: r, vs, kvs, l, ⟨a, b, r', e, h1, h2, h3⟩, ha, hk => by
    unfold allKeys at ha
    unfold mergeA
    split at ha
    · rename_i k hkk
      have hp := keyOf_eq hkk
      have hav : a = kV k := by
        rw [hp] at h1
        cases k with
        | inl i => exact rel_int.mp h1
        | inr x => exact rel_str.mp h1
      rw [hp]
      obtain ⟨m, e1, e2, e3⟩ := merge_rel h3 ha (putA_rel (k := k) kDok h2 hk)
      exact ⟨(k, b) :: m, by rw [e, e1, hav]; rfl, by simp [e2], e3⟩
    · cases ha
def eDisp (fs : List (EF × EF)) : EF := fun e S => (prR fs e (S.new (.dct false []))).bind fun ps S2 => match S2.get S.nx with
  | some (.dct false []) => bif allKeys ps && Nat.ble ps.length 15 then .ok (.ref S.nx) (S2.put S.nx (.dct false (mergeA [] ps))) else .no
  | _ => .no
theorem disp_to {K : PySem.W.Frag} {fs : List (EF × EF)} {σ : St} {H : Hp} {Q : VK} (h : tE K (eDisp fs) σ H Q) : tDisp (fs.map fun p => (tE K p.1, tE K p.2)) σ H Q := by
  obtain ⟨ρ, S, e, hS, hE, hP⟩ := h
  intro q hq
  obtain ⟨ρ1, f1, e1, l1⟩ := new_futO (x := .dct false []) (u := .dK []) hS hq (fun _ => Or.inl (Or.inl ⟨rfl, [], rfl, rfl⟩))
  refine tPairs_of fs f1.st (f1.e hE) ?_
  have p1 := PostR.fut f1 hP
  unfold eDisp at p1
  clear hP
  generalize prR fs e (S.new (.dct false [])) = z at p1
  cases z with
  | ok ps S2 =>
    intro ρ2 H2 vs f2 r2
    have p2 := PostR.fut f2 p1
    clear p1
    dsimp only [R.bind] at p2
    split at p2
    · rename_i hg
      obtain ⟨hb, p3⟩ := bif_post p2
      rw [Bool.and_eq_true] at hb
      have lp : S.nx.toNat < S2.nx.toNat := Nat.lt_of_lt_of_le l1 f2.le
      have eq : ρ2 S.nx = q := (f2.ag _ l1).trans e1
      obtain ⟨o, u, g1, g2, g3⟩ := f2.st.at_ S.nx lp
      rw [hg] at g1
      cases g1
      have gu : u = .dK [] := by
        rcases g3 with ⟨_, l, e, h⟩ | ⟨z, _⟩
        · rw [e, show l = [] from h]
        · cases z
      rw [eq, gu] at g2
      obtain ⟨m, m1, m2, m3⟩ := merge_rel (kvs := []) (l := []) r2 hb.1 rfl
      have f3 := put_futO (p := S.nx) (u := .dK (mergeK [] m)) (x := .dct false (mergeA [] ps)) f2.st lp (by rw [eq]; exact g2) rfl (Or.inl ⟨rfl, _, rfl, m3⟩)
      rw [eq] at f3
      refine ⟨g2, m, m1, by rw [m2]; exact Nat.le_of_ble_eq_true hb.2, ?_⟩
      exact p3 ρ2 _ _ f3 (rel_ref.mpr ⟨lp, by rw [eq]⟩)
    · exact p2.elim
  | exc _ _ => exact p1
  | no => exact p1
section
variable {X : Cx}
theorem se_disp {keys : List (Option Expr)} {values : List Expr} {fs : List (EF × EF)} {pos : Pos} (h : PPs X pos keys values (fs.map fun p => (tE X.K p.1, tE X.K p.2))) (hall : keys.all (·.isSome) = true) (hl : keys.length = values.length) (h0 : keys ≠ [])
    (h15 : keys.length ≤ 15) : PE X (.Dict keys values pos) (tE X.K (eDisp fs)) := PE.to (pe_disp h hall hl h0 h15) fun σ H Q h => disp_to h
def eNewD (t : Bool) : EF := fun _ S => .ok (.ref S.nx) (S.new (.dct t []))
theorem se_newD {t : Bool} {pos : Pos} : PE X (.Dict [] [] pos) (tE X.K (eNewD t)) := by
  cases t with
  | false =>
    refine PE.to pe_dnewK fun σ H Q h => ?_
    obtain ⟨ρ, S, e, hS, hE, hP⟩ := h
    intro q hq
    obtain ⟨ρ1, f1, e1, l1⟩ := new_futO (x := .dct false []) (u := .dK []) hS hq (fun _ => Or.inl (Or.inl ⟨rfl, [], rfl, rfl⟩))
    exact hP ρ1 _ _ f1 (rel_ref.mpr ⟨l1, by rw [e1]⟩)
  | true =>
    refine PE.to pe_dnewT fun σ H Q h => ?_
    obtain ⟨ρ, S, e, hS, hE, hP⟩ := h
    intro q hq
    obtain ⟨ρ1, f1, e1, l1⟩ := new_futO (x := .dct true []) (u := .dT []) hS hq (fun _ => Or.inl (Or.inr ⟨rfl, [], rfl, rfl⟩))
    exact hP ρ1 _ _ f1 (rel_ref.mpr ⟨l1, by rw [e1]⟩)

/-! ### d[k] = v -/
def putD (o k v : D) (S : Sto) : Option Sto := match o with
  | .ref p => (match S.get p with
    | some (.dct t kvs) => (match setA t kvs k v with
      | some l => bif decide (kvs.length < line) then some (S.put p (.dct t l)) else none
      | none => none)
    | _ => none)
  | _ => none
def sDPut (fo fk fv : EF) : SF := fun e S => (fv e S).toS e fun v S1 => (fo e S1).toS e fun o S2 => (fk e S2).toS e fun k S3 => match putD o k v S3 with
  | some S4 => .next e S4
  | none => .no
theorem keyV {K : PySem.W.Frag} {H : Hp} {ρ : P → Addr} {c : P} {κ : List Key} : ∀ {vs : List V}, RelDs K H ρ c (κ.map kD) vs → vs = κ.map kV := by
  induction κ with
  | nil => intro vs h; exact rels_nil.mp h
  | cons z κ ih =>
    intro vs h
    obtain ⟨v, r, e, h1, h2⟩ := rels_cons.mp h
    rw [e, ih h2]
    cases z with
    | inl i => rw [rel_int.mp h1]; rfl
    | inr x => rw [rel_str.mp h1]; rfl
theorem putD_ok {K : PySem.W.Frag} {ρ : P → Addr} {S S' : Sto} {H : Hp} {o k v : D} {x y z : V} (hS : StRel K H ρ S) (ho : RelD K H ρ S.nx o x) (hk : RelD K H ρ S.nx k y) (hv : RelD K H ρ S.nx v z) (h : putD o k v S = some S') :
    ∃ a H', x = .ref a ∧ DPut H a y z H' ∧ Fut K ρ S.nx H ρ S' H' := by
  cases o with
  | ref p =>
    obtain ⟨lp, ex⟩ := rel_ref.mp ho
    unfold putD at h
    dsimp only at h
    split at h
    · rename_i t kvs hg
      split at h
      · rename_i l hl
        cases hb : decide (kvs.length < line) with
        | false => rw [hb] at h; cases h
        | true =>
          rw [hb] at h
          cases h
          obtain ⟨ob, u, g1, g2, g3⟩ := hS.at_ p lp
          rw [hg] at g1
          cases g1
          have hlen : kvs.length < sizeLine := by rw [← line_eq]; exact of_decide_eq_true hb
          rcases g3 with ⟨et, m, em, hm⟩ | ⟨et, m, em, hm⟩
          · subst et em
            have hl' : (match keyOf k with | some κ => some (putA keyOf keyEq κ k v kvs) | none => none) = some l := hl
            split at hl'
            · rename_i κ hκ
              cases hl'
              have hkk := keyOf_eq hκ
              have hy : y = kV κ := by
                rw [hkk] at hk
                cases κ with
                | inl i => exact rel_int.mp hk
                | inr x => exact rel_str.mp hk
              refine ⟨_, upd H (ρ p) (.dK (putK m κ z)), ex, Or.inl ⟨m, κ, g2, hy, by rw [← RelKs.length hm]; exact hlen, rfl⟩, put_futO hS lp g2 rfl ?_⟩
              refine Or.inl ⟨rfl, _, rfl, ?_⟩
              rw [hkk]
              exact putA_rel kDok hv hm
            · cases hl'
          · subst et em
            have hl' : (match keysOf k with | some κ => some (putA keysOf keysEq κ k v kvs) | none => none) = some l := hl
            split at hl'
            · rename_i κ hκ
              cases hl'
              have hkk := keysOf_eq hκ
              rw [hkk] at hk
              obtain ⟨b, vs, eb, hb2, hr⟩ := rel_tup.mp hk
              rw [keyV hr] at hb2
              refine ⟨_, upd H (ρ p) (.dT (putK m κ z)), ex, Or.inr ⟨m, κ, b, g2, eb, hb2, by rw [← RelKs.length hm]; exact hlen, rfl⟩, put_futO hS lp g2 rfl ?_⟩
              refine Or.inr ⟨rfl, _, rfl, ?_⟩
              rw [hkk]
              exact putA_rel kTok hv hm
            · cases hl'
      · cases h
    · cases h
  | _ => cases h
theorem ss_dput {o i value : Expr} {fo fk fv : EF} {pos pos' : Pos} (hu : X.A.units + 1 < cLine) (ho : PE X o (tE X.K fo)) (hi : PE X i (tE X.K fk)) (hv : PE X value (tE X.K fv)) (hs : swapsWith value (some (.Subscript o i pos')) pos.line X.env = pure false) :
    PS X (.Assign [.Subscript o i pos'] value pos) (tS X.K (sDPut fo fk fv)) := by
  refine PS.to (ps_dput hu ho hi hv hs) fun W σ H hq => ?_
  obtain ⟨ρ, S, e, hS, hE, hP⟩ := hq
  refine ⟨ρ, S, e, hS, hE, PostR.imp (PostS.bind hP) fun v H1 h1 => ?_⟩
  obtain ⟨ρ1, S1, d, f1, r1, p1⟩ := h1
  refine ⟨ρ1, S1, e, f1.st, f1.e hE, PostR.imp (PostS.bind p1) fun v2 H2 h2 => ?_⟩
  obtain ⟨ρ2, S2, d2, f2, r2, p2⟩ := h2
  refine ⟨ρ2, S2, e, f2.st, f2.e (f1.e hE), PostR.imp (PostS.bind p2) fun v3 H3 h3 => ?_⟩
  obtain ⟨ρ3, S3, d3, f3, r3, p3⟩ := h3
  split at p3
  · rename_i S4 h4
    obtain ⟨a, H4, ex, hd, f4⟩ := putD_ok f3.st (f3.d r2) r3 (f3.d (f2.d r1)) h4
    exact ⟨a, H4, ex, hd, p3 ρ3 H4 σ f4 (f4.e (f3.e (f2.e (f1.e hE))))⟩
  · exact p3.elim

/-! ### xs.append(e), xs.extend(ys) -/
def eMeth (k : Kd) (op : D → List D → Sto → R D) (fo : EF) (fa : LF) : EF := fun e S => (fo e S).bind fun d S1 => bif (match kindD S1 d with | some j => decide (j = k) | none => false) then (fa e S1).bind fun ds S2 => op d ds S2 else .no
def MtD (K : PySem.W.Frag) (op : D → List D → Sto → R D) (r : V → List V → Hp → VK → Prop) : Prop :=
  ∀ ρ S H x xs v vs Q, StRel K H ρ S → RelD K H ρ S.nx x v → RelDs K H ρ S.nx xs vs → PostR K ρ S.nx H Q (op x xs S) → r v vs H Q
theorem kind_tyV {K : PySem.W.Frag} {H : Hp} {ρ : P → Addr} {S : Sto} {x : D} {v : V} {k : Kd} (hS : StRel K H ρ S) (hx : RelD K H ρ S.nx x v) (h : kindD S x = some k) (hk : k = .lst ∨ k = .str ∨ k = .dct) : tyV K k.name v H := by
  cases x with
  | non => cases h; rcases hk with h | h | h <;> cases h
  | bl b => cases h; rcases hk with h | h | h <;> cases h
  | int b => cases h; rcases hk with h | h | h <;> cases h
  | str b => cases h; rw [rel_str.mp hx]; exact rfl
  | rep b => cases h; rw [rel_rep.mp hx]; exact rfl
  | ty b => cases h
  | scr xs =>
    cases h
    obtain ⟨a, vs, e, s1, r1⟩ := rel_scr.mp hx
    subst e
    exact Or.inl ⟨rfl, vs, s1.sq⟩
  | tup xs => cases h; rcases hk with h | h | h <;> cases h
  | ref p =>
    obtain ⟨lp, e⟩ := rel_ref.mp hx
    subst e
    obtain ⟨o, u, h1, h2, h3⟩ := hS.at_ p lp
    unfold kindD at h
    dsimp only at h
    rw [h1] at h
    cases o with
    | lst xs => cases h; obtain ⟨vs, e, _⟩ := h3; exact Or.inl ⟨rfl, vs, SqL.of (by rw [h2, e])⟩
    | rol xs => cases h; obtain ⟨o, vs, e, _⟩ := h3; exact Or.inl ⟨rfl, vs, Or.inl (Or.inr ⟨o, by rw [h2, e]⟩)⟩
    | dct t xs =>
      cases h
      rcases h3 with ⟨_, l, e, _⟩ | ⟨_, l, e, _⟩
      · exact Or.inr (Or.inr (Or.inl ⟨rfl, Or.inl ⟨l, by rw [h2, e]⟩⟩))
      · exact Or.inr (Or.inr (Or.inl ⟨rfl, Or.inr ⟨l, by rw [h2, e]⟩⟩))
    | lck t xs => cases h
theorem meth_to {K : PySem.W.Frag} {k : Kd} {op : D → List D → Sto → R D} {r : V → List V → Hp → VK → Prop} {fo : EF} {fa : LF} (hk : k = .lst ∨ k = .str ∨ k = .dct) (hd : MtD K op r) {σ : St} {H : Hp} {Q : VK} (h : tE K (eMeth k op fo fa) σ H Q) :
    tBM K k.name r (tE K fo) (tA K fa) σ H Q := by
  obtain ⟨ρ, S, e, hS, hE, hP⟩ := h
  refine ⟨ρ, S, e, hS, hE, PostR.imp (PostR.bind hP) fun v H1 h1 => ?_⟩
  obtain ⟨ρ1, S1, d, f1, r1, p1⟩ := h1
  obtain ⟨hb, p2⟩ := bif_post p1
  split at hb
  · rename_i j hj
    have ej := of_decide_eq_true hb
    subst ej
    refine ⟨kind_tyV f1.st r1 hj hk, ρ1, S1, e, f1.st, f1.e hE, PostL.imp (PostR.bindL p2) fun vs H2 h2 => ?_⟩
    obtain ⟨ρ2, S2, ds, f2, r2, p3⟩ := h2
    exact hd ρ2 S2 H2 d ds v vs Q f2.st (f2.d r1) r2 p3
  · cases hb
def appD : D → List D → Sto → R D
  | .ref p, [y], S => match S.get p with
    | some (.lst xs) => bif decide (xs.length < line) then .ok .non (S.put p (.lst (xs ++ [y]))) else .no
    | _ => .no
  | _, _, _ => .no
theorem appD_ok {K : PySem.W.Frag} : MtD K appD rAppend := by
  intro ρ S H x xs v vs Q hS hx hxs hP
  unfold appD at hP
  split at hP
  · rename_i p y
    obtain ⟨lp, ex⟩ := rel_ref.mp hx
    obtain ⟨u, r, e, h1, h2⟩ := rels_cons.mp hxs
    rw [rels_nil.mp h2] at e
    split at hP
    · rename_i ys hg
      obtain ⟨hb, p2⟩ := bif_post hP
      obtain ⟨ws, ha, rw'⟩ := st_lst hS lp hg
      refine ⟨_, ws, u, ex, e, ha, by rw [← rw'.length, ← line_eq]; exact of_decide_eq_true hb, ?_⟩
      exact p2 ρ _ _ (put_fut hS lp ha (rw'.append (rels_one h1))) (rel_non.mpr rfl)
    · exact hP.elim
  · exact hP.elim
def extD : D → List D → Sto → R D
  | .ref p, [.ref q], S => match S.get p, S.get q with
    | some (.lst xs), some (.lst ys) => bif decide (xs.length + ys.length ≤ line) then .ok .non (S.put p (.lst (xs ++ ys))) else .no
    | _, _ => .no
  | _, _, _ => .no
theorem extD_ok {K : PySem.W.Frag} : MtD K extD rExtend := by
  intro ρ S H x xs v vs Q hS hx hxs hP
  unfold extD at hP
  split at hP
  · rename_i p q
    obtain ⟨lp, ex⟩ := rel_ref.mp hx
    obtain ⟨u, r, e, h1, h2⟩ := rels_cons.mp hxs
    obtain ⟨lq, eq⟩ := rel_ref.mp h1
    rw [rels_nil.mp h2, eq] at e
    split at hP
    · rename_i ys zs hg hg2
      obtain ⟨hb, p2⟩ := bif_post hP
      obtain ⟨ws, ha, rw'⟩ := st_lst hS lp hg
      obtain ⟨us, ha2, rw2⟩ := st_lst hS lq hg2
      refine ⟨_, _, ws, us, ex, e, ha, ha2, by rw [← rw'.length, ← rw2.length, ← line_eq]; exact of_decide_eq_true hb, ?_⟩
      exact p2 ρ _ _ (put_fut hS lp ha (rw'.append rw2)) (rel_non.mpr rfl)
    · exact hP.elim
  · exact hP.elim
end
end Ev

namespace Ev
open PySem L2

/-! ### functions of the text: what a def is worth, where no repr is under way -/
abbrev FD := List D → Sto → R D
def SpF (K : PySem.W.Frag) (n : Nat) (F : FD) (vs : List V) (H : Hp) (Q : VK) : Prop := ∃ ρ S ds, StRel K H ρ S ∧ RelDs K H ρ S.nx ds vs ∧ vs.length = n ∧ PostR K ρ S.nx H Q (F ds S)
structure FnG (P : Program) (w : World) (K : PySem.W.Frag) (mg : Str → Option Value) (base : Heap) (k : Nat) (f : Addr) (fd : FuncData) (ps : List Str) (F : FD) : Prop where
  run : ∀ (A : Around) (outer : List PySem.Env) (s : Shared) (H : Hp) (args : Args) (us : List Value) (vs : List V) (Q : VK), Room k A → A.guards = some [] → Env0 P w K mg base A outer s H → BindsTo s fd args (ps.zip us) → Vals vs us →
    SpF K ps.length F vs H Q → codeAny (model P w) A (.call (.ref f) args) (fun r s' => match r with
      | .ok (.ret u) => CE outer P w H s Q u s'
      | _ => False) s
theorem FnG.mono {P : Program} {w : World} {K : PySem.W.Frag} {mg : Str → Option Value} {base : Heap} {j k : Nat} {f : Addr} {fd : FuncData} {ps : List Str} {F : FD} (h : FnG P w K mg base j f fd ps F) (l : j ≤ k) : FnG P w K mg base k f fd ps F :=
  ⟨fun A o s H a us vs Q hr => h.run A o s H a us vs Q (hr.mono l)⟩
theorem FnG.imp {P : Program} {w : World} {K : PySem.W.Frag} {mg : Str → Option Value} {base : Heap} {k : Nat} {f : Addr} {fd : FuncData} {ps : List Str} {F G : FD} (h : FnG P w K mg base k f fd ps F) (l : ∀ ds S, G ds S = .no ∨ G ds S = F ds S) : FnG P w K mg base k f fd ps G :=
  ⟨fun A o s H a us vs Q hr hg he hb hv hs => h.run A o s H a us vs Q hr hg he hb hv (by
    obtain ⟨ρ, S, ds, h1, h2, h3, h4⟩ := hs
    rcases l ds S with e | e
    · rw [e] at h4; exact h4.elim
    · exact ⟨ρ, S, ds, h1, h2, h3, by rw [← e]; exact h4⟩)⟩

/-- a body's result as a call's -/
def outOf : RS → R D
  | .ret d S => .ok d S
  | .next _ S => .ok .non S
  | .exc x _ S => .exc x S
  | _ => .no
def fnOfS (n : Nat) (g : SF) : FD := fun ds S => outOf (g (ds.map some ++ List.replicate (n - ds.length) none) S)
theorem rel_start {K : PySem.W.Frag} {H : Hp} {ρ : P → Addr} {c : P} (k : Nat) : ∀ {ds : List D} {vs : List V}, RelDs K H ρ c ds vs → RelEnv K H ρ c (ds.map some ++ List.replicate k none) (vs.map some ++ List.replicate k none)
  | [], vs, h => by
    rw [rels_nil.mp h]
    show RelEnv K H ρ c (List.replicate k none) (List.replicate k none)
    induction k with
    | zero => rfl
    | succ k ih => exact ⟨none, _, rfl, fun d hd => (by cases hd), ih⟩
  | x :: xs, vs, h => by
    obtain ⟨v, r, e, h1, h2⟩ := rels_cons.mp h
    rw [e]
    exact ⟨some v, _, rfl, fun d hd => ⟨v, rfl, by cases hd; exact h1⟩, rel_start k h2⟩
theorem post_out {K : PySem.W.Frag} {ρ : P → Addr} {c : P} {H : Hp} {Q : VK} {r : RS} (h : PostR K ρ c H Q (outOf r)) : PostS K ρ c H { nx := fun _ H' => Q .non H', rt := Q } r := by
  cases r with
  | next e S => exact fun ρ' H' σ' f _ => h ρ' H' .non f (rel_non.mpr rfl)
  | ret d S => exact h
  | brk _ _ => exact h.elim
  | cont _ _ => exact h.elim
  | exc _ _ _ => exact h.elim
  | no => exact h.elim

/-- a def's body makes its function -/
theorem fnG_of {P : Program} {w : World} {K : PySem.W.Frag} {mg : Str → Option Value} {base : Heap} {x qual : Str} {params : Arguments} {body : List Stmt} {scope : Scope} {dvs : List V} {kws : List (Str × V)} {f : Addr} {fd : FuncData} {N ps : List Str} {k : Nat} {g : SF}
    (F : FunD K x qual params body scope dvs kws f fd) (Sc : FnScope N ps scope)
    (hb : ∀ (cdv : Value) (A : Around) (outer : List PySem.Env) (s : Shared) (H : Hp), Room k (A.deeper (PyProof.Rows.envOfC qual scope s.heap.objs.size f cdv)) → A.guards = some [] →
      PSs (cxOf CX0 P w K mg base N qual scope f cdv A outer s H E0).nox body (tS K g)) : FnG P w K mg base (k + 1) f fd ps (fnOfS N.length g) := by
  obtain ⟨oc, od, dV, kV, doc, pm, an, cdv, ct, osl, efd, lk, hcd, hD, hK⟩ := F.ex
  subst efd
  constructor
  intro A outer s H args us vs Q hr hgd e0 hbind hv hsp
  obtain ⟨ρ, S, ds, hS, hds, hlen, hP⟩ := hsp
  have kin : K.In s.heap := e0.mod.kin.keeps (fun b o e => (e0.bs b o e).1)
  have lim : s.heap.NoLimit := e0.mod.nolimit.keeps (fun b o e => (e0.bs b o e).1)
  have kinds : ∀ z ∈ ps.zip us, scope.names.lookup z.1 = some .local ∨ (scope.names.lookup z.1 = some .cell ∧ ((cellsFrom (s.heap.objs.size + 1) scope.names []).lookup z.1).isSome = true) := by
    intro z hz
    have hz1 : z.1 ∈ ps := (List.of_mem_zip (show (z.1, z.2) ∈ ps.zip us from hz)).1
    rcases Sc.par z.1 hz1 with q | q
    · exact Or.inl q
    · exact Or.inr ⟨q, PySem.W.cellsFrom_some _ _ _ (Or.inl q)⟩
  apply codeAny_call_function hr.depth (kin f _ lk) rfl Sc.co Sc.gen rfl (PySem.W.codeRec_of kin hcd)
  apply hbind
  apply wpAny_newFunctionEnv_cells Sc.kind kinds
  intro env henv s1 inc
  subst henv
  refine ⟨lim.keeps inc.toInCall.keep, codeAny_func ?_⟩
  have body := PSs.nox (hb cdv A outer s H (hr.deeper _) hgd)
  have I := inv_start (CX := CX0) (E := E0) (N := N) (cd := cdv) (f := f) (qual := qual) Sc hr.hd e0 hlen hv inc
  have hle : vs.length ≤ N.length := by
    have h1 := congrArg List.length Sc.pre
    rw [List.length_take] at h1
    omega
  have hq : tS K g { nx := fun _ H' => Q .non H', rt := Q } (L2.start N vs) H := by
    refine ⟨ρ, S, _, hS, rel_start (N.length - vs.length) hds, post_out ?_⟩
    rw [← hds.length]
    exact hP
  refine wpAny_mono (body.run [] s1 (L2.start N vs) H _ I hq) (fun fl s' hs => ?_) (fun e s' hs => hs)
  have fin : ∀ {σ' : St} {H' : Hp} {v : V} {u : Value}, Inv (cxOf CX0 P w K mg base N qual scope f cdv A outer s H E0) [] σ' H' s' → RelV v u → Q v H' → CE outer P w H s Q u s' :=
    fun {σ' H' v u} J rv q => ⟨v, H', J.os, J.bare, J.base, J.hok, rv, q⟩
  cases fl with
  | ret u =>
    obtain ⟨v, σ', H', J, rv, q⟩ := hs
    exact fin J rv q
  | next =>
    obtain ⟨σ', H', J, q⟩ := hs
    exact fin (v := .non) (u := .none) J rfl q
  | brk =>
    obtain ⟨σ', H', J, q⟩ := hs
    exact q.elim
  | cont =>
    obtain ⟨σ', H', J, q⟩ := hs
    exact q.elim

/-! ### calls of them -/
inductive Src where
  | pos (i : Nat)
  | kw (j : Nat)
  | dv (j : Nat) (d : D)
def cV : D → V
  | .bl b => .bl b
  | .int i => .int i
  | .str x => .str x
  | _ => .non
def cOk : D → Bool
  | .non | .bl _ | .int _ | .str _ => true
  | _ => false
theorem cV_rel {K : PySem.W.Frag} {H : Hp} {ρ : P → Addr} {c : P} {d : D} (h : cOk d = true) : RelD K H ρ c d (cV d) := by
  cases d with
  | non => exact rel_non.mpr rfl
  | bl b => exact rel_bl.mpr rfl
  | int b => exact rel_int.mpr rfl
  | str b => exact rel_str.mpr rfl
  | _ => cases h
def arrD (ds zs : List D) : List Src → List D
  | [] => []
  | .pos i :: r => ds.getD i .non :: arrD ds zs r
  | .kw j :: r => zs.getD j .non :: arrD ds zs r
  | .dv _ d :: r => d :: arrD ds zs r
def arrV (vs ws : List V) : List Src → List V
  | [] => []
  | .pos i :: r => vs.getD i .non :: arrV vs ws r
  | .kw j :: r => ws.getD j .non :: arrV vs ws r
  | .dv _ d :: r => cV d :: arrV vs ws r
def arrOk : List Src → Bool
  | [] => true
  | .dv _ d :: r => cOk d && arrOk r
  | _ :: r => arrOk r
theorem RelDs.getD {K : PySem.W.Frag} {H : Hp} {ρ : P → Addr} {c : P} {xs : List D} {vs : List V} (h : RelDs K H ρ c xs vs) (i : Nat) : RelD K H ρ c (xs.getD i .non) (vs.getD i .non) := by
  rw [List.getD_eq_getElem?_getD, List.getD_eq_getElem?_getD]
  cases e : xs[i]? with
  | some d =>
    obtain ⟨u, e1, e2⟩ := h.get e
    rw [e1]
    exact e2
  | none =>
    have : vs[i]? = none := by
      rw [List.getElem?_eq_none_iff] at e ⊢
      rw [← h.length]
      exact e
    rw [this]
    exact rel_non.mpr rfl
theorem arr_rel {K : PySem.W.Frag} {H : Hp} {ρ : P → Addr} {c : P} {ds zs : List D} {vs ws : List V} (h1 : RelDs K H ρ c ds vs) (h2 : RelDs K H ρ c zs ws) : ∀ {a : List Src}, arrOk a = true → RelDs K H ρ c (arrD ds zs a) (arrV vs ws a)
  | [], _ => rels_nil.mpr rfl
  | .pos i :: r, h => rels_cons.mpr ⟨_, _, rfl, h1.getD i, arr_rel h1 h2 h⟩
  | .kw i :: r, h => rels_cons.mpr ⟨_, _, rfl, h2.getD i, arr_rel h1 h2 h⟩
  | .dv _ d :: r, h => by
    have h' : (cOk d && arrOk r) = true := h
    rw [Bool.and_eq_true] at h'
    exact rels_cons.mpr ⟨_, _, rfl, cV_rel h'.1, arr_rel h1 h2 h'.2⟩
def eCall (F : FD) (a : List Src) (n m : Nat) (f g : LF) : EF := fun e S => (f e S).bind fun ds S1 => (g e S1).bind fun zs S2 => bif Nat.beq ds.length n && Nat.beq zs.length m then F (arrD ds zs a) S2 else .no
/-- what must hold of a call's name and shape -/
structure Callee (X : Cx) (k : Nat) (x : Str) (n : Nat) (ks : List Str) (a : List Src) (F : FD) : Prop where
  ex : ∃ (f : Addr) (fd : FuncData) (ps : List Str) (g : List Value → List Value → List Value), FnG X.prog X.w X.K X.mg X.base k f fd ps F ∧ X.mg x = some (.ref f) ∧ PySem.W.keepIn X.K (.ref f) = true ∧ KBn X.K fd ps n ks g (fun vs ws => arrV vs ws a) ∧ a.length = ps.length
  ok : arrOk a = true
  nd : (x == ("__debug__" : Str)) = false
theorem arrV_length (vs ws : List V) : ∀ a : List Src, (arrV vs ws a).length = a.length
  | [] => rfl
  | .pos i :: r => by simp [arrV, arrV_length vs ws r]
  | .kw i :: r => by simp [arrV, arrV_length vs ws r]
  | .dv _ i :: r => by simp [arrV, arrV_length vs ws r]
section
variable {X : Cx}
theorem run_callee {k n : Nat} {x : Str} {ks : List Str} {a : List Src} {F : FD} {f : Addr} {fd : FuncData} {ps : List Str} {g : List Value → List Value → List Value} {pins : List (Addr × Obj)} {σ : St} {H : Hp} {s : Shared} {Q : VK} {us ws : List Value} {vs zs : List V}
    (hF : FnG X.prog X.w X.K X.mg X.base k f fd ps F) (hr : Room k X.A) (hgd : X.A.guards = some []) (hb : KBn X.K fd ps n ks g (fun vs ws => arrV vs ws a)) (I : Inv X pins σ H s) (r : Vals vs us) (rz : Vals zs ws) (l1 : vs.length = n) (l2 : zs.length = ks.length)
    (h : SpF X.K ps.length F (arrV vs zs a) H Q) : wpAny (model X.prog X.w) X.A (call (.ref f) us (ks.zip ws)) (EP X pins σ Q) X.xe s := by
  apply wpAny_call
  refine codeAny_mono (hF.run X.A X.stack s H ⟨us, ks.zip ws⟩ (g us ws) (arrV vs zs a) Q hr hgd I.env0 (hb.to s us ws I.kIn (r.length.symm.trans l1) (rz.length.symm.trans l2)) (hb.rel r rz) h) fun r s' hq => ?_
  cases r with
  | error e => exact hq.elim
  | ok fl =>
    cases fl with
    | ret u => exact I.after hq
    | next => exact hq.elim
    | brk => exact hq.elim
    | cont => exact hq.elim
/-- names of keywords -/
def kwNames : List Keyword → Option (List Str)
  | [] => some []
  | ⟨some n, _, _⟩ :: r => (match kwNames r with
    | some l => some (n :: l)
    | none => none)
  | ⟨none, _, _⟩ :: _ => none
theorem kwNames_ok {pos : Pos} {env : PySem.Env} : ∀ {kws : List Keyword} {ks : List Str}, kwNames kws = some ks → (backToKw pos (keywordEach kws env)).all (·.1.isSome) = true ∧ (backToKw pos (keywordEach kws env)).filterMap (·.1) = ks ∧ (backToKw pos (keywordEach kws env)).any (·.1.isNone) = false
  | [], ks, h => by cases h; exact ⟨rfl, rfl, rfl⟩
  | ⟨some n, v, p⟩ :: r, ks, h => by
    unfold kwNames at h
    split at h
    · rename_i l hl
      cases h
      obtain ⟨h1, h2, h3⟩ := kwNames_ok (pos := pos) (env := env) hl
      have e : backToKw pos (keywordEach (⟨some n, v, p⟩ :: r) env) = (some n, do let v ← eval v env; standAt pos; pure v) :: backToKw pos (keywordEach r env) := rfl
      rw [e]
      refine ⟨?_, ?_, ?_⟩
      · rw [List.all_cons, h1]; rfl
      · rw [List.filterMap_cons, h2]
      · rw [List.any_cons, h3]; rfl
    · cases h
  | ⟨none, v, p⟩ :: r, ks, h => by cases h
theorem sk_nil : PK X [] (tA X.K aNil) := ⟨fun p pins s σ H Q I hq => pk_nil.run p pins s σ H Q I (by
  obtain ⟨ρ, S, e, hS, hE, hP⟩ := hq
  exact PostL.c hS hP (rels_nil.mpr rfl))⟩
theorem sk_cons {a : Expr} {nm : Option Str} {kp : Pos} {kws : List Keyword} {f : EF} {g : LF} (h : PE X a (tE X.K f)) (h' : PK X kws (tA X.K g)) : PK X (⟨nm, a, kp⟩ :: kws) (tA X.K (aCons f g)) := ⟨fun p pins s σ H Q I hq => (pk_cons h h').run p pins s σ H Q I (by
  obtain ⟨ρ, S, e, hS, hE, hP⟩ := hq
  refine ⟨ρ, S, e, hS, hE, PostR.imp (PostL.bind hP) fun v H1 h1 => ?_⟩
  obtain ⟨ρ1, S1, d, f1, r1, p1⟩ := h1
  refine ⟨ρ1, S1, e, f1.st, f1.e hE, PostL.imp (PostL.bindL p1) fun vs H2 h2 => ?_⟩
  obtain ⟨ρ2, S2, ds, f2, r2, p2⟩ := h2
  exact PostL.c f2.st p2 (rels_cons.mpr ⟨v, vs, rfl, f2.d r1, r2⟩))⟩
theorem se_call {x : Str} {p pos : Pos} {e1 : Expr} {es : List Expr} {kws : List Keyword} {k n : Nat} {ks : List Str} {a : List Src} {F : FD} {f g : LF} (hr : Room k X.A) (hgd : X.A.guards = some []) (hg : Gl X x) (hc : Callee X k x n ks a F) (hk : kwNames kws = some ks)
    (hs : noStars (e1 :: es) = true) (ha : PA X (e1 :: es) (tA X.K f)) (hw : PK X kws (tA X.K g)) : PE X (.Call (.Name x p) (e1 :: es) kws pos) (tE X.K (eCall F a n ks.length f g)) := by
  refine ⟨fun pins s σ H Q I hq => ?_⟩
  obtain ⟨fa, fd, ps, gg, hF, hm, hkp, hb, hal⟩ := hc.ex
  obtain ⟨k1, k2, k3⟩ := kwNames_ok (pos := pos) (env := X.env) hk
  obtain ⟨ρ, S, e, hS, hE, hP⟩ := hq
  -- what the arguments bring
  have key : ∀ {us ws : List Value} {s2 : Shared} {H2 : Hp} {ρ2 : P → Addr} {S2 : Sto} {ds zs : List D} {vs vz : List V}, Inv X pins σ H2 s2 → Vals vs us → Vals vz ws → StRel X.K H2 ρ2 S2 → RelDs X.K H2 ρ2 S2.nx ds vs → RelDs X.K H2 ρ2 S2.nx zs vz →
      PostR X.K ρ2 S2.nx H2 Q (bif Nat.beq ds.length n && Nat.beq zs.length ks.length then F (arrD ds zs a) S2 else .no) → wpAny (model X.prog X.w) X.A (call (.ref fa) us (ks.zip ws)) (EP X pins σ Q) X.xe s2 := by
    intro us ws s2 H2 ρ2 S2 ds zs vs vz I2 r1 r2 hS2 q1 q2 hp
    obtain ⟨hb2, hp2⟩ := bif_post hp
    rw [Bool.and_eq_true] at hb2
    have e1 : vs.length = n := by rw [← q1.length]; exact Nat.eq_of_beq_eq_true hb2.1
    have e2 : vz.length = ks.length := by rw [← q2.length]; exact Nat.eq_of_beq_eq_true hb2.2
    exact run_callee (x := x) hF hr hgd hb I2 r1 r2 e1 e2 ⟨ρ2, S2, _, hS2, arr_rel q1 q2 hc.ok, by rw [arrV_length]; exact hal, hp2⟩
  refine wpAny_Call_Name_kw (ld_glob I hg hm ?_ hc.nd)
  have hs' := hs
  unfold noStars at hs'
  rw [List.all_cons, Bool.and_eq_true] at hs'
  refine PySem.W.callWith_KW (h₀ := X.base) I.ok.mod.kin hkp k1 ?_ (by rw [k3, backTo_stars hs]; rfl) (starEach_cons hs'.1)
  refine thn (ha.run pos pins s σ H (fun vs H1 => ∃ ρ1 S1 ds, Fut X.K ρ S.nx H ρ1 S1 H1 ∧ RelDs X.K H1 ρ1 S1.nx ds vs ∧ PostR X.K ρ1 S1.nx H1 Q ((g e S1).bind fun zs S2 => bif Nat.beq ds.length n && Nat.beq zs.length ks.length then F (arrD ds zs a) S2 else .no)) I
    ⟨ρ, S, e, hS, hE, PostR.bindL hP⟩) fun us s1 h1 => ?_
  obtain ⟨vs, H1, I1, rv, ρ1, S1, ds, f1, r1, p1⟩ := h1
  refine thn (hw.run pos pins s1 σ H1 (fun vz H2 => ∃ ρ2 S2 zs, Fut X.K ρ1 S1.nx H1 ρ2 S2 H2 ∧ RelDs X.K H2 ρ2 S2.nx zs vz ∧ PostR X.K ρ2 S2.nx H2 Q (bif Nat.beq ds.length n && Nat.beq zs.length ks.length then F (arrD ds zs a) S2 else .no)) I1 ⟨ρ1, S1, e, f1.st, f1.e hE, PostR.bindL p1⟩) fun ws s2 h2 => ?_
  obtain ⟨vz, H2, I2, rz, ρ2, S2, zs, f2, r2, p2⟩ := h2
  refine ⟨I2.kIn, ?_⟩
  rw [k2]
  exact key I2 rv rz f2.st (f2.ds r1) r2 p2
theorem se_call0 {x : Str} {p pos : Pos} {kws : List Keyword} {k n : Nat} {ks : List Str} {a : List Src} {F : FD} {g : LF} (hr : Room k X.A) (hgd : X.A.guards = some []) (hg : Gl X x) (hc : Callee X k x n ks a F) (hk : kwNames kws = some ks)
    (hw : PK X kws (tA X.K g)) : PE X (.Call (.Name x p) [] kws pos) (tE X.K (eCall F a n ks.length aNil g)) := by
  refine ⟨fun pins s σ H Q I hq => ?_⟩
  obtain ⟨fa, fd, ps, gg, hF, hm, hkp, hb, hal⟩ := hc.ex
  obtain ⟨k1, k2, k3⟩ := kwNames_ok (pos := pos) (env := X.env) hk
  obtain ⟨ρ, S, e, hS, hE, hP⟩ := hq
  have hP' : PostR X.K ρ S.nx H Q ((g e S).bind fun zs S2 => bif Nat.beq ([] : List D).length n && Nat.beq zs.length ks.length then F (arrD [] zs a) S2 else .no) := hP
  refine wpAny_Call_Name_kw (ld_glob I hg hm ?_ hc.nd)
  refine PySem.W.callWith_KW0 (h₀ := X.base) I.ok.mod.kin hkp k1 ?_ (by rw [k3]; rfl)
  refine thn (hw.run pos pins s σ H _ I ⟨ρ, S, e, hS, hE, PostR.bindL hP'⟩) fun ws s2 h2 => ?_
  obtain ⟨vz, H2, I2, rz, ρ2, S2, zs, f2, r2, p2⟩ := h2
  refine ⟨I2.kIn, ?_⟩
  rw [k2]
  obtain ⟨hb2, hp2⟩ := bif_post p2
  rw [Bool.and_eq_true] at hb2
  have e1 : ([] : List V).length = n := Nat.eq_of_beq_eq_true hb2.1
  have e2 : vz.length = ks.length := by rw [← r2.length]; exact Nat.eq_of_beq_eq_true hb2.2
  exact run_callee (x := x) hF hr hgd hb I2 .nil rz e1 e2 ⟨ρ2, S2, _, f2.st, arr_rel (rels_nil.mpr rfl) r2 hc.ok, by rw [arrV_length]; exact hal, hp2⟩
end
end Ev

namespace Ev
open PySem L2

/-! ### what the text's names mean -/
structure Ctx where
  N : List Str
  call : Str → Nat → List Str → Option (FD × List Src)
  con : Str → Option D
  free : Str → Bool
  tup : Pos → Bool
  fuel : Nat
structure CxOk (c : Ctx) (k : Nat) (X : Cx) (sc : Scope) (oc : Str → Bool) : Prop where
  hN : X.N = c.N
  nd : X.N.Nodup
  calm : X.calm = true
  xe : X.xe = fun _ _ => False
  gd : X.A.guards = some []
  room : Room k X.A
  hsc : X.env.scope = sc
  kind : sc.kind = .function
  hoc : ∀ x, oc x = true → X.fn x = true
  call : ∀ x n ks F a, c.call x n ks = some (F, a) → Callee X k x n ks a F
  con : ∀ x d, c.con x = some d → cOk d = true ∧ ∃ u, X.mg x = some u ∧ RelV (cV d) u
  free : ∀ x, c.free x = true → X.mg x = none
namespace CxOk
variable {c : Ctx} {k : Nat} {X : Cx} {sc : Scope} {oc : Str → Bool} (h : CxOk c k X sc oc)
include h
theorem units : X.A.units + 64 < cLine := h.room.units
theorem units1 : X.A.units + 1 < cLine := by have := h.room.units; omega
theorem glob {x : Str} (e : sc.names.lookup x = some .globalImplicit) : Gl X x := by
  show X.env.scope.names.lookup x = _
  rw [h.hsc]; exact e
end CxOk
def idxN (x : Str) : List Str → Nat → Option Nat
  | [], _ => none
  | y :: r, i => bif strEq y x then some i else idxN x r (i + 1)
theorem idxN_ok {x : Str} : ∀ {l : List Str} {i j : Nat}, idxN x l i = some j → i ≤ j ∧ l[j - i]? = some x
  | [], i, j, h => by cases h
  | y :: r, i, j, h => by
    unfold idxN at h
    cases e : strEq y x with
    | true =>
      rw [e] at h
      cases h
      rw [(strEq_iff _ _).mp e]
      exact ⟨Nat.le_refl _, by simp⟩
    | false =>
      rw [e] at h
      obtain ⟨h1, h2⟩ := idxN_ok (l := r) (i := i + 1) h
      refine ⟨by omega, ?_⟩
      have : j - i = (j - (i + 1)) + 1 := by omega
      rw [this]
      simpa using h2
def plainName (x : Str) : Bool := !(x == ("__debug__" : Str)) && !(x == ("__classdict__" : Str)) && !(x == ("__name__" : Str))
def tyName (x : Str) : Option Kd :=
  bif strEq x "int" then some .int else bif strEq x "bool" then some .bl else bif strEq x "str" then some .str else bif strEq x "tuple" then some .tup else bif strEq x "list" then some .lst else bif strEq x "dict" then some .dct else none
theorem tyName_ok {x : Str} {k : Kd} (h : tyName x = some k) : bootBuiltins x = some (.type k.name) := by
  unfold tyName at h
  cases e1 : strEq x "int" with
  | true => rw [e1] at h; cases h; rw [(strEq_iff _ _).mp e1]; decide +kernel
  | false =>
  rw [e1] at h
  cases e2 : strEq x "bool" with
  | true => rw [e2] at h; cases h; rw [(strEq_iff _ _).mp e2]; decide +kernel
  | false =>
  rw [e2] at h
  cases e3 : strEq x "str" with
  | true => rw [e3] at h; cases h; rw [(strEq_iff _ _).mp e3]; decide +kernel
  | false =>
  rw [e3] at h
  cases e4 : strEq x "tuple" with
  | true => rw [e4] at h; cases h; rw [(strEq_iff _ _).mp e4]; decide +kernel
  | false =>
  rw [e4] at h
  cases e5 : strEq x "list" with
  | true => rw [e5] at h; cases h; rw [(strEq_iff _ _).mp e5]; decide +kernel
  | false =>
  rw [e5] at h
  cases e6 : strEq x "dict" with
  | true => rw [e6] at h; cases h; rw [(strEq_iff _ _).mp e6]; decide +kernel
  | false => rw [e6] at h; cases h
/-- a name read -/
def cName (c : Ctx) (sc : Scope) (x : Str) : Option EF := bif plainName x then (match sc.names.lookup x with
    | some .local => (idxN x c.N 0).map eVar
    | some .cell => (idxN x c.N 0).map eVar
    | some .free => (idxN x c.N 0).map eVar
    | some .globalImplicit => (match c.con x with
      | some d => some (eC d)
      | none => bif c.free x then (tyName x).map (fun k => eC (.ty k)) else none)
    | _ => none) else none
section
variable {c : Ctx} {k : Nat} {X : Cx} {sc : Scope} {oc : Str → Bool}
theorem plain_ok {x : Str} (h : plainName x = true) : (x == ("__debug__" : Str)) = false ∧ (x == ("__classdict__" : Str)) = false ∧ x ≠ ("__name__" : Str) := by
  unfold plainName at h
  simp only [Bool.and_eq_true, Bool.not_eq_true'] at h
  refine ⟨h.1.1, h.1.2, fun e => ?_⟩
  have := h.2
  rw [e] at this
  simp at this
theorem cName_ok {x : Str} {pos : Pos} {f : EF} (hc : CxOk c k X sc oc) (h : cName c sc x = some f) : PE X (.Name x pos) (tE X.K f) := by
  unfold cName at h
  cases hp : plainName x with
  | false => rw [hp] at h; cases h
  | true =>
    rw [hp] at h
    obtain ⟨p1, p2, p3⟩ := plain_ok hp
    have loc : ∀ {f : EF}, (idxN x c.N 0).map eVar = some f → Vis X.env.scope x → PE X (.Name x pos) (tE X.K f) := by
      intro f hf hv
      cases hi : idxN x c.N 0 with
      | none => rw [hi] at hf; cases hf
      | some i =>
        rw [hi] at hf
        cases hf
        obtain ⟨_, h2⟩ := idxN_ok hi
        exact se_var (by rw [hc.hN]; simpa using h2) hv p1 p2
    dsimp only [cond] at h
    split at h
    · rename_i e; exact loc h (Or.inl (by rw [hc.hsc]; exact e))
    · rename_i e; exact loc h (Or.inr (Or.inl (by rw [hc.hsc]; exact e)))
    · rename_i e; exact loc h (Or.inr (Or.inr (by rw [hc.hsc]; exact e)))
    · rename_i e
      split at h
      · rename_i d hd
        cases h
        obtain ⟨h1, u, h2, h3⟩ := hc.con x d hd
        exact se_const (pe_glob (hc.glob e) h2 h3 p1) fun H ρ c => cV_rel h1
      · cases hf : c.free x with
        | false => rw [hf] at h; cases h
        | true =>
          rw [hf] at h
          cases ht : tyName x with
          | none => rw [ht] at h; cases h
          | some kd =>
            rw [ht] at h
            cases h
            exact se_const (v := .ty kd.name) (pe_bltn (hc.glob e) (hc.free x hf) (tyName_ok ht) rfl p3 p1) fun H ρ c => rel_ty.mpr rfl
    · cases h
end
/-! operators -/
def opB : Operator → Option (D → D → Sto → R D)
  | .Add => some addD
  | .Sub => some subD
  | .Mult => some mulD
  | .FloorDiv => some fdivD
  | .Mod => some modD
  | .Pow => some powD
  | _ => none
theorem opB_ok {X : Cx} {o : Operator} {op : D → D → Sto → R D} (h : opB o = some op) : ∃ r, OpR X (binaryOp o) r ∧ OpD X.K op r := by
  cases o <;> first | (cases h; done) | skip
  · cases h; exact ⟨_, op_addA, addD_ok⟩
  · cases h; exact ⟨_, op_sub, subD_ok⟩
  · cases h; exact ⟨_, op_mulA, mulD_ok⟩
  · cases h; exact ⟨_, op_mod, modD_ok⟩
  · cases h; exact ⟨_, op_pow, powD_ok⟩
  · cases h; exact ⟨_, op_fd, fdivD_ok⟩
def isD : D → D → Sto → R D
  | x, .non, S => match x with
    | .non => .ok (.bl true) S
    | _ => .ok (.bl false) S
  | _, _, _ => .no
def isntD : D → D → Sto → R D
  | x, .non, S => match x with
    | .non => .ok (.bl false) S
    | _ => .ok (.bl true) S
  | _, _, _ => .no
def isNon : D → Bool
  | .non => true
  | _ => false
theorem non_dec {K : PySem.W.Frag} {H : Hp} {ρ : P → Addr} {c : P} {x : D} {v : V} (h : RelD K H ρ c x v) : decide (v = .non) = isNon x := by
  cases x with
  | non => rw [rel_non.mp h]; rfl
  | bl _ => rw [rel_bl.mp h]; rfl
  | int _ => rw [rel_int.mp h]; rfl
  | str _ => rw [rel_str.mp h]; rfl
  | rep _ => rw [rel_rep.mp h]; rfl
  | ty _ => rw [rel_ty.mp h]; rfl
  | scr _ => obtain ⟨a, vs, e, _⟩ := rel_scr.mp h; rw [e]; rfl
  | tup _ => obtain ⟨a, vs, e, _⟩ := rel_tup.mp h; rw [e]; rfl
  | ref _ => rw [(rel_ref.mp h).2]; rfl
theorem isD_ok {K : PySem.W.Frag} : OpD K isD (fun x y H Q => y = .non ∧ Q (.bl (decide (x = .non))) H) := by
  intro ρ S H x y v u Q hS hx hy hP
  cases y with
  | non =>
    refine ⟨rel_non.mp hy, ?_⟩
    rw [non_dec hx]
    cases x <;> exact post_c hS hP (rel_bl.mpr rfl)
  | _ => exact hP.elim
theorem isntD_ok {K : PySem.W.Frag} : OpD K isntD (fun x y H Q => y = .non ∧ Q (.bl (!decide (x = .non))) H) := by
  intro ρ S H x y v u Q hS hx hy hP
  cases y with
  | non =>
    refine ⟨rel_non.mp hy, ?_⟩
    rw [non_dec hx]
    cases x <;> exact post_c hS hP (rel_bl.mpr rfl)
  | _ => exact hP.elim
def opC : CmpOp → Option (D → D → Sto → R D)
  | .Eq => some eqD
  | .NotEq => some neD
  | .Lt => some ltD
  | .LtE => some leD
  | .Gt => some gtD
  | .GtE => some geD
  | .Is => some isD
  | .IsNot => some isntD
  | _ => none
theorem opC_ok {X : Cx} {o : CmpOp} {op : D → D → Sto → R D} (hu : X.A.units + 64 < cLine) (h : opC o = some op) : (∃ r, OpR X (compareOp o) r ∧ OpD X.K op r) ∧ ∀ b, behindInMarks o b = false := by
  cases o <;> first | (cases h; done) | skip
  · cases h; exact ⟨⟨_, op_eqA hu, eqD_ok⟩, fun b => nomark b⟩
  · cases h; exact ⟨⟨_, op_neA hu, neD_ok⟩, fun b => nomark b⟩
  · cases h; exact ⟨⟨_, op_ltA, ltD_ok⟩, fun b => nomark b⟩
  · cases h; exact ⟨⟨_, op_leA, leD_ok⟩, fun b => nomark b⟩
  · cases h; exact ⟨⟨_, op_gtA, gtD_ok⟩, fun b => nomark b⟩
  · cases h; exact ⟨⟨_, op_geA, geD_ok⟩, fun b => nomark b⟩
  · cases h; exact ⟨⟨_, op_isN, isD_ok⟩, fun b => nomark b⟩
  · cases h; exact ⟨⟨_, op_notN, isntD_ok⟩, fun b => nomark b⟩
/-! built-in functions -/
inductive BI where
  | fn (id : String) (op : List D → Sto → R D)
  | ty (T : String) (op : List D → Sto → R D)
def biOf (x : Str) : Option BI :=
  bif strEq x "len" then some (.fn "len" (oneR lenD)) else bif strEq x "abs" then some (.fn "abs" (oneR absD)) else bif strEq x "repr" then some (.fn "repr" (oneR reprD)) else bif strEq x "isinstance" then some (.fn "isinstance" isiD) else
  bif strEq x "int" then some (.ty "int" (oneR intD)) else bif strEq x "tuple" then some (.ty "tuple" (oneR tupD)) else bif strEq x "list" then some (.ty "list" (oneR listD)) else none
def biOp : BI → List D → Sto → R D
  | .fn _ op => op
  | .ty _ op => op
def biGood (X : Cx) (x : Str) : BI → Prop
  | .fn id op => bootBuiltins x = some (.builtin id) ∧ ∃ r, CallR X (.builtin id) r ∧ CallD X.K op r
  | .ty T op => bootBuiltins x = some (.type T) ∧ ∃ r, CallR X (.type T) r ∧ CallD X.K op r
theorem biOf_ok {X : Cx} {x : Str} {b : BI} (hu : X.A.units + 64 < cLine) (hg : X.A.guards = some []) (h : biOf x = some b) : biGood X x b := by
  unfold biOf at h
  cases e1 : strEq x "len" with
  | true => rw [e1] at h; cases h; rw [(strEq_iff _ _).mp e1]; exact ⟨by decide +kernel, _, call_lenA, one_ok lenD_ok⟩
  | false =>
  rw [e1] at h
  cases e2 : strEq x "abs" with
  | true => rw [e2] at h; cases h; rw [(strEq_iff _ _).mp e2]; exact ⟨by decide +kernel, _, call_absA, one_ok absD_ok⟩
  | false =>
  rw [e2] at h
  cases e3 : strEq x "repr" with
  | true => rw [e3] at h; cases h; rw [(strEq_iff _ _).mp e3]; exact ⟨by decide +kernel, _, call_reprA hg hu, reprD_ok⟩
  | false =>
  rw [e3] at h
  cases e4 : strEq x "isinstance" with
  | true => rw [e4] at h; cases h; rw [(strEq_iff _ _).mp e4]; exact ⟨by decide +kernel, _, call_isi, isiD_ok⟩
  | false =>
  rw [e4] at h
  cases e5 : strEq x "int" with
  | true => rw [e5] at h; cases h; rw [(strEq_iff _ _).mp e5]; exact ⟨by decide +kernel, _, call_intA, one_ok intD_ok⟩
  | false =>
  rw [e5] at h
  cases e6 : strEq x "tuple" with
  | true => rw [e6] at h; cases h; rw [(strEq_iff _ _).mp e6]; exact ⟨by decide +kernel, _, call_tupA, one_ok tupD_ok⟩
  | false =>
  rw [e6] at h
  cases e7 : strEq x "list" with
  | true => rw [e7] at h; cases h; rw [(strEq_iff _ _).mp e7]; exact ⟨by decide +kernel, _, call_listA, one_ok listD_ok⟩
  | false => rw [e7] at h; cases h
end Ev

namespace Ev
open PySem L2 PySem.Spec PyProof.Rows

section
variable {X : Cx}
/-! three names, three values at once -/
def sPar3 (i j k : Nat) (f : LF) : SF := fun e S => (f e S).toS e fun ds S1 => match ds with
  | [x, y, z] => .next (((e.set k (some z)).set j (some y)).set i (some x)) S1
  | _ => .no
theorem ss_par3 {i j k : Nat} {x y z : Str} {a b c : Expr} {f : LF} {px py pz pt pos : Pos} {kt k2 : Nat} {pt2 : Pos} (hc : X.calm = true) (hN : X.N.Nodup) (hi : X.N[i]? = some x) (hj : X.N[j]? = some y) (hk : X.N[k]? = some z)
    (hx : X.env.scope.names.lookup x = some .local) (hy : X.env.scope.names.lookup y = some .local) (hz : X.env.scope.names.lookup z = some .local) (ha : PA X [a, b, c] (tA X.K f))
    (hw : swappedStores [.Tuple [.Name x px, .Name y py, .Name z pz] kt pt] (.Tuple [a, b, c] k2 pt2) X.env = pure (some [x, y, z]))
    (hs : swapsWithSole [.Tuple [.Name x px, .Name y py, .Name z pz] kt pt] (.Tuple [a, b, c] k2 pt2) pos.line X.env = pure false) :
    PS X (.Assign [.Tuple [.Name x px, .Name y py, .Name z pz] kt pt] (.Tuple [a, b, c] k2 pt2) pos) (tS X.K (sPar3 i j k f)) := by
  constructor
  intro pins s σ H W I hq
  obtain ⟨ρ, S, e, hS, hE, hP⟩ := hq
  rw [exec_Assign_arm]
  apply wpAny_bind
  apply wpAny_standAt
  rw [hs]
  apply wpAny_bind
  apply wpAny_pure
  rw [if_neg (by decide)]
  apply wpAny_bind
  apply Tuple_
  refine thn (ha.run _ pins s σ H _ I ⟨ρ, S, e, hS, hE, PostS.bindL hP⟩) fun us s1 h1 => ?_
  obtain ⟨vs, H1, I1, rv, ρ1, S1, ds, f1, r1, p1⟩ := h1
  split at p1
  · rename_i dx dy dz
    obtain ⟨v1, w1, e1, q1, q1'⟩ := rels_cons.mp r1
    obtain ⟨v2, w2, e2, q2, q2'⟩ := rels_cons.mp q1'
    obtain ⟨v3, w3, e3, q3, q3'⟩ := rels_cons.mp q2'
    rw [rels_nil.mp q3'] at e3
    subst e3 e2 e1
    obtain ⟨u1, u2, u3, eu, rv1, rv2, rv3⟩ : ∃ u1 u2 u3, us = [u1, u2, u3] ∧ RelV v1 u1 ∧ RelV v2 u2 ∧ RelV v3 u3 := by
      cases rv with
      | cons p q =>
        cases q with
        | cons p' q' =>
          cases q' with
          | cons p'' q'' =>
            cases q''
            exact ⟨_, _, _, rfl, p, p', p''⟩
    subst eu
    refine wpAny_newObj_type ?_ (by show 3 ≤ sizeLine; decide)
    have I2 : Inv X pins σ H1 { s1 with heap := s1.heap.push { cls := .type "tuple", data := .seq [u1, u2, u3].toArray } } := I1.kept (t' := s1.toks) (fun b o e => Heap.get?_push_of_some _ e)
    rw [hw]
    apply wpAny_bind
    apply wpAny_pure
    show wpAny (model X.prog X.w) X.A (do
      rule "assign.swapped-stores"
      let items ← unpackItems (.ref s1.heap.objs.size) 3 none
      assignInOrder [fun v => bindName X.env z v, fun v => bindName X.env y v, fun v => bindName X.env x v] items.reverse
      pure Flow.next) _ _ _
    apply wpAny_bind
    apply wpAny_rule
    apply wpAny_bind
    refine unpackItems_tuple (items := #[u1, u2, u3]) (I.ok.hd hc) (IsTup.new s1.heap _) fun h' hx' => ?_
    have I3 := I2.kept (h' := h') (t' := s1.toks) (fun b o e => hx' b o (Nat.ne_of_lt (Heap.lt_size e)) e)
    show wpAny _ _ (assignInOrder [fun v => bindName X.env z v, fun v => bindName X.env y v, fun v => bindName X.env x v] [u3, u2, u1] >>= fun _ => pure Flow.next) _ _ _
    apply wpAny_bind
    refine assignInOrder_cons (wpAny_bindName (store_ok I3 hN hk (.inl hz) rv3 (fun s2 I4 => ?_) (.inr hz)))
    refine assignInOrder_cons (wpAny_bindName (store_ok I4 hN hj (.inl hy) rv2 (fun s3 I5 => ?_) (.inr hy)))
    refine assignInOrder_cons (wpAny_bindName (store_ok I5 hN hi (.inl hx) rv1 (fun s4 I6 => ?_) (.inr hx)))
    apply assignInOrder_nil
    apply wpAny_pure
    refine ⟨_, H1, I6, ?_⟩
    exact PostS.n f1.st ((((f1.e hE).set q3 k).set q2 j).set q1 i) p1
  · exact p1.elim

/-! x op= e, for names that hold ints, texts, lists of their own are not changed in place by this -/
def augD : Operator → Option (D → D → Sto → R D)
  | .Add => some fun x y S => (match x, y with
    | .int i, .int j => .ok (.int (i + j)) S
    | .str a, .str b => bif decide (a.length + b.length ≤ line) then .ok (.str (a ++ b)) S else .no
    | _, _ => .no)
  | .Sub => some subD
  | _ => none
def sAug (i : Nat) (op : D → D → Sto → R D) (f : EF) : SF := fun e S => (match e[i]? with
  | some (some x) => (f e S).toS e fun y S1 => (op x y S1).toS e fun z S2 => .next (e.set i (some z)) S2
  | _ => .no)
theorem ip_of {op : Operator} {r : R2} (h : OpR X (inplaceOp op) r) : PIp X op r := fun pins s σ H x y v u Q I rx ry hq => h pins s σ H x y v u Q I rx ry hq
theorem augD_ok {o : Operator} {op : D → D → Sto → R D} (h : augD o = some op) : ∃ r, PIp X o r ∧ OpD X.K op r := by
  cases o <;> first | (cases h; done) | skip
  · cases h
    refine ⟨_, ip_of (op_or iop_add iop_add_str), ?_⟩
    intro ρ S H x y v u Q hS hx hy hP
    cases x <;> cases y <;> first | exact hP.elim | skip
    · rw [rel_int] at hx hy; subst hx hy
      exact Or.inl ⟨_, _, rfl, rfl, post_c hS hP (rel_int.mpr rfl)⟩
    · rw [rel_str] at hx hy; subst hx hy
      obtain ⟨h1, h2⟩ := bif_post hP
      exact Or.inr ⟨_, _, rfl, rfl, by rw [← line_eq]; exact of_decide_eq_true h1, post_c hS h2 (rel_str.mpr rfl)⟩
  · cases h
    exact ⟨_, ip_of iop_sub, subD_ok⟩
theorem ss_aug {i : Nat} {x : Str} {a : Expr} {f : EF} {o : Operator} {op : D → D → Sto → R D} {pos pos' : Pos} (hN : X.N.Nodup) (hi : X.N[i]? = some x) (hl : L2.Loc X.env.scope x) (h : PE X a (tE X.K f)) (ho : augD o = some op)
    (hf : X.fn x = true ∨ X.env.scope.names.lookup x = some .local) : PS X (.AugAssign (.Name x pos') o a pos) (tS X.K (sAug i op f)) := by
  obtain ⟨r, h1, h2⟩ := augD_ok (X := X) ho
  refine PS.to (ps_aug hN hi hl h h1 hf) fun W σ H hq => ?_
  obtain ⟨ρ, S, e, hS, hE, hP⟩ := hq
  unfold sAug at hP
  split at hP
  · rename_i d hd
    obtain ⟨u, e1, e2⟩ := hE.get hd
    refine ⟨u, e1, ρ, S, e, hS, hE, PostR.imp (PostS.bind hP) fun v H1 h1 => ?_⟩
    obtain ⟨ρ1, S1, d1, f1, r1, p1⟩ := h1
    refine h2 ρ1 S1 H1 d d1 u v _ f1.st (f1.d e2) r1 (PostR.imp (PostS.bind p1) fun z H2 h3 => ?_)
    obtain ⟨ρ2, S2, d2, f2, r2, p2⟩ := h3
    exact PostS.n f2.st ((f2.e (f1.e hE)).set r2 i) p2
  · exact hP.elim
end
end Ev

namespace Ev
open PySem L2 PySem.Spec PyProof.Rows

/-! ### from the text to functions -/
structure Rc where
  e : Scope → (Str → Bool) → Expr → Option EF
  t : Scope → (Str → Bool) → Expr → Option BF
structure RcOk (c : Ctx) (k : Nat) (r : Rc) : Prop where
  e : ∀ sc oc x f, r.e sc oc x = some f → ∀ X, CxOk c k X sc oc → PE X x (tE X.K f)
  t : ∀ sc oc x f, r.t sc oc x = some f → ∀ X, CxOk c k X sc oc → PT X x (tT X.K f)

def cArgs (r : Expr → Option EF) : List Expr → Option LF
  | [] => some aNil
  | a :: es => bif notStar a then (match r a, cArgs r es with
    | some f, some g => some (aCons f g)
    | _, _ => none) else none
theorem cArgs_ok {X : Cx} {r : Expr → Option EF} (hr : ∀ x f, r x = some f → PE X x (tE X.K f)) : ∀ {es : List Expr} {g : LF}, cArgs r es = some g → PA X es (tA X.K g) ∧ noStars es = true
  | [], g, h => by cases h; exact ⟨sa_nil, rfl⟩
  | a :: es, g, h => by
    unfold cArgs at h
    cases hn : notStar a with
    | false => rw [hn] at h; cases h
    | true =>
      rw [hn] at h
      dsimp only [cond] at h
      split at h
      · rename_i f g' hf hg
        cases h
        obtain ⟨h1, h2⟩ := cArgs_ok hr hg
        refine ⟨sa_cons hn (hr _ _ hf) h1, ?_⟩
        unfold noStars at h2 ⊢
        rw [List.all_cons, hn, h2]
        rfl
      · cases h
def cKws (r : Expr → Option EF) : List Keyword → Option LF
  | [] => some aNil
  | ⟨_, a, _⟩ :: es => (match r a, cKws r es with
    | some f, some g => some (aCons f g)
    | _, _ => none)
theorem cKws_ok {X : Cx} {r : Expr → Option EF} (hr : ∀ x f, r x = some f → PE X x (tE X.K f)) : ∀ {es : List Keyword} {g : LF}, cKws r es = some g → PK X es (tA X.K g)
  | [], g, h => by cases h; exact sk_nil
  | ⟨_, a, _⟩ :: es, g, h => by
    unfold cKws at h
    split at h
    · rename_i f g' hf hg
      cases h
      exact sk_cons (hr _ _ hf) (cKws_ok hr hg)
    · cases h
def cPairs (r : Expr → Option EF) : List (Option Expr) → List Expr → Option (List (EF × EF))
  | [], [] => some []
  | some a :: ks, b :: vs => (match r a, r b, cPairs r ks vs with
    | some f, some g, some l => some ((f, g) :: l)
    | _, _, _ => none)
  | _, _ => none
theorem cPairs_ok {X : Cx} {pos : Pos} {r : Expr → Option EF} (hr : ∀ x f, r x = some f → PE X x (tE X.K f)) : ∀ {ks : List (Option Expr)} {vs : List Expr} {l : List (EF × EF)}, cPairs r ks vs = some l →
    PPs X pos ks vs (l.map fun p => (tE X.K p.1, tE X.K p.2)) ∧ ks.all (·.isSome) = true ∧ ks.length = vs.length
  | [], [], l, h => by cases h; exact ⟨pps_nil, rfl, rfl⟩
  | some a :: ks, b :: vs, l, h => by
    unfold cPairs at h
    split at h
    · rename_i f g l' hf hg hl
      cases h
      obtain ⟨h1, h2, h3⟩ := cPairs_ok (pos := pos) hr hl
      exact ⟨pps_cons (hr _ _ hf) (hr _ _ hg) h1, by rw [List.all_cons, h2]; rfl, by simp [h3]⟩
    · cases h
  | [], _ :: _, l, h => by cases h
  | none :: _, [], l, h => by cases h
  | none :: _, _ :: _, l, h => by cases h
  | some _ :: _, [], l, h => by cases h
def cOpt (r : Expr → Option EF) : Option Expr → Option OF
  | none => some oNone
  | some a => (r a).map oSome
theorem cOpt_ok {X : Cx} {r : Expr → Option EF} (hr : ∀ x f, r x = some f → PE X x (tE X.K f)) {a : Option Expr} {f : OF} (h : cOpt r a = some f) : PO X a (tO X.K f) := by
  cases a with
  | none => cases h; exact so_none
  | some a =>
    have h : (r a).map oSome = some f := h
    cases hr' : r a with
    | none => rw [hr'] at h; cases h
    | some g => rw [hr'] at h; cases h; exact so_some (hr _ _ hr')
def cAndE (r : Expr → Option EF) (op : EF → EF → EF) : List Expr → Option EF
  | [] => none
  | [a] => r a
  | a :: b :: rest => (match r a, cAndE r op (b :: rest) with
    | some f, some g => some (op f g)
    | _, _ => none)
theorem cAndE_ok {X : Cx} {r : Expr → Option EF} {op : EF → EF → EF} {bo : BoolOp} {pos : Pos} (hr : ∀ x f, r x = some f → PE X x (tE X.K f))
    (ho : ∀ a b rest f g, PE X a (tE X.K f) → PE X (.BoolOp bo (b :: rest) pos) (tE X.K g) → PE X (.BoolOp bo (a :: b :: rest) pos) (tE X.K (op f g))) : ∀ {es : List Expr} {f : EF}, cAndE r op es = some f → PE X (.BoolOp bo es pos) (tE X.K f)
  | [], f, h => by cases h
  | [a], f, h => pe_one (hr _ _ h)
  | a :: b :: rest, f, h => by
    unfold cAndE at h
    split at h
    · rename_i f' g hf hg
      cases h
      exact ho _ _ _ _ _ (hr _ _ hf) (cAndE_ok hr ho hg)
    · cases h
def cAndT (r : Expr → Option BF) (op : BF → BF → BF) : List Expr → Option BF
  | [] => none
  | [a] => r a
  | a :: b :: rest => (match r a, cAndT r op (b :: rest) with
    | some f, some g => some (op f g)
    | _, _ => none)
theorem cAndT_ok {X : Cx} {r : Expr → Option BF} {op : BF → BF → BF} {bo : BoolOp} {pos : Pos} (hr : ∀ x f, r x = some f → PT X x (tT X.K f)) (h1 : ∀ a f, PT X a (tT X.K f) → PW X (.BoolOp bo [a] pos) (tT X.K f))
    (ho : ∀ a b rest f g, PT X a (tT X.K f) → PW X (.BoolOp bo (b :: rest) pos) (tT X.K g) → PW X (.BoolOp bo (a :: b :: rest) pos) (tT X.K (op f g))) : ∀ {es : List Expr} {f : BF}, cAndT r op es = some f → PW X (.BoolOp bo es pos) (tT X.K f)
  | [], f, h => by cases h
  | [a], f, h => h1 _ _ (hr _ _ h)
  | a :: b :: rest, f, h => by
    unfold cAndT at h
    split at h
    · rename_i f' g hf hg
      cases h
      exact ho _ _ _ _ _ (hr _ _ hf) (cAndT_ok hr h1 ho hg)
    · cases h

/-! targets -/
def cTgts (r : Expr → Option (List Nat × GF)) : List Expr → Option (List Nat × GsF)
  | [] => some ([], gsNil)
  | a :: es => bif notStar a then (match r a, cTgts r es with
    | some (ws, g), some (ws', h) => some (ws ++ ws', gsCons g h)
    | _, _ => none) else none
def cTgt (c : Ctx) (sc : Scope) (oc : Str → Bool) : Nat → Expr → Option (List Nat × GF)
  | 0, _ => none
  | n + 1, .Name x _ => (match sc.names.lookup x with
    | some .local => (idxN x c.N 0).map fun i => ([i], gSet i)
    | some .cell => bif oc x then (idxN x c.N 0).map fun i => ([i], gSet i) else none
    | _ => none)
  | n + 1, .Tuple es _ _ => (cTgts (cTgt c sc oc n) es).map fun p => (p.1, gTupD es.length p.2)
  | _, _ => none
theorem assignEach_cons {a : Expr} {es : List Expr} {env : PySem.Env} (h : notStar a = true) : assignEach (a :: es) env = (false, assign a env) :: assignEach es env := by
  cases a <;> first | rfl | cases h
theorem cTgts_ok {X : Cx} {r : Expr → Option (List Nat × GF)} (hr : ∀ x p, r x = some p → PG X x (tG X.K p.1 p.2) ∧ onlyNext p.2) : ∀ {es : List Expr} {p : List Nat × GsF}, cTgts r es = some p →
    PGs X es (tGs X.K p.1 p.2) ∧ (∀ ds e S, isNx (p.2 ds e S)) ∧ (assignEach es X.env).length = es.length ∧ (assignEach es X.env).findIdx? (·.1) = none
  | [], p, h => by
    cases h
    refine ⟨sgs_nil, fun ds e S => ?_, rfl, rfl⟩
    cases ds <;> exact trivial
  | a :: es, p, h => by
    unfold cTgts at h
    cases hn : notStar a with
    | false => rw [hn] at h; cases h
    | true =>
      rw [hn] at h
      dsimp only [cond] at h
      split at h
      · rename_i ws g ws' g' hf hg
        cases h
        obtain ⟨h1, h1'⟩ := hr _ _ hf
        obtain ⟨h2, h3, h4, h5⟩ := cTgts_ok hr hg
        refine ⟨sgs_cons h1 h2 (by rw [assignEach_cons hn]; rfl), fun ds e S => ?_, by rw [assignEach_cons hn]; simp [h4], by rw [assignEach_cons hn, List.findIdx?_cons, h5]; rfl⟩
        cases ds with
        | nil => exact trivial
        | cons d r =>
          show isNx (match g d e S with | .next e1 S1 => g' r e1 S1 | _ => .no)
          cases g d e S <;> first | exact h3 _ _ _ | exact trivial
      · cases h
theorem cTgt_ok {c : Ctx} {k : Nat} {X : Cx} {sc : Scope} {oc : Str → Bool} (hc : CxOk c k X sc oc) : ∀ (n : Nat) (x : Expr) (p : List Nat × GF), cTgt c sc oc n x = some p → PG X x (tG X.K p.1 p.2) ∧ onlyNext p.2 := by
  have set_ok : ∀ {x : Str} {pos : Pos} {p : List Nat × GF}, (idxN x c.N 0).map (fun i => ([i], gSet i)) = some p → L2.Loc X.env.scope x → (X.fn x = true ∨ X.env.scope.names.lookup x = some .local) → PG X (.Name x pos) (tG X.K p.1 p.2) ∧ onlyNext p.2 := by
    intro x pos p h hl hf
    cases hi : idxN x c.N 0 with
    | none => rw [hi] at h; cases h
    | some i =>
      rw [hi] at h
      cases h
      obtain ⟨_, h2⟩ := idxN_ok hi
      exact ⟨sg_name hc.nd (by rw [hc.hN]; simpa using h2) hl hf, fun d e S => trivial⟩
  intro n
  induction n with
  | zero => intro x p h; cases h
  | succ n ih =>
    intro x p h
    unfold cTgt at h
    split at h
    · cases h
    · rename_i n' x' pos heq
      split at h
      · rename_i e
        exact set_ok h (Or.inl (by rw [hc.hsc]; exact e)) (Or.inr (by rw [hc.hsc]; exact e))
      · rename_i e
        cases ho : oc x' with
        | false => rw [ho] at h; cases h
        | true =>
          rw [ho] at h
          exact set_ok h (Or.inr (by rw [hc.hsc]; exact e)) (Or.inl (hc.hoc _ ho))
      · cases h
    · rename_i n' es kk pos heq
      cases heq
      cases ht : cTgts (cTgt c sc oc n) es with
      | none => rw [ht] at h; cases h
      | some q =>
        rw [ht] at h
        cases h
        obtain ⟨h1, h2, h3, h4⟩ := cTgts_ok ih ht
        refine ⟨sg_tup hc.calm h1 h3 h4, fun d e S => ?_⟩
        show isNx (gTupD es.length q.2 d e S)
        unfold gTupD
        split
        · rename_i ds
          cases Nat.beq ds.length es.length with
          | true => exact h2 _ _ _
          | false => exact trivial
        · exact trivial
    · cases h
/-! iterables -/
def cIter (c : Ctx) (sc : Scope) (r : Expr → Option EF) (it : Expr) : Option IF := match it with
  | .Call (.Name x p) [a] [] pos => bif strEq x "range" && c.free x then (match sc.names.lookup x with
      | some .globalImplicit => bif notStar a then (cArgs r [a]).map iRng1' else none
      | _ => none) else (r (.Call (.Name x p) [a] [] pos)).map iOf
  | .Call (.Name x p) [a, b] [] pos => bif strEq x "range" && c.free x then (match sc.names.lookup x with
      | some .globalImplicit => bif notStar a && notStar b then (cArgs r [a, b]).map iRng2' else none
      | _ => none) else (r (.Call (.Name x p) [a, b] [] pos)).map iOf
  | .Set .. => none
  | e => (r e).map iOf
theorem folded_ok {it : Expr} {env : PySem.Env} (h : (match it with | .Set .. => false | _ => true) = true) : ∀ x, foldedSetIterable it env x = pure x := by
  intro x
  cases it <;> first | rfl | cases h
theorem cIter_ok {c : Ctx} {k : Nat} {X : Cx} {sc : Scope} {oc : Str → Bool} {tg : Expr} (hc : CxOk c k X sc oc) {r : Expr → Option EF} (hr : ∀ x f, r x = some f → PE X x (tE X.K f)) {it : Expr} {f : IF} (h : cIter c sc r it = some f) :
    PI X tg it (tI X.K f) ∧ ∀ x, foldedSetIterable it X.env x = pure x := by
  have gen : ∀ {e : Expr} {f : IF}, (r e).map iOf = some f → PI X tg e (tI X.K f) := by
    intro e f h
    cases hr' : r e with
    | none => rw [hr'] at h; cases h
    | some g => rw [hr'] at h; cases h; exact si_of (hr _ _ hr')
  unfold cIter at h
  split at h
  · rename_i x p a pos
    refine ⟨?_, folded_ok rfl⟩
    cases hb : (strEq x "range" && c.free x) with
    | false => rw [hb] at h; exact gen h
    | true =>
      rw [hb] at h
      rw [Bool.and_eq_true] at hb
      dsimp only [cond] at h
      split at h
      · rename_i e
        cases hn : notStar a with
        | false => rw [hn] at h; cases h
        | true =>
          rw [hn] at h
          dsimp only [cond] at h
          cases ha : cArgs r [a] with
          | none => rw [ha] at h; cases h
          | some g =>
            rw [ha] at h
            cases h
            have ex := (strEq_iff _ _).mp hb.1
            subst ex
            exact si_range1 (hc.glob e) (hc.free _ hb.2) hn (cArgs_ok hr ha).1
      · cases h
  · rename_i x p a b pos
    refine ⟨?_, folded_ok rfl⟩
    cases hb : (strEq x "range" && c.free x) with
    | false => rw [hb] at h; exact gen h
    | true =>
      rw [hb] at h
      rw [Bool.and_eq_true] at hb
      dsimp only [cond] at h
      split at h
      · rename_i e
        cases hn : (notStar a && notStar b) with
        | false => rw [hn] at h; cases h
        | true =>
          rw [hn] at h
          rw [Bool.and_eq_true] at hn
          dsimp only [cond] at h
          cases ha : cArgs r [a, b] with
          | none => rw [ha] at h; cases h
          | some g =>
            rw [ha] at h
            cases h
            have ex := (strEq_iff _ _).mp hb.1
            subst ex
            exact si_range2 (hc.glob e) (hc.free _ hb.2) hn.1 hn.2 (cArgs_ok hr ha).1
      · cases h
  · cases h
  · rename_i hne
    refine ⟨gen h, folded_ok ?_⟩
    split
    · exact absurd rfl (hne _ _ _)
    · rfl
end Ev

namespace Ev
open PySem L2 PySem.Spec PyProof.Rows

/-! ### expressions -/
def ownOf (N : List Str) (names : List (Str × NameKind)) : List (Str × Nat) := names.filterMap fun p => match p.2 with
  | .local => (idxN p.1 N 0).map fun i => (p.1, i)
  | .cell => (idxN p.1 N 0).map fun i => (p.1, i)
  | _ => none
def bTrue : BF := fun _ S => .ok true S
def cIfs (t : Expr → Option BF) : List Expr → Option BF
  | [] => some bTrue
  | [a] => t a
  | _ => none
def ocB (scope : Scope) (x : Str) : Bool := scope.names.lookup x == some .cell
/-- a comprehension of one for -/
def cLc (c : Ctx) (r : Rc) (sc : Scope) (oc : Str → Bool) (elt tg it : Expr) (ifs : List Expr) (scope : Scope) : Option EF :=
  bif blkC c.N sc scope (ownOf c.N scope.names) then
    (match cIter c sc (r.e sc oc) it, cTgt c (relS scope sc) (ocB scope) 4 tg, cIfs (r.t (relS scope sc) (ocB scope)) ifs, r.e (relS scope sc) (ocB scope) elt with
    | some i, some (ws, g), some t, some f => bif ws.all (fun j => ((ownOf c.N scope.names).map (·.2)).contains j) then some (eLc c.fuel i g t f ((ownOf c.N scope.names).map (·.2))) else none
    | _, _, _, _ => none) else none
def attrPlain : Expr → Bool
  | .Call (.Name _ _) [] [] _ => false
  | _ => true
theorem attr_ok {o : Expr} {m : Str} {env : PySem.Env} (h : attrPlain o = true) : attributeBase o m env (eval o env) = eval o env := by
  unfold attributeBase
  split
  · cases h
  · rfl
inductive MI where
  | mk (T : String) (k : Kd) (op : D → List D → Sto → R D)
def mthOf (m : Str) : Option (D → List D → Sto → R D) :=
  bif strEq m "append" then some appD else bif strEq m "extend" then some extD else none
def stepE (c : Ctx) (r : Rc) (sc : Scope) (oc : Str → Bool) : Expr → Option EF
  | .Name x _ => cName c sc x
  | .Constant (.int i) _ _ => some (eC (.int i))
  | .Constant (.bool i) _ _ => some (eC (.bl i))
  | .Constant .none _ _ => some (eC .non)
  | .Constant (.str i) _ _ => some (eC (.str i))
  | .BinOp a o b _ => (match opB o, r.e sc oc a, r.e sc oc b with
    | some op, some f, some g => some (eOp op f g)
    | _, _, _ => none)
  | .UnaryOp .USub a _ => (r.e sc oc a).map (eUn negD)
  | .UnaryOp .Not a _ => (r.e sc oc a).map eNot
  | .Compare a [o] [b] _ => (match opC o, r.e sc oc a, r.e sc oc b with
    | some op, some f, some g => some (eOp op f g)
    | _, _, _ => none)
  | .BoolOp .And es _ => cAndE (r.e sc oc) eAnd es
  | .BoolOp .Or es _ => cAndE (r.e sc oc) eOr es
  | .IfExp t a b _ => (match r.t sc oc t, r.e sc oc a, r.e sc oc b with
    | some f, some g, some h => some (eIf f g h)
    | _, _, _ => none)
  | .Tuple es _ _ => (cArgs (r.e sc oc) es).map eTup
  | .List es _ => (cArgs (r.e sc oc) es).map eLst
  | .Dict ks vs pos => (match ks, vs with
    | [], [] => some (eNewD (c.tup pos))
    | ks, vs => bif Nat.ble 1 ks.length && Nat.ble ks.length 15 then (cPairs (r.e sc oc) ks vs).map eDisp else none)
  | .Subscript a (.Slice lo hi none _) _ => (match r.e sc oc a, cOpt (r.e sc oc) lo, cOpt (r.e sc oc) hi with
    | some f, some l, some h => some (eSlc f l h)
    | _, _, _ => none)
  | .Subscript a b _ => bif plainIx b then (match r.e sc oc a, r.e sc oc b with
    | some f, some g => some (eOp ixD f g)
    | _, _ => none) else none
  | .Call (.Name x _) es kws _ => (match sc.names.lookup x with
    | some .globalImplicit => (match kwNames kws with
      | some ks => (match c.call x es.length ks with
        | some (F, a) => (match cArgs (r.e sc oc) es, cKws (r.e sc oc) kws with
          | some f, some g => some (eCall F a es.length ks.length f g)
          | _, _ => none)
        | none => bif c.free x && plainName x && ks.isEmpty then (match biOf x, es, cArgs (r.e sc oc) es with
          | some b, _ :: _, some f => some (eB (biOp b) f)
          | _, _, _ => none) else none)
      | none => none)
    | _ => none)
  | .Call (.Attribute o m apos) (e :: es) [] cpos => bif attrPlain o && (apos.endLine == cpos.line) && Nat.blt es.length 20 then (match mthOf m, r.e sc oc o, cArgs (r.e sc oc) (e :: es) with
    | some op, some f, some g => some (eMeth .lst op f g)
    | _, _, _ => none) else none
  | .ListComp elt [⟨tg, it, ifs, 0⟩] scope _ => cLc c r sc oc elt tg it ifs scope
  | _ => none
def stepT (c : Ctx) (r : Rc) (sc : Scope) (oc : Str → Bool) : Expr → Option BF
  | .UnaryOp .Not a _ => (r.t sc oc a).map bNot
  | .BoolOp .And es _ => cAndT (r.t sc oc) bAnd es
  | .BoolOp .Or es _ => cAndT (r.t sc oc) bOr es
  | .Compare a [o] [b] _ => (match opC o, r.e sc oc a, r.e sc oc b with
    | some op, some f, some g => some (bCmp (eOp op f g))
    | _, _, _ => none)
  | .Name x p => (r.e sc oc (.Name x p)).map bTru
  | .Call f as ks p => (r.e sc oc (.Call f as ks p)).map bTru
  | .Subscript a b p => (r.e sc oc (.Subscript a b p)).map bTru
  | .Attribute a b p => (r.e sc oc (.Attribute a b p)).map bTru
  | _ => none

theorem map_some {α β : Type} {f : α → β} {o : Option α} {b : β} (h : o.map f = some b) : ∃ a, o = some a ∧ f a = b := by
  cases o with
  | none => cases h
  | some a => exact ⟨a, rfl, Option.some.inj h⟩
theorem blk_cx {c : Ctx} {k : Nat} {X : Cx} {sc : Scope} {oc : Str → Bool} (hc : CxOk c k X sc oc) {scope : Scope} (hk : scope.kind = .function) (s : Shared) (H : Hp) (C : Addr) (cl : List (Str × Addr)) (fp : List Addr) :
    CxOk c k (X.blk s H scope (compEnvC scope cl C X.env) fp) (relS scope sc) (ocB scope) where
  hN := hc.hN
  nd := hc.nd
  calm := hc.calm
  xe := rfl
  gd := hc.gd
  room := hc.room
  hsc := by rw [← hc.hsc]; rfl
  kind := hk
  hoc := fun x h => h
  call := fun x n ks F a h => ⟨(hc.call x n ks F a h).ex, (hc.call x n ks F a h).ok, (hc.call x n ks F a h).nd⟩
  con := hc.con
  free := hc.free
theorem cLc_ok {c : Ctx} {k : Nat} {r : Rc} (hr : RcOk c k r) {X : Cx} {sc : Scope} {oc : Str → Bool} (hc : CxOk c k X sc oc) {elt tg it : Expr} {ifs : List Expr} {scope : Scope} {pos : Pos} {f : EF} (h : cLc c r sc oc elt tg it ifs scope = some f) :
    ∃ (own : List (Str × Nat)) (wi : TI) (g : TG) (tt : TT) (te : TE), (∀ σ H Q, tE X.K f σ H Q → tLc wi g tt te (own.map (·.2)) σ H Q) ∧ PI X tg it wi ∧ BlkOk X.N X.env.scope scope own ∧
      (∀ (s : Shared) (H : Hp) (C : Addr) (cl : List (Str × Addr)) (fp : List Addr), PG (X.blk s H scope (compEnvC scope cl C X.env) fp) tg g) ∧
      (∀ (s : Shared) (H : Hp) (C : Addr) (cl : List (Str × Addr)) (fp : List Addr), PTs (X.blk s H scope (compEnvC scope cl C X.env) fp) ifs tt) ∧
      (∀ (s : Shared) (H : Hp) (C : Addr) (cl : List (Str × Addr)) (fp : List Addr), PE (X.blk s H scope (compEnvC scope cl C X.env) fp) elt te) ∧ ∀ x, foldedSetIterable it X.env x = pure x := by
  unfold cLc at h
  cases hb : blkC c.N sc scope (ownOf c.N scope.names) with
  | false => rw [hb] at h; cases h
  | true =>
    rw [hb] at h
    dsimp only [cond] at h
    split at h
    · rename_i i ws g t fe h1 h2 h3 h4
      cases hw : ws.all (fun j => ((ownOf c.N scope.names).map (·.2)).contains j) with
      | false => rw [hw] at h; cases h
      | true =>
        rw [hw] at h
        cases h
        have bo : BlkOk X.N X.env.scope scope (ownOf c.N scope.names) := by rw [hc.hN, hc.hsc]; exact blkOk_by hb
        obtain ⟨q1, q2⟩ := cIter_ok (tg := tg) hc (fun x f hx => hr.e sc oc x f hx X hc) h1
        refine ⟨ownOf c.N scope.names, tI X.K i, tG X.K ws g, tT X.K t, tE X.K fe, fun σ H Q hq => se_lc (elt := elt) (tg := tg) (iter := it) (ifs := ifs) (scope := scope) (pos := pos) ?_ hq, q1, bo, fun s H C cl fp => ?_, fun s H C cl fp => ?_, fun s H C cl fp => ?_, q2⟩
        · intro j hj
          have := List.all_eq_true.mp hw j hj
          simpa using this
        · exact (cTgt_ok (blk_cx hc bo.kind s H C cl fp) 4 tg (ws, g) h2).1
        · match ifs, h3 with
          | [], h3 =>
            cases h3
            exact ⟨fun pins s σ H Q I hq => pts_nil.run pins s σ H Q I (by
              obtain ⟨ρ, S, e, hS, hE, hP⟩ := hq
              exact PostB.c hS hP)⟩
          | [a], h3 => exact pts_one (hr.t _ _ _ _ h3 _ (blk_cx hc bo.kind s H C cl fp))
          | _ :: _ :: _, h3 => cases h3
        · exact hr.e _ _ _ _ h4 _ (blk_cx hc bo.kind s H C cl fp)
    · cases h
theorem all_noStars {es : List Expr} {pos : Pos} {env : PySem.Env} (h : noStars es = true) : ((backTo pos (starEach es env)).all fun x => !x.1) = true := by
  have := backTo_stars (pos := pos) (env := env) h
  rw [List.all_eq_not_any_not]
  simpa using this
theorem mthOf_ok {X : Cx} {m : Str} {op : D → List D → Sto → R D} (h : mthOf m = some op) : ∃ id r, Slot "list" m id ∧ typeOf (.builtin id) = pure (.type "method_descriptor") ∧ MtR X id r ∧ MtD X.K op r := by
  unfold mthOf at h
  cases e1 : strEq m "append" with
  | true =>
    rw [e1] at h
    cases h
    rw [(strEq_iff _ _).mp e1]
    exact ⟨_, _, PySem.F.slot_list_append, PySem.F.type_list_append, mt_append, appD_ok⟩
  | false =>
  rw [e1] at h
  cases e2 : strEq m "extend" with
  | true =>
    rw [e2] at h
    cases h
    rw [(strEq_iff _ _).mp e2]
    exact ⟨_, _, PySem.F.slot_list_extend, PySem.F.type_list_extend, mt_extend, extD_ok⟩
  | false => rw [e2] at h; cases h

theorem stepE_ok {c : Ctx} {k : Nat} {r : Rc} (hr : RcOk c k r) : ∀ sc oc x f, stepE c r sc oc x = some f → ∀ X, CxOk c k X sc oc → PE X x (tE X.K f) := by
  intro sc oc x f h X hc
  have re : ∀ x f, r.e sc oc x = some f → PE X x (tE X.K f) := fun x f hx => hr.e sc oc x f hx X hc
  have rt : ∀ x f, r.t sc oc x = some f → PT X x (tT X.K f) := fun x f hx => hr.t sc oc x f hx X hc
  unfold stepE at h
  split at h
  · exact cName_ok hc h
  · cases h; exact se_const pe_int fun _ _ _ => rel_int.mpr rfl
  · cases h; exact se_const pe_bl fun _ _ _ => rel_bl.mpr rfl
  · cases h; exact se_const pe_non fun _ _ _ => rel_non.mpr rfl
  · cases h; exact se_const pe_str fun _ _ _ => rel_str.mpr rfl
  · split at h
    · rename_i op f' g ho ha hb
      cases h
      obtain ⟨rr, h1, h2⟩ := opB_ok (X := X) ho
      exact se_bin h1 h2 (re _ _ ha) (re _ _ hb)
    · cases h
  · obtain ⟨g, h1, h2⟩ := map_some h
    cases h2
    exact se_un un_neg negD_ok (re _ _ h1)
  · obtain ⟨g, h1, h2⟩ := map_some h
    cases h2
    exact se_not (re _ _ h1)
  · split at h
    · rename_i op f' g ho ha hb
      cases h
      obtain ⟨⟨rr, h1, h2⟩, h3⟩ := opC_ok hc.units ho
      exact se_cmp h1 h2 (re _ _ ha) (re _ _ hb) (h3 _)
    · cases h
  · exact cAndE_ok re (fun a b rest f g h1 h2 => se_and h1 h2) h
  · exact cAndE_ok re (fun a b rest f g h1 h2 => se_or h1 h2) h
  · split at h
    · rename_i f' g h' h1 h2 h3
      cases h
      exact se_if (rt _ _ h1) (re _ _ h2) (re _ _ h3)
    · cases h
  · obtain ⟨g, h1, h2⟩ := map_some h
    cases h2
    exact se_tup (cArgs_ok re h1).1
  · obtain ⟨g, h1, h2⟩ := map_some h
    cases h2
    exact se_lst (cArgs_ok re h1).1
  · split at h
    · cases h
      exact se_newD
    · rename_i ks vs pos _ _ hne
      cases hb : (Nat.ble 1 ks.length && Nat.ble ks.length 15) with
      | false => rw [hb] at h; cases h
      | true =>
        rw [hb] at h
        rw [Bool.and_eq_true] at hb
        obtain ⟨l, h1, h2⟩ := map_some h
        cases h2
        obtain ⟨q1, q2, q3⟩ := cPairs_ok (pos := pos) re h1
        exact se_disp q1 q2 q3 (fun e => by rw [e] at hb; cases hb.1) (Nat.le_of_ble_eq_true hb.2)
  · split at h
    · rename_i f' l h' h1 h2 h3
      cases h
      exact se_slc (re _ _ h1) (cOpt_ok re h2) (cOpt_ok re h3)
    · cases h
  · rename_i a b pos hns
    cases hp : plainIx b with
    | false => rw [hp] at h; cases h
    | true =>
      rw [hp] at h
      dsimp only [cond] at h
      split at h
      · rename_i f' g h1 h2
        cases h
        exact se_ix hc.units1 hp (re _ _ h1) (re _ _ h2)
      · cases h
  · rename_i x p es kws pos
    split at h
    · rename_i hg
      split at h
      · rename_i ks hk
        split at h
        · rename_i F a hcall
          split at h
          · rename_i f' g h1 h2
            cases h
            obtain ⟨q1, q2⟩ := cArgs_ok re h1
            have q3 := cKws_ok re h2
            cases es with
            | nil =>
              cases h1
              exact se_call0 hc.room hc.gd (hc.glob hg) (hc.call _ _ _ _ _ hcall) hk q3
            | cons e1 es => exact se_call hc.room hc.gd (hc.glob hg) (hc.call _ _ _ _ _ hcall) hk q2 q1 q3
          · cases h
        · cases hb : (c.free x && plainName x && ks.isEmpty) with
          | false => rw [hb] at h; cases h
          | true =>
            rw [hb] at h
            simp only [Bool.and_eq_true] at hb
            dsimp only [cond] at h
            split at h
            · rename_i b e1 es' f' hbi hcn ha
              cases h
              obtain ⟨q1, q2⟩ := cArgs_ok re ha
              have hks : kws = [] := by
                have e : ks = [] := by simpa using hb.2
                subst e
                cases kws with
                | nil => rfl
                | cons w ws =>
                  obtain ⟨nm, v, p⟩ := w
                  cases nm with
                  | none => cases hk
                  | some n =>
                    unfold kwNames at hk
                    split at hk <;> cases hk
              subst hks
              obtain ⟨p1, p2, p3⟩ := plain_ok hb.1.2
              have good := biOf_ok hc.units hc.gd hbi
              cases b with
              | fn id op =>
                obtain ⟨g1, rr, g2, g3⟩ := good
                exact se_callB g2 g3 (hc.glob hg) (hc.free _ hb.1.1) g1 q1 p3 p1 q2
              | ty T op =>
                obtain ⟨g1, rr, g2, g3⟩ := good
                exact se_callTy g2 g3 (hc.glob hg) (hc.free _ hb.1.1) g1 q1 p3 p1 q2
            · cases h
      · cases h
    · cases h
  · rename_i o m apos e1 es cpos
    cases hb : (attrPlain o && (apos.endLine == cpos.line) && Nat.blt es.length 20) with
    | false => rw [hb] at h; cases h
    | true =>
      rw [hb] at h
      simp only [Bool.and_eq_true] at hb
      dsimp only [cond] at h
      split at h
      · rename_i op f' g h1 h2 h3
        cases h
        obtain ⟨q1, q2⟩ := cArgs_ok re h3
        obtain ⟨id, rr, m1, m2, m3, m4⟩ := mthOf_ok (X := X) h1
        have q2' := q2
        unfold noStars at q2'
        rw [List.all_cons, Bool.and_eq_true] at q2'
        have hlt : es.length < 20 := by simpa using hb.2
        refine PE.to (pe_bm PySem.F.plainAttrs_list m1 m2 m3 (re _ _ h2) q1 (attr_ok hb.1.1) ?_ hb.1.2 (starEach_cons q2'.1) (backTo_stars q2'.2)) fun σ H Q hq => meth_to (k := .lst) (Or.inl rfl) m4 hq
        have e0 := all_noStars (pos := cpos) (env := X.env) q2
        have e2 : ((backToKw cpos (keywordEach [] X.env)).all fun x => x.1.isSome) = true := rfl
        have e3 : decide ((e1 :: es).length + ([] : List Keyword).length + (if ([] : List Keyword).isEmpty = true then 0 else 1) < 30) = true := decide_eq_true (by simp; omega)
        rw [e0, e2, e3]
        rfl
      · cases h
  · rename_i elt tg it ifs scope pos
    obtain ⟨own, wi, g, tt, te, q0, q1, q2, q3, q4, q5, q6⟩ := cLc_ok (pos := pos) hr hc h
    exact PE.to (pe_lc hc.calm hc.nd q1 q2 q3 q4 q5 q6) q0
  · cases h
theorem stepT_ok {c : Ctx} {k : Nat} {r : Rc} (hr : RcOk c k r) : ∀ sc oc x f, stepT c r sc oc x = some f → ∀ X, CxOk c k X sc oc → PT X x (tT X.K f) := by
  intro sc oc x f h X hc
  have re : ∀ x f, r.e sc oc x = some f → PE X x (tE X.K f) := fun x f hx => hr.e sc oc x f hx X hc
  have rt : ∀ x f, r.t sc oc x = some f → PT X x (tT X.K f) := fun x f hx => hr.t sc oc x f hx X hc
  unfold stepT at h
  split at h
  · obtain ⟨g, h1, h2⟩ := map_some h
    cases h2
    exact st_not (rt _ _ h1)
  · exact (cAndT_ok rt (fun a f h1 => pw_and1 h1) (fun a b rest f g h1 h2 => st_and h1 h2) h).pt
  · exact (cAndT_ok rt (fun a f h1 => pw_or1 h1) (fun a b rest f g h1 h2 => st_or h1 h2) h).pt
  · split at h
    · rename_i op f' g ho ha hb
      cases h
      obtain ⟨⟨rr, h1, h2⟩, h3⟩ := opC_ok hc.units ho
      exact st_cmp h1 h2 (re _ _ ha) (re _ _ hb) (h3 _)
    · cases h
  · obtain ⟨g, h1, h2⟩ := map_some h
    cases h2
    exact st_tru (re _ _ h1) fun _ => rfl
  · obtain ⟨g, h1, h2⟩ := map_some h
    cases h2
    exact st_tru (re _ _ h1) fun _ => rfl
  · obtain ⟨g, h1, h2⟩ := map_some h
    cases h2
    exact st_tru (re _ _ h1) fun _ => rfl
  · obtain ⟨g, h1, h2⟩ := map_some h
    cases h2
    exact st_tru (re _ _ h1) fun _ => rfl
  · cases h
def rcN (c : Ctx) : Nat → Rc
  | 0 => ⟨fun _ _ _ => none, fun _ _ _ => none⟩
  | n + 1 => ⟨stepE c (rcN c n), stepT c (rcN c n)⟩
theorem rcN_ok (c : Ctx) (k : Nat) : ∀ n, RcOk c k (rcN c n)
  | 0 => ⟨fun _ _ _ _ h => (by cases h), fun _ _ _ _ h => (by cases h)⟩
  | n + 1 => ⟨stepE_ok (rcN_ok c k n), stepT_ok (rcN_ok c k n)⟩
end Ev

namespace Ev
open PySem L2 PySem.Spec PyProof.Rows

/-! ### statements of the text -/
def isComp : Expr → Bool
  | .ListComp .. | .SetComp .. | .DictComp .. => true
  | _ => false
theorem swaps_no {e : Expr} {t : Option Expr} {l : Nat} {env : PySem.Env} (h : isComp e = false) : swapsWith e t l env = pure false := by
  cases e <;> first | rfl | cases h
def env0 (sc : Scope) : PySem.Env := { scope := sc, locals := 0, globals := 0, cells := [] }
/-- how a, b = e, f is stored: the names, all at once, or nothing special -/
def pureOf {α : Type} : Sem α → Option α
  | .pure a => some a
  | _ => none
theorem pureOf_ok {α : Type} {t : Sem α} {a : α} (h : pureOf t = some a) : t = pure a := by
  cases t <;> first | (cases h; done) | (cases h; rfl)
def swN (sc : Scope) (ts vs : List Expr) (k k2 : Nat) (p p2 : Pos) : Option (Option (List Str)) := pureOf (swappedStores [.Tuple ts k p] (.Tuple vs k2 p2) (env0 sc))
theorem swN_ok {env : PySem.Env} {ts vs : List Expr} {k k2 : Nat} {p p2 : Pos} {r : Option (List Str)} (h : swN env.scope ts vs k k2 p p2 = some r) : swappedStores [.Tuple ts k p] (.Tuple vs k2 p2) env = pure r := pureOf_ok h
theorem swapped_none {tg e : Expr} {env : PySem.Env} (h : (match tg, e with | .Tuple .., .Tuple .. => false | .List .., .Tuple .. => false | _, _ => true) = true) : swappedStores [tg] e env = pure none := by
  unfold swappedStores
  cases tg <;> first | rfl | (cases e <;> first | rfl | cases h)
def idxOk (c : Ctx) (sc : Scope) (x : Str) : Option Nat := match sc.names.lookup x with
  | some .local => idxN x c.N 0
  | _ => none
def sNo : SF := fun _ _ => .no
/-- what is not served is never reached -/
def cSs (f : Stmt → Option SF) : List Stmt → Option SF
  | [] => some sNil
  | s :: r => (match f s, cSs f r with
    | some g, some h => some (sCons g h)
    | _, _ => some sNo)
def cAsg (c : Ctx) (r : Rc) (sc : Scope) (oc : Str → Bool) (tg v : Expr) : Option SF := bif !isComp v && notStar tg then (match r.e sc oc v, cTgt c sc oc 4 tg with
  | some f, some (_, g) => some (sAsg f g)
  | _, _ => none) else none
def cPar (c : Ctx) (r : Rc) (sc : Scope) (oc : Str → Bool) (ts vs l : List Expr) (ns : List Str) : Option SF := match ts, vs, ns with
  | [.Name x _, .Name y _], [a, b], [x', y'] => bif strEq x x' && strEq y y' then (match idxOk c sc x, idxOk c sc y, cArgs (r.e sc oc) [a, b] with
      | some i, some j, some f => bif Nat.beq i j then none else some (sPar i j f)
      | _, _, _ => none) else none
  | [.Name x _, .Name y _, .Name z _], [a, b, d], [x', y', z'] => bif strEq x x' && strEq y y' && strEq z z' then (match idxOk c sc x, idxOk c sc y, idxOk c sc z, cArgs (r.e sc oc) [a, b, d] with
      | some i, some j, some k, some f => some (sPar3 i j k f)
      | _, _, _, _ => none) else none
  | _, _, _ => none
def cSetLc (c : Ctx) (r : Rc) (sc : Scope) (oc : Str → Bool) (y : Str) (py pos : Pos) (elt tg it : Expr) (ifs : List Expr) (scope : Scope) : Option SF := match idxOk c sc y, cLc c r sc oc elt tg it ifs scope with
  | some i, some f => bif (py.line == pos.line) && !(scope.names.any fun p => p.1 == y && (p.2 == .local || p.2 == .cell)) then some (sAsg f (gSet i)) else none
  | _, _ => none
def cAssign (c : Ctx) (r : Rc) (sc : Scope) (oc : Str → Bool) (tg v : Expr) : Option SF := match tg with
  | .Name y py => (match v with
    | .ListComp elt [⟨tg, it, ifs, 0⟩] scope pos => cSetLc c r sc oc y py pos elt tg it ifs scope
    | v => cAsg c r sc oc (.Name y py) v)
  | .Tuple ts kt pt => (match v with
    | .Tuple vs k2 pt2 => (match swN sc ts vs kt k2 pt pt2 with
      | some none => cAsg c r sc oc (.Tuple ts kt pt) (.Tuple vs k2 pt2)
      | some (some l) => cPar c r sc oc ts vs [] l
      | none => none)
    | v => cAsg c r sc oc (.Tuple ts kt pt) v)
  | .Subscript o i _ => bif isComp v then none else (match r.e sc oc o, r.e sc oc i, r.e sc oc v with
    | some f, some g, some h => some (sDPut f g h)
    | _, _, _ => none)
  | _ => none
def stepS (c : Ctx) (r : Rc) (rs : List Stmt → Option SF) (sc : Scope) (oc : Str → Bool) : Stmt → Option SF
  | .Expr a _ => bif isComp a then none else (r.e sc oc a).map sExpr
  | .Return (some a) _ => (r.e sc oc a).map sRet
  | .Return none _ => some sRetN
  | .Pass _ => some sNil
  | .Break _ => some sBrk
  | .Continue _ => some sCont
  | .If t a b _ => (match r.t sc oc t, rs a, rs b with
    | some f, some g, some h => some (sIf f g h)
    | _, _, _ => none)
  | .While t b [] _ => (match r.t sc oc t, rs b with
    | some f, some g => some (whileR f g c.fuel)
    | _, _ => none)
  | .For tg it b [] _ => (match cIter c sc (r.e sc oc) it, cTgt c sc oc 4 tg, rs b with
    | some i, some p, some f => some (sFor c.fuel i p.2 f)
    | _, _, _ => none)
  | .AugAssign (.Name x _) o a _ => (match idxOk c sc x, r.e sc oc a, augD o with
    | some i, some f, some op => some (sAug i op f)
    | _, _, _ => none)
  | .Assign [tg] v _ => cAssign c r sc oc tg v
  | _ => none
theorem cSs_ok {X : Cx} {f : Stmt → Option SF} (hf : ∀ s g, f s = some g → PS X s (tS X.K g)) : ∀ {l : List Stmt} {g : SF}, cSs f l = some g → PSs X l (tS X.K g)
  | [], g, h => by cases h; exact ss_nil
  | s :: r, g, h => by
    unfold cSs at h
    split at h
    · rename_i g1 g2 h1 h2
      cases h
      exact ss_cons (hf _ _ h1) (cSs_ok hf h2)
    · cases h
      exact ⟨fun pins s σ H W I hq => by
        obtain ⟨ρ, S, e, hS, hE, hP⟩ := hq
        exact hP.elim⟩
section
variable {c : Ctx} {k : Nat} {X : Cx} {sc : Scope} {oc : Str → Bool}
theorem idxOk_ok (hc : CxOk c k X sc oc) {x : Str} {i : Nat} (h : idxOk c sc x = some i) : X.N[i]? = some x ∧ X.env.scope.names.lookup x = some .local := by
  unfold idxOk at h
  split at h
  · rename_i e
    obtain ⟨_, h2⟩ := idxN_ok h
    exact ⟨by rw [hc.hN]; simpa using h2, by rw [hc.hsc]; exact e⟩
  · cases h
theorem cAsg_ok {r : Rc} (hr : RcOk c k r) (hc : CxOk c k X sc oc) {tg v : Expr} {f : SF} {pos : Pos} (h : cAsg c r sc oc tg v = some f) (hw : swappedStores [tg] v X.env = pure none) : PS X (.Assign [tg] v pos) (tS X.K f) := by
  unfold cAsg at h
  cases hb : (!isComp v && notStar tg) with
  | false => rw [hb] at h; cases h
  | true =>
    rw [hb] at h
    simp only [Bool.and_eq_true, Bool.not_eq_true'] at hb
    dsimp only [cond] at h
    split at h
    · rename_i f' ws g h1 h2
      cases h
      obtain ⟨q1, q2⟩ := cTgt_ok hc 4 tg (ws, g) h2
      exact ss_asg (hr.e _ _ _ _ h1 X hc) q1 q2 (swaps_no hb.1) hw (by rw [assignEach_cons hb.2]; rfl)
    · cases h
theorem cSetLc_ok {r : Rc} (hr : RcOk c k r) (hc : CxOk c k X sc oc) {y : Str} {py pos spos : Pos} {elt tg it : Expr} {ifs : List Expr} {scope : Scope} {g : SF} (h : cSetLc c r sc oc y py pos elt tg it ifs scope = some g) :
    PS X (.Assign [.Name y py] (.ListComp elt [⟨tg, it, ifs, 0⟩] scope pos) spos) (tS X.K g) := by
  have hkd : X.env.scope.kind = .function := by rw [hc.hsc]; exact hc.kind
  unfold cSetLc at h
  split at h
  · rename_i i f h1 h2
    cases hb : ((py.line == pos.line) && !(scope.names.any fun p => p.1 == y && (p.2 == .local || p.2 == .cell))) with
    | false => rw [hb] at h; cases h
    | true =>
      rw [hb] at h
      cases h
      simp only [Bool.and_eq_true, Bool.not_eq_true'] at hb
      obtain ⟨q1, q2⟩ := idxOk_ok hc h1
      obtain ⟨own, wi, g', tt, te, z0, z1, z2, z3, z4, z5, z6⟩ := cLc_ok (pos := pos) hr hc h2
      refine PS.to (ps_setLc hc.calm hc.nd q1 q2 (sw_true hkd q2 hb.1 hb.2) z1 z2 z3 z4 z5 z6) fun W σ H hq => ?_
      obtain ⟨ρ, S, e, hS, hE, hP⟩ := hq
      refine z0 σ H _ ⟨ρ, S, e, hS, hE, PostR.imp (PostS.bind hP) fun v H1 h1 => ?_⟩
      obtain ⟨ρ1, S1, d, f1, r1, p1⟩ := h1
      exact PostS.n f1.st ((f1.e hE).set r1 i) p1
  · cases h
theorem cPar_ok {r : Rc} (hr : RcOk c k r) (hc : CxOk c k X sc oc) {ts vs : List Expr} {l : List Str} {kt k2 : Nat} {pt pt2 pos : Pos} {g : SF} (h : cPar c r sc oc ts vs [] l = some g) (hsw : swappedStores [.Tuple ts kt pt] (.Tuple vs k2 pt2) X.env = pure (some l)) :
    PS X (.Assign [.Tuple ts kt pt] (.Tuple vs k2 pt2) pos) (tS X.K g) := by
  have re : ∀ x f, r.e sc oc x = some f → PE X x (tE X.K f) := fun x f hx => hr.e sc oc x f hx X hc
  unfold cPar at h
  split at h
  · rename_i x px y py a b x' y'
    cases hb : (strEq x x' && strEq y y') with
    | false => rw [hb] at h; cases h
    | true =>
      rw [hb] at h
      simp only [Bool.and_eq_true] at hb
      dsimp only [cond] at h
      split at h
      · rename_i i j f h1 h2 h3
        obtain ⟨q1, q2⟩ := idxOk_ok hc h1
        obtain ⟨q3, q4⟩ := idxOk_ok hc h2
        cases hij : Nat.beq i j with
        | true => rw [hij] at h; cases h
        | false =>
          rw [hij] at h
          cases h
          have e1 := (strEq_iff _ _).mp hb.1
          have e2 := (strEq_iff _ _).mp hb.2
          subst e1 e2
          have ne : i ≠ j := fun e => by subst e; rw [Nat.beq_refl] at hij; cases hij
          exact ss_par hc.calm hc.nd q1 q3 ne q2 q4 (cArgs_ok re h3).1 hsw rfl
      · cases h
  · rename_i x px y py z pz a b d x' y' z'
    cases hb : (strEq x x' && strEq y y' && strEq z z') with
    | false => rw [hb] at h; cases h
    | true =>
      rw [hb] at h
      simp only [Bool.and_eq_true] at hb
      dsimp only [cond] at h
      split at h
      · rename_i i j kk f h1 h2 h3 h4
        cases h
        obtain ⟨q1, q2⟩ := idxOk_ok hc h1
        obtain ⟨q3, q4⟩ := idxOk_ok hc h2
        obtain ⟨q5, q6⟩ := idxOk_ok hc h3
        have e1 := (strEq_iff _ _).mp hb.1.1
        have e2 := (strEq_iff _ _).mp hb.1.2
        have e3 := (strEq_iff _ _).mp hb.2
        subst e1 e2 e3
        exact ss_par3 hc.calm hc.nd q1 q3 q5 q2 q4 q6 (cArgs_ok re h4).1 hsw rfl
      · cases h
  · cases h
theorem cAssign_ok {r : Rc} (hr : RcOk c k r) (hc : CxOk c k X sc oc) {tg v : Expr} {pos : Pos} {g : SF} (h : cAssign c r sc oc tg v = some g) : PS X (.Assign [tg] v pos) (tS X.K g) := by
  have re : ∀ x f, r.e sc oc x = some f → PE X x (tE X.K f) := fun x f hx => hr.e sc oc x f hx X hc
  cases tg with
  | Name y py =>
    unfold cAssign at h
    dsimp only at h
    split at h
    · exact cSetLc_ok hr hc h
    · exact cAsg_ok hr hc h (swapped_none rfl)
  | Tuple ts kt pt =>
    unfold cAssign at h
    dsimp only at h
    split at h
    · split at h
      · rename_i hsw
        exact cAsg_ok hr hc h (swN_ok (by rw [hc.hsc]; exact hsw))
      · rename_i l hsw
        exact cPar_ok hr hc h (swN_ok (by rw [hc.hsc]; exact hsw))
      · cases h
    · rename_i hv
      refine cAsg_ok hr hc h (swapped_none ?_)
      cases v <;> first | rfl | exact absurd rfl (hv _ _ _)
  | Subscript o i p =>
    unfold cAssign at h
    dsimp only at h
    cases hi : isComp v with
    | true => rw [hi] at h; cases h
    | false =>
      rw [hi] at h
      dsimp only [cond] at h
      split at h
      · rename_i f g' h' h1 h2 h3
        cases h
        exact ss_dput hc.units1 (re _ _ h1) (re _ _ h2) (re _ _ h3) (swaps_no hi)
      · cases h
  | _ => cases h
theorem stepS_ok {r : Rc} (hr : RcOk c k r) {rs : List Stmt → Option SF} (hc : CxOk c k X sc oc) (hrs : ∀ l g, rs l = some g → PSs X l (tS X.K g)) : ∀ s g, stepS c r rs sc oc s = some g → PS X s (tS X.K g) := by
  intro s g h
  have re : ∀ x f, r.e sc oc x = some f → PE X x (tE X.K f) := fun x f hx => hr.e sc oc x f hx X hc
  have rt : ∀ x f, r.t sc oc x = some f → PT X x (tT X.K f) := fun x f hx => hr.t sc oc x f hx X hc
  unfold stepS at h
  split at h
  · rename_i a pos
    cases hi : isComp a with
    | true => rw [hi] at h; cases h
    | false =>
      rw [hi] at h
      obtain ⟨f, h1, h2⟩ := map_some h
      cases h2
      exact ss_expr (re _ _ h1) (swaps_no hi)
  · obtain ⟨f, h1, h2⟩ := map_some h
    cases h2
    exact ss_ret (re _ _ h1)
  · cases h; exact ss_retN
  · cases h; exact ss_pass
  · cases h; exact ss_brk
  · cases h; exact ss_cont
  · split at h
    · rename_i f g' h' h1 h2 h3
      cases h
      exact ss_if (rt _ _ h1) (hrs _ _ h2) (hrs _ _ h3)
    · cases h
  · split at h
    · rename_i f g' h1 h2
      cases h
      exact ss_while hc.xe (rt _ _ h1) (hrs _ _ h2)
    · cases h
  · split at h
    · rename_i i pp f h1 h2 h3
      cases h
      obtain ⟨q1, q2⟩ := cIter_ok hc re h1
      exact ss_for hc.xe hc.calm q1 (cTgt_ok hc 4 _ _ h2).1 (hrs _ _ h3) q2
    · cases h
  · split at h
    · rename_i i f op h1 h2 h3
      cases h
      obtain ⟨q1, q2⟩ := idxOk_ok hc h1
      exact ss_aug hc.nd q1 (Or.inl q2) (re _ _ h2) h3 (Or.inr q2)
    · cases h
  · exact cAssign_ok hr hc h
  · cases h
end
def stN (c : Ctx) (r : Rc) (sc : Scope) (oc : Str → Bool) : Nat → List Stmt → Option SF
  | 0, _ => none
  | n + 1, l => cSs (stepS c r (stN c r sc oc n) sc oc) l
theorem stN_ok {c : Ctx} {k : Nat} {X : Cx} {sc : Scope} {oc : Str → Bool} {r : Rc} (hr : RcOk c k r) (hc : CxOk c k X sc oc) : ∀ n l g, stN c r sc oc n l = some g → PSs X l (tS X.K g)
  | 0, l, g, h => by cases h
  | n + 1, l, g, h => cSs_ok (stepS_ok hr hc (stN_ok hr hc n)) h
/-- a def's body -/
def cBody (c : Ctx) (sc : Scope) (body : List Stmt) : Option SF := stN c (rcN c 30) sc (fun _ => true) 12 body
end Ev

namespace Ev
open PySem L2 PySem.Spec PyProof.Rows

/-! ### how calls bind -/
def arrU (us ws its : List Value) : List Src → List Value
  | [] => []
  | .pos i :: r => us.getD i .none :: arrU us ws its r
  | .kw j :: r => ws.getD j .none :: arrU us ws its r
  | .dv j _ :: r => its.getD j .none :: arrU us ws its r
def dvOk (dvs : List V) : List Src → Prop
  | [] => True
  | .dv j d :: r => dvs[j]? = some (cV d) ∧ dvOk dvs r
  | _ :: r => dvOk dvs r
theorem Vals.getD {vs : List V} {us : List Value} (h : Vals vs us) (i : Nat) : RelV (vs.getD i .non) (us.getD i .none) := by
  rw [List.getD_eq_getElem?_getD, List.getD_eq_getElem?_getD]
  cases e : vs[i]? with
  | some v =>
    obtain ⟨u, e1, e2⟩ := h.get e
    rw [e1]
    exact e2
  | none =>
    rw [h.none_of e]
    exact rfl
theorem arr_vals {dvs : List V} {its : List Value} {vs zs : List V} {us ws : List Value} (h1 : Vals vs us) (h2 : Vals zs ws) (h3 : Vals dvs its) : ∀ {a : List Src}, dvOk dvs a → Vals (arrV vs zs a) (arrU us ws its a)
  | [], _ => .nil
  | .pos i :: r, h => .cons (Vals.getD h1 i) (arr_vals h1 h2 h3 h)
  | .kw i :: r, h => .cons (Vals.getD h2 i) (arr_vals h1 h2 h3 h)
  | .dv j d :: r, h => by
    refine .cons ?_ (arr_vals h1 h2 h3 h.2)
    obtain ⟨u, e1, e2⟩ := h3.get h.1
    rw [List.getD_eq_getElem?_getD, e1]
    exact e2
section
variable {K : PySem.W.Frag} {x qual : Str} {params : Arguments} {body : List Stmt} {scope : Scope} {dvs : List V} {kws : List (Str × V)} {f : Addr} {fd : FuncData} {ps : List Str} {n : Nat} {ks : List Str} {a : List Src}
def KB (K : PySem.W.Frag) (fd : FuncData) (ps : List Str) (n : Nat) (ks : List Str) (a : List Src) : Prop := ∃ g : List Value → List Value → List Value, KBn K fd ps n ks g (fun vs ws => arrV vs ws a)
theorem kb0 (F : FunD K x qual params body scope [] kws f fd) (ha : dvOk [] a)
    (h : ∀ (kV doc pm : Value) (an : Option Addr) (cdv ct : Value) (us ws : List Value), us.length = n → ws.length = ks.length → bindArgs (PySem.W.fnOf x qual params body scope .none kV doc pm an cdv ct) ⟨us, ks.zip ws⟩ = pure (ps.zip (arrU us ws [] a))) : KB K fd ps n ks a := by
  obtain ⟨oc, od, dV, kV, doc, pm, an, cdv, ct, osl, efd, lk, hcd, hD, hK⟩ := F.ex
  rcases hD with ⟨_, eV⟩ | ⟨e, _⟩
  · subst eV efd
    exact ⟨fun us ws => arrU us ws [] a, fun s us ws _ h1 h2 => .of_eq (h kV doc pm an cdv ct us ws h1 h2), fun r1 r2 => arr_vals r1 r2 .nil ha⟩
  · exact absurd rfl e
theorem kb1 (F : FunD K x qual params body scope dvs kws f fd) (hd : dvs ≠ []) (ha : dvOk dvs a)
    (h : ∀ (T : Addr) (kV doc pm : Value) (an : Option Addr) (cdv ct : Value) (us ws its : List Value), us.length = n → ws.length = ks.length → its.length = dvs.length →
      ∃ k, bindArgs (PySem.W.fnOf x qual params body scope (.ref T) kV doc pm an cdv ct) ⟨us, ks.zip ws⟩ = seqItems? (.ref T) >>= k ∧ k (some its.toArray) = pure (ps.zip (arrU us ws its a))) : KB K fd ps n ks a := by
  obtain ⟨oc, od, dV, kV, doc, pm, an, cdv, ct, osl, efd, lk, hcd, hD, hK⟩ := F.ex
  rcases hD with ⟨e, _⟩ | ⟨_, T, o, its, m, eV, lT, oT, rT⟩
  · exact absurd e hd
  · subst eV efd
    refine ⟨fun us ws => arrU us ws its a, fun s us ws hK h1 h2 => ?_, fun r1 r2 => arr_vals r1 r2 rT ha⟩
    obtain ⟨k, e1, e2⟩ := h T kV doc pm an cdv ct us ws its h1 h2 rT.length.symm
    exact PySem.W.binds_K hK rfl lT oT e1 e2
end

/-! ### a program: its defs, its calls -/
structure Row where
  name : Str
  n : Nat
  ks : List Str
  f : Nat
  arr : List Src
def strsEq : List Str → List Str → Bool
  | [], [] => true
  | x :: xs, y :: ys => bif strEq x y then strsEq xs ys else false
  | _, _ => false
theorem strsEq_iff : ∀ a b : List Str, strsEq a b = true → a = b
  | [], [], _ => rfl
  | [], y :: ys, h => by cases h
  | x :: xs, [], h => by cases h
  | x :: xs, y :: ys, h => by
    unfold strsEq at h
    cases e : strEq x y with
    | true => rw [e] at h; rw [(strEq_iff x y).mp e, strsEq_iff xs ys h]
    | false => rw [e] at h; cases h
def lookT : List Row → Str → Nat → List Str → Option Row
  | [], _, _, _ => none
  | r :: t, x, n, ks => bif strEq r.name x && Nat.beq r.n n && strsEq r.ks ks then some r else lookT t x n ks
theorem lookT_ok : ∀ {t : List Row} {x : Str} {n : Nat} {ks : List Str} {r : Row}, lookT t x n ks = some r → r ∈ t ∧ r.name = x ∧ r.n = n ∧ r.ks = ks
  | [], x, n, ks, r, h => by cases h
  | q :: t, x, n, ks, r, h => by
    unfold lookT at h
    cases e : (strEq q.name x && Nat.beq q.n n && strsEq q.ks ks) with
    | true =>
      rw [e] at h
      cases h
      simp only [Bool.and_eq_true] at e
      exact ⟨List.mem_cons_self, (strEq_iff _ _).mp e.1.1, Nat.eq_of_beq_eq_true e.1.2, strsEq_iff _ _ e.2⟩
    | false =>
      rw [e] at h
      obtain ⟨h1, h2⟩ := lookT_ok h
      exact ⟨List.mem_cons_of_mem _ h1, h2⟩
def lookC : List (Str × D) → Str → Option D
  | [], _ => none
  | p :: t, x => bif strEq p.1 x then some p.2 else lookC t x
theorem lookC_ok : ∀ {t : List (Str × D)} {x : Str} {d : D}, lookC t x = some d → (x, d) ∈ t
  | [], x, d, h => by cases h
  | p :: t, x, d, h => by
    unfold lookC at h
    cases e : strEq p.1 x with
    | true => rw [e] at h; cases h; rw [← (strEq_iff _ _).mp e]; exact List.mem_cons_self
    | false => rw [e] at h; exact List.mem_cons_of_mem _ (lookC_ok h)
def memS : List Str → Str → Bool
  | [], _ => false
  | y :: t, x => bif strEq y x then true else memS t x
theorem memS_ok : ∀ {t : List Str} {x : Str}, memS t x = true → x ∈ t
  | [], x, h => by cases h
  | y :: t, x, h => by
    unfold memS at h
    cases e : strEq y x with
    | true => rw [(strEq_iff _ _).mp e]; exact List.mem_cons_self
    | false => rw [e] at h; exact List.mem_cons_of_mem _ (memS_ok h)
structure Prg where
  tab : List Row
  con : List (Str × D)
  free : List Str
  tup : Pos → Bool
  fuel : Nat
def Prg.ctx (p : Prg) (N : List Str) (fd : Nat → FD) : Ctx := { N := N, call := fun x n ks => (lookT p.tab x n ks).map fun r => (fd r.f, r.arr), con := lookC p.con, free := memS p.free, tup := p.tup, fuel := p.fuel }
structure Dfn where
  d : He.DefD
  N : List Str
  ps : List Str
def noF : FD := fun _ _ => .no
def fdN (fn : Nat → (Nat → FD) → FD) : Nat → Nat → FD
  | 0, _ => noF
  | n + 1, i => fn i (fdN fn n)
def fdAt (K : PySem.W.Frag) (f : Addr) : FuncData := match K.lookup f with
  | some ⟨_, _, .func fd, _⟩ => fd
  | _ => default
theorem fdAt_ok {K : PySem.W.Frag} {x qual : Str} {params : Arguments} {body : List Stmt} {scope : Scope} {dvs : List V} {kws : List (Str × V)} {f : Addr} {fd : FuncData} (F : FunD K x qual params body scope dvs kws f fd) : fd = fdAt K f := by
  obtain ⟨oc, od, dV, kV, doc, pm, an, cdv, ct, osl, efd, lk, hcd, hD, hK⟩ := F.ex
  unfold fdAt
  rw [lk]
/-- what the head tells -/
structure Facts (p : Prg) (ds : List Dfn) (K : PySem.W.Frag) (mg : Str → Option Value) : Prop where
  fn : ∀ (i : Nat) (d : Dfn), ds[i]? = some d → ∃ fd, FunD K d.d.name d.d.qual d.d.params d.d.body d.d.scope (d.d.dvs K) (d.d.kws K) (He.fAd K d.d.at_) fd
  sc : ∀ (i : Nat) (d : Dfn), ds[i]? = some d → FnScope d.N d.ps d.d.scope
  row : ∀ r ∈ p.tab, ∃ d, ds[r.f]? = some d ∧ mg r.name = some (.ref (He.fAd K d.d.at_)) ∧ KB K (fdAt K (He.fAd K d.d.at_)) d.ps r.n r.ks r.arr ∧ r.arr.length = d.ps.length ∧ arrOk r.arr = true ∧ (r.name == ("__debug__" : Str)) = false
  con : ∀ x d, (x, d) ∈ p.con → cOk d = true ∧ ∃ u, mg x = some u ∧ RelV (cV d) u
  free : ∀ x ∈ p.free, mg x = none
theorem fnG_all {P : Program} {w : World} {K : PySem.W.Frag} {mg : Str → Option Value} {base : Heap} {p : Prg} {ds : List Dfn} {fn : Nat → (Nat → FD) → FD} (hf : Facts p ds K mg)
    (hb : ∀ (i : Nat) (d : Dfn) (call : Nat → FD), ds[i]? = some d → ∃ g, cBody (p.ctx d.N call) d.d.scope d.d.body = some g ∧ fn i call = fnOfS d.N.length g) :
    ∀ (n i : Nat) (d : Dfn), ds[i]? = some d → FnG P w K mg base n (He.fAd K d.d.at_) (fdAt K (He.fAd K d.d.at_)) d.ps (fdN fn n i)
  | 0, i, d, hd => ⟨fun A o s H a us vs Q hr hg he hbd hv hs => by
      obtain ⟨ρ, S, xs, h1, h2, h3, h4⟩ := hs
      exact h4.elim⟩
  | n + 1, i, d, hd => by
    obtain ⟨fd, F⟩ := hf.fn i d hd
    obtain ⟨g, hg, he⟩ := hb i d (fdN fn n) hd
    have Sc := hf.sc i d hd
    show FnG P w K mg base (n + 1) _ _ d.ps (fn i (fdN fn n))
    rw [he, ← fdAt_ok F]
    refine fnG_of F Sc fun cdv A outer s H hr hgd => ?_
    refine stN_ok (c := p.ctx d.N (fdN fn n)) (k := n) (rcN_ok _ n 30) ?_ 12 _ _ hg
    refine { hN := rfl, nd := Sc.nd, calm := rfl, xe := rfl, gd := hgd, room := hr, hsc := rfl, kind := Sc.kind, hoc := fun _ _ => rfl, call := ?_, con := fun x dd h => hf.con x dd (lookC_ok h), free := fun x h => hf.free x (memS_ok h) }
    intro x m ks F' a hc
    obtain ⟨r, h1, h2⟩ := map_some hc
    obtain ⟨h3, h4, h5, h6⟩ := lookT_ok h1
    cases h2
    obtain ⟨d', k1, k2, ⟨gg, k3⟩, k4, k5, k6⟩ := hf.row r h3
    subst h4 h5 h6
    obtain ⟨fd', F''⟩ := hf.fn r.f d' k1
    exact ⟨⟨_, _, d'.ps, gg, fnG_all hf hb n r.f d' k1, k2, F''.kp, k3, k4⟩, k5, k6⟩

theorem says_fact {fa : List He.Fa} {fn : List He.DefD} {K : PySem.W.Frag} (c : He.SaysD fa fn K) (i : Nat) {f : He.Fa} (h : fa[i]? = some f) : f.ok K = true := c.fact i h
section
variable {K : PySem.W.Frag} {x qual : Str} {params : Arguments} {body : List Stmt} {scope : Scope} {dvs : List V} {kws : List (Str × V)} {f : Addr} {ps : List Str} {n : Nat} {ks : List Str} {a : List Src}
theorem kbAt0 (F : ∃ fd, FunD K x qual params body scope [] kws f fd) (ha : dvOk [] a)
    (h : ∀ (kV doc pm : Value) (an : Option Addr) (cdv ct : Value) (us ws : List Value), us.length = n → ws.length = ks.length → bindArgs (PySem.W.fnOf x qual params body scope .none kV doc pm an cdv ct) ⟨us, ks.zip ws⟩ = pure (ps.zip (arrU us ws [] a))) : KB K (fdAt K f) ps n ks a := by
  obtain ⟨fd, F⟩ := F
  rw [← fdAt_ok F]
  exact kb0 F ha h
theorem kbAt1 (F : ∃ fd, FunD K x qual params body scope dvs kws f fd) (hd : dvs ≠ []) (ha : dvOk dvs a)
    (h : ∀ (T : Addr) (kV doc pm : Value) (an : Option Addr) (cdv ct : Value) (us ws its : List Value), us.length = n → ws.length = ks.length → its.length = dvs.length →
      ∃ k, bindArgs (PySem.W.fnOf x qual params body scope (.ref T) kV doc pm an cdv ct) ⟨us, ks.zip ws⟩ = seqItems? (.ref T) >>= k ∧ k (some its.toArray) = pure (ps.zip (arrU us ws its a))) : KB K (fdAt K f) ps n ks a := by
  obtain ⟨fd, F⟩ := F
  rw [← fdAt_ok F]
  exact kb1 F hd ha h
end
/-! ### a law -/
def S0 : Sto := ⟨.one, .nil⟩
theorem S0_rel (K : PySem.W.Frag) (H : Hp) (ρ : P → Addr) : StRel K H ρ S0 := ⟨fun p hp => absurd hp (by have := P.pos p; show ¬ p.toNat < 1; omega), fun p q hp => absurd hp (by have := P.pos p; show ¬ p.toNat < 1; omega)⟩
theorem ints_rel {K : PySem.W.Frag} {H : Hp} {ρ : P → Addr} {c : P} : ∀ ns : List Int, RelDs K H ρ c (ns.map D.int) (ns.map V.int)
  | [] => rels_nil.mpr rfl
  | n :: ns => rels_cons.mpr ⟨_, _, rfl, rel_int.mpr rfl, ints_rel ns⟩
theorem law_run {Pg : Program} {w : World} {K : PySem.W.Frag} {mg mb : Str → Option Value} {k : Nat} {fa a : Addr} {fd : FuncData} {x : Str} {F : FD} {s₁ : Shared} {vs : List Value} {ns : List Int}
    (kin : K.In s₁.heap) (gns : s₁.heap.Ns mainGlobals mg) (bns : s₁.heap.Ns builtinsNs mb) (boot : ∀ x : Str, x ≠ "__name__" → mb x = bootBuiltins x) (lim : s₁.heap.NoLimit) (gens : s₁.gens = #[])
    (la : s₁.heap.get? a = some { cls := .type "list", data := .seq vs.toArray }) (hiv : IntsAre vs ns) (hl : ns.length ≤ sizeLine) (hr : Room k callerA)
    (hF : ∀ base : Heap, K.In base → base.Ns mainGlobals mg → FnG Pg w K mg base k fa fd [x] F) (hbind : ∀ (s : Shared) (u : Value), BindsTo s fd ⟨[u], []⟩ [(x, u)]) (hv : ∃ S, F [.scr (ns.map D.int)] S0 = .ok (.bl true) S) :
    codeAny (model Pg w) callerA (.call (.ref fa) ⟨[.ref a], []⟩) (fun r s' => r = .ok (.ret (.bool true)) ∧ OldK s₁.heap s'.heap ∧ s'.os = s₁.os ∧ AllBare s'.gens) s₁ := by
  have rel := vals_ints hiv
  have len := hiv.length
  -- with an abstract heap that tracks the script at most
  have key : ∀ H : Hp, Only H → Scr K H a (ns.map V.int) → HOk Pg w H s₁.heap → (∀ b, H b ≠ none → b = a) → (H a ≠ none → K.lookup a = none) →
      codeAny (model Pg w) callerA (.call (.ref fa) ⟨[.ref a], []⟩) (fun r s' => r = .ok (.ret (.bool true)) ∧ OldK s₁.heap s'.heap ∧ s'.os = s₁.os ∧ AllBare s'.gens) s₁ := by
    intro H only scr hok ta ka
    have apart : ∀ {b : Addr} {o : Obj} {es : Array DictEntry} {ep : Nat}, s₁.heap.get? b = some o → o.data = .dict es ep → H b = none := by
      intro b o es ep e d
      by_cases hn : H b = none
      · exact hn
      · have eb := ta b hn
        subst eb
        rw [la] at e
        cases e
        cases d
    have keepNs : ∀ {b : Addr} {m : Str → Option Value}, s₁.heap.Ns b m → (hidT s₁.heap H).Ns b m := by
      intro b m hm
      obtain ⟨o, es, ep, e, d, r⟩ := hm
      exact ⟨o, es, ep, hidT_get e (apart e d), d, r⟩
    have kin' : K.In (hidT s₁.heap H) := by
      intro b o e
      refine hidT_get (kin b o e) ?_
      by_cases hn : H b = none
      · exact hn
      · have eb := ta b hn
        subst eb
        rw [ka hn] at e
        cases e
    obtain ⟨mc, l1, l2⟩ := lim
    have md : Mod K mg (hidT s₁.heap H) := ⟨kin', keepNs gns, ⟨mb, keepNs bns, boot⟩, ⟨mc, keepNs l1, l2⟩⟩
    have e0 : Env0 Pg w K mg (hidT s₁.heap H) callerA [] s₁ H := ⟨rfl, md, fun b o e => of_hidT e, Nat.le_of_eq (hidT_size _ _), trivial, fun b hb => (by cases hb), hok, .of_eq gens⟩
    obtain ⟨S', hS'⟩ := hv
    have sp : SpF K [x].length F [.ref a] H (fun v _ => v = .bl true) := by
      refine ⟨fun _ => 0, S0, [.scr (ns.map D.int)], S0_rel K H _, rels_one (rel_scr.mpr ⟨a, _, rfl, scr, ints_rel ns⟩), rfl, ?_⟩
      rw [hS']
      exact fun ρ' H' v f r => rel_bl.mp r
    refine codeAny_mono ((hF _ kin' (keepNs gns)).run callerA [] s₁ H ⟨[.ref a], []⟩ [.ref a] [.ref a] _ hr rfl e0 (hbind s₁ (.ref a)) (.cons rfl .nil) sp) fun r s' h => ?_
    cases r with
    | error e => exact h.elim
    | ok fl =>
      cases fl with
      | next => exact h.elim
      | brk => exact h.elim
      | cont => exact h.elim
      | ret u =>
        obtain ⟨v, H', os, bare, un, hok', rv, ev⟩ := h
        have ev' : v = .bl true := ev
        subst ev'
        have eu : u = Value.bool true := rv
        subst eu
        refine ⟨rfl, OldK.of_keep (fun b o e => ?_), os, bare⟩
        rcases only b with hn | ⟨ob, xs, hn⟩
        · exact un.keep b o e hn (by intro z; cases z) (by intro z; cases z)
        · have a1 := hok b _ hn
          have a2 := hok' b _ (un.frzs b ob _ hn)
          have z1 := a1.1
          rw [e] at z1
          cases z1
          exact a2.1
  by_cases hk : K.lookup a = none
  · refine key (fun b => if b = a then some (.frz { cls := .type "list", data := .seq vs.toArray } (.lst (ns.map V.int))) else none) ?_ (Or.inl ⟨_, if_pos rfl⟩) ?_ ?_ (fun _ => hk)
    · intro b
      by_cases hb : b = a
      · exact Or.inr ⟨_, _, if_pos hb⟩
      · exact Or.inl (if_neg hb)
    · intro b u z
      by_cases hb : b = a
      · have z' := (if_pos hb).symm.trans z
        cases z'
        subst hb
        exact ⟨la, by rw [List.length_map]; exact hl, vs, _, rel, la⟩
      · have z' := (if_neg hb).symm.trans z
        cases z'
    · intro b z
      by_cases hb : b = a
      · exact hb
      · exact absurd (if_neg hb) z
  · cases hk' : K.lookup a with
    | none => exact absurd hk' hk
    | some o =>
      have e := kin a o hk'
      rw [la] at e
      cases e
      refine key (fun _ => none) (fun _ => Or.inl rfl) (Or.inr ⟨_, vs.toArray, _, hk', rfl, rfl, rfl, ?_, by simpa using rel⟩) (fun b u z => by cases z) (fun b z => absurd rfl z) (fun z => absurd rfl z)
      rw [List.size_toArray, len]
      exact hl
/-- the walk of a law from its facts -/
theorem walk_law {l : PySem.W.OpenLaw} {n k : Nat} {q : Program} {loose : List Str} {XP : (Str → Option Value) → Heap → Prop} {YP : World → Heap → Prop} {d : DefRec} {x : Str} (hn : l.most = some n) (hn2 : n ≤ sizeLine) (hdf : d.params.defaults = []) (hr : Room k callerA)
    (hF : ∀ (w : World) (mg : Str → Option Value) (fa : Addr) (h : Heap), YP w h → h.Ns mainGlobals mg → mg d.name = some (.ref fa) →
      ∃ (K : PySem.W.Frag) (fd : FuncData) (F : FD), K.In h ∧ (∀ (s : Shared) (u : Value), BindsTo s fd ⟨[u], []⟩ [(x, u)]) ∧ (∀ ns : List Int, ns.length ≤ n → ∃ S, F [.scr (ns.map D.int)] S0 = .ok (.bl true) S) ∧
        ∀ base : Heap, K.In base → base.Ns mainGlobals mg → FnG l.prog w K mg base k fa fd [x] F) : PySem.W.WalkO q loose XP YP l.row.toRowW d [] (fun f vs => PySem.call f vs) := by
  apply Att.attach_call hn hdf
  intro w s₀ s₁ mg mb fa o pm cd doc a vs ns G Y ho hd hcd hmg hobj hints hlen hg
  obtain ⟨K, fd, F, kin, hb, hv, hfn⟩ := hF w mg fa _ Y G.T.g hmg
  exact law_run kin G.T.g G.T.b G.T.builtins G.T.nolimit hg hobj hints (Nat.le_trans hlen hn2) hr hfn hb (hv ns hlen)
end Ev

namespace Lw
open PySem PySem.Spec PyProof.Rows L2 Ev
def top (i : Nat) : Stmt := PySem.Challenge.pw_leastapart_k17_whole_fractions_reckoned.main.body.getD i (.Pass ⟨0, 0, 0, 0⟩)
abbrev N0 : List Str := ["thing"]
abbrev p0 : List Str := ["thing"]
def d0 : He.DefD := ⟨("is_integer", none), "is_integer", "is_integer", defArgs (top 1), defBody (top 1), defScope (top 1), [], []⟩
/-- is_integer -/
def b0 (call : Nat → FD) : SF := sCons (sRet (eAnd (eB (isiD) (aCons (eVar 0) (aCons (eC (.ty .int)) aNil))) (eNot (eB (isiD) (aCons (eVar 0) (aCons (eC (.ty .bl)) aNil)))))) (sNil)
abbrev N1 : List Str := ["thing", "many"]
abbrev p1 : List Str := ["thing", "many"]
def d1 : He.DefD := ⟨("is_tuple_of", none), "is_tuple_of", "is_tuple_of", defArgs (top 2), defBody (top 2), defScope (top 2), [], []⟩
/-- is_tuple_of -/
def b1 (call : Nat → FD) : SF := sCons (sRet (eAnd (eB (isiD) (aCons (eVar 0) (aCons (eC (.ty .tup)) aNil))) (eOp eqD (eB (oneR lenD) (aCons (eVar 0) aNil)) (eVar 1)))) (sNil)
abbrev N2 : List Str := ["thing"]
abbrev p2 : List Str := ["thing"]
def d2 : He.DefD := ⟨("is_pair", none), "is_pair", "is_pair", defArgs (top 3), defBody (top 3), defScope (top 3), [], []⟩
/-- is_pair -/
def b2 (call : Nat → FD) : SF := sCons (sRet (eCall (call 1) [.pos 0, .pos 1] 2 0 (aCons (eVar 0) (aCons (eC (.int 2)) aNil)) (aNil))) (sNil)
abbrev N3 : List Str := ["one", "other"]
abbrev p3 : List Str := ["one", "other"]
def d3 : He.DefD := ⟨("divisor_of_kinds", none), "divisor_of", "divisor_of", defArgs (top 4), defBody (top 4), defScope (top 4), [], []⟩
/-- divisor_of -/
def b3 (call : Nat → FD) : SF := sCons (whileR (bCmp (eOp neD (eVar 1) (eC (.int 0)))) (sCons (sPar 0 1 (aCons (eVar 1) (aCons (eOp modD (eVar 0) (eVar 1)) aNil))) (sNil)) 100000) (sCons (sRet (eVar 0)) (sNil))
abbrev N4 : List Str := ["thing"]
abbrev p4 : List Str := ["thing"]
def d4 : He.DefD := ⟨("is_fraction", none), "is_fraction", "is_fraction", defArgs (top 6), defBody (top 6), defScope (top 6), [], []⟩
/-- is_fraction -/
def b4 (call : Nat → FD) : SF := sCons (sIf (bOr (bNot (bTru (eCall (call 2) [.pos 0] 1 0 (aCons (eVar 0) aNil) (aNil)))) (bOr (bNot (bTru (eCall (call 0) [.pos 0] 1 0 (aCons (eOp ixD (eVar 0) (eC (.int 0))) aNil) (aNil)))) (bOr (bNot (bTru (eCall (call 0) [.pos 0] 1 0 (aCons (eOp ixD (eVar 0) (eC (.int 1))) aNil) (aNil)))) (bCmp (eOp ltD (eOp ixD (eVar 0) (eC (.int 1))) (eC (.int 1))))))) (sCons (sRet (eC (.bl false))) (sNil)) (sNil)) (sCons (sRet (eOp eqD (eCall (call 3) [.pos 0, .pos 1] 2 0 (aCons (eB (oneR absD) (aCons (eOp ixD (eVar 0) (eC (.int 0))) aNil)) (aCons (eOp ixD (eVar 0) (eC (.int 1))) aNil)) (aNil)) (eC (.int 1)))) (sNil))
abbrev N5 : List Str := ["one", "other"]
abbrev p5 : List Str := ["one", "other"]
def d5 : He.DefD := ⟨("divisor_of_sumwork", none), "divisor_of", "divisor_of", defArgs (top 8), defBody (top 8), defScope (top 8), [], []⟩
/-- divisor_of -/
def b5 (call : Nat → FD) : SF := sCons (sPar 0 1 (aCons (eB (oneR absD) (aCons (eVar 0) aNil)) (aCons (eB (oneR absD) (aCons (eVar 1) aNil)) aNil))) (sCons (whileR (bCmp (eOp neD (eVar 1) (eC (.int 0)))) (sCons (sPar 0 1 (aCons (eVar 1) (aCons (eOp modD (eVar 0) (eVar 1)) aNil))) (sNil)) 100000) (sCons (sRet (eVar 0)) (sNil)))
abbrev N6 : List Str := ["top", "bottom", "part"]
abbrev p6 : List Str := ["top", "bottom"]
def d6 : He.DefD := ⟨("made", none), "made", "made", defArgs (top 10), defBody (top 10), defScope (top 10), [], []⟩
/-- made -/
def b6 (call : Nat → FD) : SF := sCons (sAsg (eCall (call 5) [.pos 0, .pos 1] 2 0 (aCons (eVar 0) (aCons (eVar 1) aNil)) (aNil)) (gSet 2)) (sCons (sRet (eIf (bCmp (eOp gtD (eVar 1) (eC (.int 0)))) (eTup (aCons (eOp fdivD (eVar 0) (eVar 2)) (aCons (eOp fdivD (eVar 1) (eVar 2)) aNil))) (eTup (aCons (eOp fdivD (eUn negD (eVar 0)) (eVar 2)) (aCons (eOp fdivD (eUn negD (eVar 1)) (eVar 2)) aNil))))) (sNil))
abbrev N7 : List Str := ["one", "other"]
abbrev p7 : List Str := ["one", "other"]
def d7 : He.DefD := ⟨("added", none), "added", "added", defArgs (top 11), defBody (top 11), defScope (top 11), [], []⟩
/-- added -/
def b7 (call : Nat → FD) : SF := sCons (sRet (eCall (call 6) [.pos 0, .pos 1] 2 0 (aCons (eOp addD (eOp mulD (eOp ixD (eVar 0) (eC (.int 0))) (eOp ixD (eVar 1) (eC (.int 1)))) (eOp mulD (eOp ixD (eVar 1) (eC (.int 0))) (eOp ixD (eVar 0) (eC (.int 1))))) (aCons (eOp mulD (eOp ixD (eVar 0) (eC (.int 1))) (eOp ixD (eVar 1) (eC (.int 1)))) aNil)) (aNil))) (sNil)
abbrev N8 : List Str := ["one", "other"]
abbrev p8 : List Str := ["one", "other"]
def d8 : He.DefD := ⟨("lessened", none), "lessened", "lessened", defArgs (top 12), defBody (top 12), defScope (top 12), [], []⟩
/-- lessened -/
def b8 (call : Nat → FD) : SF := sCons (sRet (eCall (call 6) [.pos 0, .pos 1] 2 0 (aCons (eOp subD (eOp mulD (eOp ixD (eVar 0) (eC (.int 0))) (eOp ixD (eVar 1) (eC (.int 1)))) (eOp mulD (eOp ixD (eVar 1) (eC (.int 0))) (eOp ixD (eVar 0) (eC (.int 1))))) (aCons (eOp mulD (eOp ixD (eVar 0) (eC (.int 1))) (eOp ixD (eVar 1) (eC (.int 1)))) aNil)) (aNil))) (sNil)
abbrev N9 : List Str := ["one", "other"]
abbrev p9 : List Str := ["one", "other"]
def d9 : He.DefD := ⟨("multiplied", none), "multiplied", "multiplied", defArgs (top 13), defBody (top 13), defScope (top 13), [], []⟩
/-- multiplied -/
def b9 (call : Nat → FD) : SF := sCons (sRet (eCall (call 6) [.pos 0, .pos 1] 2 0 (aCons (eOp mulD (eOp ixD (eVar 0) (eC (.int 0))) (eOp ixD (eVar 1) (eC (.int 0)))) (aCons (eOp mulD (eOp ixD (eVar 0) (eC (.int 1))) (eOp ixD (eVar 1) (eC (.int 1)))) aNil)) (aNil))) (sNil)
abbrev N10 : List Str := ["one", "other"]
abbrev p10 : List Str := ["one", "other"]
def d10 : He.DefD := ⟨("divided", none), "divided", "divided", defArgs (top 14), defBody (top 14), defScope (top 14), [], []⟩
/-- divided -/
def b10 (call : Nat → FD) : SF := sCons (sRet (eCall (call 6) [.pos 0, .pos 1] 2 0 (aCons (eOp mulD (eOp ixD (eVar 0) (eC (.int 0))) (eOp ixD (eVar 1) (eC (.int 1)))) (aCons (eOp mulD (eOp ixD (eVar 0) (eC (.int 1))) (eOp ixD (eVar 1) (eC (.int 0)))) aNil)) (aNil))) (sNil)
abbrev N11 : List Str := ["one", "other", "left", "right"]
abbrev p11 : List Str := ["one", "other"]
def d11 : He.DefD := ⟨("side_of", none), "side_of", "side_of", defArgs (top 15), defBody (top 15), defScope (top 15), [], []⟩
/-- side_of -/
def b11 (call : Nat → FD) : SF := sCons (sPar 2 3 (aCons (eOp mulD (eOp ixD (eVar 0) (eC (.int 0))) (eOp ixD (eVar 1) (eC (.int 1)))) (aCons (eOp mulD (eOp ixD (eVar 1) (eC (.int 0))) (eOp ixD (eVar 0) (eC (.int 1)))) aNil))) (sCons (sRet (eOp subD (eB (oneR intD) (aCons (eOp gtD (eVar 2) (eVar 3)) aNil)) (eB (oneR intD) (aCons (eOp ltD (eVar 2) (eVar 3)) aNil)))) (sNil))
abbrev N12 : List Str := ["is_right", "word", "at"]
abbrev p12 : List Str := ["is_right", "word", "at"]
def d12 : He.DefD := ⟨("want", none), "want", "want", defArgs (top 21), defBody (top 21), defScope (top 21), [.int (-1)], []⟩
/-- want -/
def b12 (call : Nat → FD) : SF := sCons (sIf (bNot (bTru (eVar 0))) (sNo) (sNil)) (sNil)
abbrev N13 : List Str := ["one", "other"]
abbrev p13 : List Str := ["one", "other"]
def d13 : He.DefD := ⟨("want_two", none), "want_two", "want_two", defArgs (top 23), defBody (top 23), defScope (top 23), [], []⟩
/-- want_two -/
def b13 (call : Nat → FD) : SF := sCons (sExpr (eCall (call 12) [.pos 0, .pos 1, .dv 0 (.int (-1))] 2 0 (aCons (eCall (call 4) [.pos 0] 1 0 (aCons (eVar 0) aNil) (aNil)) (aCons (eC (.str "one")) aNil)) (aNil))) (sCons (sExpr (eCall (call 12) [.pos 0, .pos 1, .dv 0 (.int (-1))] 2 0 (aCons (eCall (call 4) [.pos 0] 1 0 (aCons (eVar 1) aNil) (aNil)) (aCons (eC (.str "other")) aNil)) (aNil))) (sNil))
abbrev N14 : List Str := ["top", "bottom"]
abbrev p14 : List Str := ["top", "bottom"]
def d14 : He.DefD := ⟨("fraction", none), "fraction", "fraction", defArgs (top 24), defBody (top 24), defScope (top 24), [], []⟩
/-- fraction -/
def b14 (call : Nat → FD) : SF := sCons (sExpr (eCall (call 12) [.pos 0, .pos 1, .dv 0 (.int (-1))] 2 0 (aCons (eCall (call 0) [.pos 0] 1 0 (aCons (eVar 0) aNil) (aNil)) (aCons (eC (.str "top")) aNil)) (aNil))) (sCons (sExpr (eCall (call 12) [.pos 0, .pos 1, .dv 0 (.int (-1))] 2 0 (aCons (eAnd (eCall (call 0) [.pos 0] 1 0 (aCons (eVar 1) aNil) (aNil)) (eOp neD (eVar 1) (eC (.int 0)))) (aCons (eC (.str "bottom")) aNil)) (aNil))) (sCons (sRet (eCall (call 6) [.pos 0, .pos 1] 2 0 (aCons (eVar 0) (aCons (eVar 1) aNil)) (aNil))) (sNil)))
abbrev N15 : List Str := ["one", "other"]
abbrev p15 : List Str := ["one", "other"]
def d15 : He.DefD := ⟨("plus", none), "plus", "plus", defArgs (top 25), defBody (top 25), defScope (top 25), [], []⟩
/-- plus -/
def b15 (call : Nat → FD) : SF := sCons (sExpr (eCall (call 13) [.pos 0, .pos 1] 2 0 (aCons (eVar 0) (aCons (eVar 1) aNil)) (aNil))) (sCons (sRet (eCall (call 7) [.pos 0, .pos 1] 2 0 (aCons (eVar 0) (aCons (eVar 1) aNil)) (aNil))) (sNil))
abbrev N16 : List Str := ["one", "other"]
abbrev p16 : List Str := ["one", "other"]
def d16 : He.DefD := ⟨("less", none), "less", "less", defArgs (top 26), defBody (top 26), defScope (top 26), [], []⟩
/-- less -/
def b16 (call : Nat → FD) : SF := sCons (sExpr (eCall (call 13) [.pos 0, .pos 1] 2 0 (aCons (eVar 0) (aCons (eVar 1) aNil)) (aNil))) (sCons (sRet (eCall (call 8) [.pos 0, .pos 1] 2 0 (aCons (eVar 0) (aCons (eVar 1) aNil)) (aNil))) (sNil))
abbrev N17 : List Str := ["one", "other"]
abbrev p17 : List Str := ["one", "other"]
def d17 : He.DefD := ⟨("times", none), "times", "times", defArgs (top 27), defBody (top 27), defScope (top 27), [], []⟩
/-- times -/
def b17 (call : Nat → FD) : SF := sCons (sExpr (eCall (call 13) [.pos 0, .pos 1] 2 0 (aCons (eVar 0) (aCons (eVar 1) aNil)) (aNil))) (sCons (sRet (eCall (call 9) [.pos 0, .pos 1] 2 0 (aCons (eVar 0) (aCons (eVar 1) aNil)) (aNil))) (sNil))
abbrev N18 : List Str := ["one", "other"]
abbrev p18 : List Str := ["one", "other"]
def d18 : He.DefD := ⟨("over", none), "over", "over", defArgs (top 28), defBody (top 28), defScope (top 28), [], []⟩
/-- over -/
def b18 (call : Nat → FD) : SF := sCons (sExpr (eCall (call 13) [.pos 0, .pos 1] 2 0 (aCons (eVar 0) (aCons (eVar 1) aNil)) (aNil))) (sCons (sExpr (eCall (call 12) [.pos 0, .pos 1, .dv 0 (.int (-1))] 2 0 (aCons (eOp neD (eOp ixD (eVar 1) (eC (.int 0))) (eC (.int 0))) (aCons (eC (.str "other")) aNil)) (aNil))) (sCons (sRet (eCall (call 10) [.pos 0, .pos 1] 2 0 (aCons (eVar 0) (aCons (eVar 1) aNil)) (aNil))) (sNil)))
abbrev N19 : List Str := ["one", "other"]
abbrev p19 : List Str := ["one", "other"]
def d19 : He.DefD := ⟨("compared", none), "compared", "compared", defArgs (top 29), defBody (top 29), defScope (top 29), [], []⟩
/-- compared -/
def b19 (call : Nat → FD) : SF := sCons (sExpr (eCall (call 13) [.pos 0, .pos 1] 2 0 (aCons (eVar 0) (aCons (eVar 1) aNil)) (aNil))) (sCons (sRet (eCall (call 11) [.pos 0, .pos 1] 2 0 (aCons (eVar 0) (aCons (eVar 1) aNil)) (aNil))) (sNil))
abbrev N20 : List Str := ["_law_script", "_law_cell"]
abbrev p20 : List Str := ["_law_script"]
def d20 : He.DefD := ⟨("_law_begun", none), "_law_begun", "_law_begun", defArgs (top 31), defBody (top 31), defScope (top 31), [], []⟩
/-- _law_begun -/
def b20 (call : Nat → FD) : SF := sCons (sRet (eDisp [(eC (.str "cells"), eLc 100000 (iOf (eSlc (eVar 0) (oNone) (oSome (eC (.int 63))))) (gSet 1) (bTrue) (eB (oneR intD) (aCons (eVar 1) aNil)) [1]), (eC (.str "spot"), eC (.int 0)), (eC (.str "rest"), eC (.int 0)), (eC (.str "turn"), eC (.int 0))])) (sNil)
abbrev N21 : List Str := ["_law_feed", "_law_bound", "_law_cell", "_law_mixed", "_law_figure", "_law_cells", "_law_spot"]
abbrev p21 : List Str := ["_law_feed", "_law_bound"]
def d21 : He.DefD := ⟨("_law_draw", none), "_law_draw", "_law_draw", defArgs (top 32), defBody (top 32), defScope (top 32), [], []⟩
/-- _law_draw -/
def b21 (call : Nat → FD) : SF := sCons (sDPut (eVar 0) (eC (.str "turn")) (eOp addD (eOp ixD (eVar 0) (eC (.str "turn"))) (eC (.int 1)))) (sCons (sIf (bCmp (eOp gtD (eOp ixD (eVar 0) (eC (.str "rest"))) (eC (.int 0)))) (sCons (sAsg (eOp modD (eB (oneR intD) (aCons (eOp ixD (eVar 0) (eC (.str "rest"))) aNil)) (eVar 1)) (gSet 4)) (sCons (sDPut (eVar 0) (eC (.str "rest")) (eOp fdivD (eOp ixD (eVar 0) (eC (.str "rest"))) (eVar 1))) (sCons (sRet (eVar 4)) (sNil)))) (sNil)) (sCons (sPar 5 6 (aCons (eOp ixD (eVar 0) (eC (.str "cells"))) (aCons (eOp ixD (eVar 0) (eC (.str "spot"))) aNil))) (sCons (sDPut (eVar 0) (eC (.str "spot")) (eOp addD (eVar 6) (eC (.int 1)))) (sCons (sAsg (eIf (bCmp (eOp neD (eVar 5) (eLst (aNil)))) (eOp ixD (eVar 5) (eOp modD (eB (oneR intD) (aCons (eVar 6) aNil)) (eB (oneR lenD) (aCons (eVar 5) aNil)))) (eC (.int 31240))) (gSet 2)) (sCons (sIf (bAnd (bCmp (eOp geD (eVar 2) (eOp powD (eC (.int 10)) (eC (.int 18))))) (bCmp (eOp ltD (eVar 6) (eB (oneR lenD) (aCons (eVar 5) aNil))))) (sCons (sDPut (eVar 0) (eC (.str "rest")) (eOp fdivD (eVar 2) (eVar 1))) (sCons (sRet (eOp modD (eB (oneR intD) (aCons (eVar 2) aNil)) (eVar 1))) (sNil))) (sNil)) (sCons (sAsg (eOp modD (eB (oneR intD) (aCons (eOp addD (eOp addD (eOp modD (eB (oneR intD) (aCons (eVar 2) aNil)) (eC (.int 1999998327))) (eOp mulD (eC (.int 42310)) (eOp ixD (eVar 0) (eC (.str "turn"))))) (eC (.int 1702))) aNil)) (eC (.int 2147483629))) (gSet 3)) (sCons (sAsg (eOp modD (eB (oneR intD) (aCons (eOp addD (eOp addD (eOp mulD (eVar 3) (eVar 3)) (eOp mulD (eOp mulD (eC (.int 22800)) (eOp ixD (eVar 0) (eC (.str "turn")))) (eOp ixD (eVar 0) (eC (.str "turn"))))) (eC (.int 5514))) aNil)) (eC (.int 2147483579))) (gSet 3)) (sCons (sRet (eOp modD (eB (oneR intD) (aCons (eOp fdivD (eOp modD (eB (oneR intD) (aCons (eOp addD (eOp mulD (eVar 3) (eVar 3)) (eOp mulD (eC (.int 1520)) (eVar 3))) aNil)) (eC (.int 2147483549))) (eC (.int 32))) aNil)) (eVar 1))) (sNil)))))))))
abbrev N22 : List Str := ["_law_feed", "_law_some_here"]
abbrev p22 : List Str := ["_law_feed", "_law_some_here"]
def d22 : He.DefD := ⟨("_law_pick", none), "_law_pick", "_law_pick", defArgs (top 33), defBody (top 33), defScope (top 33), [], []⟩
/-- _law_pick -/
def b22 (call : Nat → FD) : SF := sCons (sRet (eOp ixD (eVar 1) (eCall (call 21) [.pos 0, .pos 1] 2 0 (aCons (eVar 0) (aCons (eB (oneR lenD) (aCons (eVar 1) aNil)) aNil)) (aNil)))) (sNil)
abbrev N23 : List Str := ["_law_told", "_law_due"]
abbrev p23 : List Str := ["_law_told", "_law_due"]
def d23 : He.DefD := ⟨("_law_same", none), "_law_same", "_law_same", defArgs (top 34), defBody (top 34), defScope (top 34), [], []⟩
/-- _law_same -/
def b23 (call : Nat → FD) : SF := sCons (sRet (eOp eqD (eB (oneR reprD) (aCons (eVar 0) aNil)) (eB (oneR reprD) (aCons (eVar 1) aNil)))) (sNil)
abbrev N24 : List Str := ["_law_up", "_law_low", "_law_sign", "_law_first", "_law_last"]
abbrev p24 : List Str := ["_law_up", "_law_low"]
def d24 : He.DefD := ⟨("_law_frac", none), "_law_frac", "_law_frac", defArgs (top 35), defBody (top 35), defScope (top 35), [], []⟩
/-- _law_frac -/
def b24 (call : Nat → FD) : SF := sCons (sPar 3 4 (aCons (eB (oneR absD) (aCons (eB (oneR intD) (aCons (eVar 0) aNil)) aNil)) (aCons (eB (oneR absD) (aCons (eB (oneR intD) (aCons (eVar 1) aNil)) aNil)) aNil))) (sCons (whileR (bCmp (eOp gtD (eVar 4) (eC (.int 0)))) (sCons (sPar 3 4 (aCons (eVar 4) (aCons (eOp modD (eB (oneR intD) (aCons (eVar 3) aNil)) (eB (oneR intD) (aCons (eVar 4) aNil))) aNil))) (sNil)) 100000) (sCons (sAsg (eIf (bCmp (eOp gtD (eVar 1) (eC (.int 0)))) (eC (.int 1)) (eUn negD (eC (.int 1)))) (gSet 2)) (sCons (sRet (eTup (aCons (eOp fdivD (eOp mulD (eVar 2) (eVar 0)) (eVar 3)) (aCons (eOp fdivD (eOp mulD (eVar 2) (eVar 1)) (eVar 3)) aNil)))) (sNil))))
abbrev N25 : List Str := ["_law_feed", "_law_way", "_law_up", "_law_low"]
abbrev p25 : List Str := ["_law_feed"]
def d25 : He.DefD := ⟨("_law_some", none), "_law_some", "_law_some", defArgs (top 36), defBody (top 36), defScope (top 36), [], []⟩
/-- _law_some -/
def b25 (call : Nat → FD) : SF := sCons (sAsg (eCall (call 21) [.pos 0, .pos 1] 2 0 (aCons (eVar 0) (aCons (eC (.int 6)) aNil)) (aNil)) (gSet 1)) (sCons (sPar 2 3 (aCons (eOp subD (eCall (call 21) [.pos 0, .pos 1] 2 0 (aCons (eVar 0) (aCons (eC (.int 41)) aNil)) (aNil)) (eC (.int 20))) (aCons (eOp addD (eC (.int 1)) (eCall (call 21) [.pos 0, .pos 1] 2 0 (aCons (eVar 0) (aCons (eC (.int 12)) aNil)) (aNil))) aNil))) (sCons (sIf (bCmp (eOp eqD (eVar 1) (eC (.int 0)))) (sCons (sPar 2 3 (aCons (eOp subD (eCall (call 21) [.pos 0, .pos 1] 2 0 (aCons (eVar 0) (aCons (eC (.int 9)) aNil)) (aNil)) (eC (.int 4))) (aCons (eC (.int 1)) aNil))) (sNil)) (sNil)) (sCons (sIf (bCmp (eOp eqD (eVar 1) (eC (.int 1)))) (sCons (sAsg (eOp addD (eOp mulD (eVar 2) (eOp powD (eC (.int 10)) (eC (.int 9)))) (eCall (call 21) [.pos 0, .pos 1] 2 0 (aCons (eVar 0) (aCons (eC (.int 1000)) aNil)) (aNil))) (gSet 2)) (sCons (sAsg (eOp addD (eOp mulD (eVar 3) (eOp powD (eC (.int 10)) (eC (.int 8)))) (eCall (call 21) [.pos 0, .pos 1] 2 0 (aCons (eVar 0) (aCons (eC (.int 1000)) aNil)) (aNil))) (gSet 3)) (sNil))) (sNil)) (sCons (sIf (bCmp (eOp eqD (eVar 1) (eC (.int 2)))) (sCons (sAsg (eOp addD (eOp powD (eC (.int 10)) (eC (.int 20))) (eCall (call 21) [.pos 0, .pos 1] 2 0 (aCons (eVar 0) (aCons (eC (.int 1000)) aNil)) (aNil))) (gSet 3)) (sCons (sAsg (eOp subD (eOp addD (eOp mulD (eVar 3) (eOp subD (eCall (call 21) [.pos 0, .pos 1] 2 0 (aCons (eVar 0) (aCons (eC (.int 5)) aNil)) (aNil)) (eC (.int 2)))) (eCall (call 21) [.pos 0, .pos 1] 2 0 (aCons (eVar 0) (aCons (eC (.int 3)) aNil)) (aNil))) (eC (.int 1))) (gSet 2)) (sNil))) (sNil)) (sCons (sRet (eCall (call 24) [.pos 0, .pos 1] 2 0 (aCons (eVar 2) (aCons (eVar 3) aNil)) (aNil))) (sNil))))))
abbrev N26 : List Str := ["_law_first", "_law_last", "_law_told", "_law_sign", "_law_due", "_law_late", "_law_a", "_law_b", "_law_c", "_law_d"]
abbrev p26 : List Str := ["_law_first", "_law_last"]
def d26 : He.DefD := ⟨("_law_is_right", none), "_law_is_right", "_law_is_right", defArgs (top 37), defBody (top 37), defScope (top 37), [], []⟩
/-- _law_is_right -/
def b26 (call : Nat → FD) : SF := sCons (sAsg (eVar 0) (gTupD 2 (gsCons (gSet 6) (gsCons (gSet 7) (gsNil))))) (sCons (sAsg (eVar 1) (gTupD 2 (gsCons (gSet 8) (gsCons (gSet 9) (gsNil))))) (sCons (sAsg (eLst (aCons (eCall (call 15) [.pos 0, .pos 1] 2 0 (aCons (eVar 0) (aCons (eVar 1) aNil)) (aNil)) (aCons (eCall (call 16) [.pos 0, .pos 1] 2 0 (aCons (eVar 0) (aCons (eVar 1) aNil)) (aNil)) (aCons (eCall (call 17) [.pos 0, .pos 1] 2 0 (aCons (eVar 0) (aCons (eVar 1) aNil)) (aNil)) aNil)))) (gSet 2)) (sCons (sAsg (eOp addD (eVar 2) (eLst (aCons (eCall (call 19) [.pos 0, .pos 1] 2 0 (aCons (eVar 0) (aCons (eVar 1) aNil)) (aNil)) (aCons (eCall (call 19) [.pos 0, .pos 1] 2 0 (aCons (eVar 1) (aCons (eVar 0) aNil)) (aNil)) aNil)))) (gSet 2)) (sCons (sAsg (eOp subD (eB (oneR intD) (aCons (eOp gtD (eOp mulD (eVar 6) (eVar 9)) (eOp mulD (eVar 8) (eVar 7))) aNil)) (eB (oneR intD) (aCons (eOp ltD (eOp mulD (eVar 6) (eVar 9)) (eOp mulD (eVar 8) (eVar 7))) aNil))) (gSet 3)) (sCons (sAsg (eLst (aCons (eCall (call 24) [.pos 0, .pos 1] 2 0 (aCons (eOp addD (eOp mulD (eVar 6) (eVar 9)) (eOp mulD (eVar 8) (eVar 7))) (aCons (eOp mulD (eVar 7) (eVar 9)) aNil)) (aNil)) (aCons (eCall (call 24) [.pos 0, .pos 1] 2 0 (aCons (eOp subD (eOp mulD (eVar 6) (eVar 9)) (eOp mulD (eVar 8) (eVar 7))) (aCons (eOp mulD (eVar 7) (eVar 9)) aNil)) (aNil)) aNil))) (gSet 4)) (sCons (sAsg (eOp addD (eVar 4) (eLst (aCons (eCall (call 24) [.pos 0, .pos 1] 2 0 (aCons (eOp mulD (eVar 6) (eVar 8)) (aCons (eOp mulD (eVar 7) (eVar 9)) aNil)) (aNil)) (aCons (eVar 3) (aCons (eUn negD (eVar 3)) aNil))))) (gSet 4)) (sCons (sIf (bNot (bTru (eCall (call 23) [.pos 0, .pos 1] 2 0 (aCons (eVar 2) (aCons (eVar 4) aNil)) (aNil)))) (sCons (sRet (eC (.bl false))) (sNil)) (sNil)) (sCons (sAsg (eLst (aCons (eCall (call 16) [.pos 0, .pos 1] 2 0 (aCons (eOp ixD (eVar 2) (eC (.int 0))) (aCons (eVar 1) aNil)) (aNil)) (aCons (eCall (call 15) [.pos 0, .pos 1] 2 0 (aCons (eOp ixD (eVar 2) (eC (.int 1))) (aCons (eVar 1) aNil)) (aNil)) (aCons (eCall (call 19) [.pos 0, .pos 1] 2 0 (aCons (eOp ixD (eVar 2) (eC (.int 1))) (aCons (eTup (aCons (eC (.int 0)) (aCons (eC (.int 1)) aNil))) aNil)) (aNil)) aNil)))) (gSet 5)) (sCons (sIf (bNot (bTru (eCall (call 23) [.pos 0, .pos 1] 2 0 (aCons (eVar 5) (aCons (eLst (aCons (eVar 0) (aCons (eVar 0) (aCons (eVar 3) aNil)))) aNil)) (aNil)))) (sCons (sRet (eC (.bl false))) (sNil)) (sNil)) (sCons (sIf (bCmp (eOp eqD (eVar 8) (eC (.int 0)))) (sCons (sRet (eC (.bl true))) (sNil)) (sNil)) (sCons (sAsg (eCall (call 18) [.pos 0, .pos 1] 2 0 (aCons (eVar 0) (aCons (eVar 1) aNil)) (aNil)) (gSet 5)) (sCons (sRet (eCall (call 23) [.pos 0, .pos 1] 2 0 (aCons (eLst (aCons (eVar 5) (aCons (eCall (call 17) [.pos 0, .pos 1] 2 0 (aCons (eVar 5) (aCons (eVar 1) aNil)) (aNil)) (aCons (eCall (call 19) [.pos 0, .pos 1] 2 0 (aCons (eVar 0) (aCons (eVar 0) aNil)) (aNil)) aNil)))) (aCons (eLst (aCons (eCall (call 24) [.pos 0, .pos 1] 2 0 (aCons (eOp mulD (eVar 6) (eVar 9)) (aCons (eOp mulD (eVar 7) (eVar 8)) aNil)) (aNil)) (aCons (eVar 0) (aCons (eC (.int 0)) aNil)))) aNil)) (aNil))) (sNil)))))))))))))
abbrev N27 : List Str := ["_law_script", "_law_feed", "_law_lap", "_law_kept", "_law_wide", "_law_told", "_law_first", "_law_last", "_law_up", "_law_low", "_law_sign"]
abbrev p27 : List Str := ["_law_script"]
def d27 : He.DefD := ⟨("law", none), "law", "law", defArgs (top 38), defBody (top 38), defScope (top 38), [], []⟩
/-- law -/
def b27 (call : Nat → FD) : SF := sCons (sAsg (eCall (call 20) [.pos 0] 1 0 (aCons (eVar 0) aNil) (aNil)) (gSet 1)) (sCons (sFor 100000 (iRng1' (aCons (eC (.int 12)) aNil)) (gSet 2) (sCons (sPar 6 7 (aCons (eCall (call 25) [.pos 0] 1 0 (aCons (eVar 1) aNil) (aNil)) (aCons (eCall (call 25) [.pos 0] 1 0 (aCons (eVar 1) aNil) (aNil)) aNil))) (sCons (sIf (bCmp (eOp eqD (eCall (call 21) [.pos 0, .pos 1] 2 0 (aCons (eVar 1) (aCons (eC (.int 5)) aNil)) (aNil)) (eC (.int 0)))) (sCons (sAsg (eCall (call 24) [.pos 0, .pos 1] 2 0 (aCons (eOp subD (eOp addD (eOp mulD (eOp ixD (eVar 6) (eC (.int 0))) (eC (.int 7))) (eCall (call 21) [.pos 0, .pos 1] 2 0 (aCons (eVar 1) (aCons (eC (.int 3)) aNil)) (aNil))) (eC (.int 1))) (aCons (eOp mulD (eOp ixD (eVar 6) (eC (.int 1))) (eC (.int 7))) aNil)) (aNil)) (gSet 7)) (sNil)) (sNil)) (sCons (sAsg (eB (oneR reprD) (aCons (eLst (aCons (eVar 6) (aCons (eVar 7) aNil))) aNil)) (gSet 3)) (sCons (sIf (bOr (bNot (bTru (eCall (call 26) [.pos 0, .pos 1] 2 0 (aCons (eVar 6) (aCons (eVar 7) aNil)) (aNil)))) (bCmp (eOp neD (eB (oneR reprD) (aCons (eLst (aCons (eVar 6) (aCons (eVar 7) aNil))) aNil)) (eVar 3)))) (sCons (sRet (eC (.bl false))) (sNil)) (sNil)) (sCons (sPar3 8 9 10 (aCons (eOp subD (eCall (call 21) [.pos 0, .pos 1] 2 0 (aCons (eVar 1) (aCons (eC (.int 2001)) aNil)) (aNil)) (eC (.int 1000))) (aCons (eOp addD (eC (.int 1)) (eCall (call 21) [.pos 0, .pos 1] 2 0 (aCons (eVar 1) (aCons (eC (.int 300)) aNil)) (aNil))) (aCons (eCall (call 22) [.pos 0, .pos 1] 2 0 (aCons (eVar 1) (aCons (eLst (aCons (eC (.int 1)) (aCons (eUn negD (eC (.int 1))) aNil))) aNil)) (aNil)) aNil)))) (sCons (sAsg (eCall (call 22) [.pos 0, .pos 1] 2 0 (aCons (eVar 1) (aCons (eLst (aCons (eC (.int 1)) (aCons (eC (.int 6)) (aCons (eOp powD (eC (.int 10)) (eC (.int 12))) aNil)))) aNil)) (aNil)) (gSet 4)) (sCons (sAsg (eLst (aCons (eCall (call 14) [.pos 0, .pos 1] 2 0 (aCons (eOp mulD (eVar 8) (eVar 4)) (aCons (eOp mulD (eOp mulD (eVar 9) (eVar 4)) (eVar 10)) aNil)) (aNil)) (aCons (eCall (call 14) [.kw 0, .kw 1] 0 2 (aNil) (aCons (eOp mulD (eVar 8) (eVar 4)) (aCons (eOp mulD (eOp mulD (eVar 9) (eVar 4)) (eVar 10)) aNil))) aNil))) (gSet 5)) (sCons (sIf (bNot (bTru (eCall (call 23) [.pos 0, .pos 1] 2 0 (aCons (eVar 5) (aCons (eOp mulD (eLst (aCons (eCall (call 24) [.pos 0, .pos 1] 2 0 (aCons (eVar 8) (aCons (eOp mulD (eVar 9) (eVar 10)) aNil)) (aNil)) aNil)) (eC (.int 2))) aNil)) (aNil)))) (sCons (sRet (eC (.bl false))) (sNil)) (sNil)) (sNil)))))))))) (sCons (sRet (eC (.bl true))) (sNil)))
def tab : List Ev.Row := [⟨"is_tuple_of", 2, [], 1, [.pos 0, .pos 1]⟩,
  ⟨"is_integer", 1, [], 0, [.pos 0]⟩,
  ⟨"is_pair", 1, [], 2, [.pos 0]⟩,
  ⟨"divisor_of_kinds", 2, [], 3, [.pos 0, .pos 1]⟩,
  ⟨"divisor_of_sumwork", 2, [], 5, [.pos 0, .pos 1]⟩,
  ⟨"made", 2, [], 6, [.pos 0, .pos 1]⟩,
  ⟨"want", 2, [], 12, [.pos 0, .pos 1, .dv 0 (.int (-1))]⟩,
  ⟨"is_fraction", 1, [], 4, [.pos 0]⟩,
  ⟨"want_two", 2, [], 13, [.pos 0, .pos 1]⟩,
  ⟨"added", 2, [], 7, [.pos 0, .pos 1]⟩,
  ⟨"lessened", 2, [], 8, [.pos 0, .pos 1]⟩,
  ⟨"multiplied", 2, [], 9, [.pos 0, .pos 1]⟩,
  ⟨"divided", 2, [], 10, [.pos 0, .pos 1]⟩,
  ⟨"side_of", 2, [], 11, [.pos 0, .pos 1]⟩,
  ⟨"_law_draw", 2, [], 21, [.pos 0, .pos 1]⟩,
  ⟨"_law_frac", 2, [], 24, [.pos 0, .pos 1]⟩,
  ⟨"times", 2, [], 17, [.pos 0, .pos 1]⟩,
  ⟨"less", 2, [], 16, [.pos 0, .pos 1]⟩,
  ⟨"plus", 2, [], 15, [.pos 0, .pos 1]⟩,
  ⟨"compared", 2, [], 19, [.pos 0, .pos 1]⟩,
  ⟨"_law_same", 2, [], 23, [.pos 0, .pos 1]⟩,
  ⟨"over", 2, [], 18, [.pos 0, .pos 1]⟩,
  ⟨"_law_begun", 1, [], 20, [.pos 0]⟩,
  ⟨"_law_some", 1, [], 25, [.pos 0]⟩,
  ⟨"_law_is_right", 2, [], 26, [.pos 0, .pos 1]⟩,
  ⟨"_law_pick", 2, [], 22, [.pos 0, .pos 1]⟩,
  ⟨"fraction", 0, ["top", "bottom"], 14, [.kw 0, .kw 1]⟩,
  ⟨"fraction", 2, [], 14, [.pos 0, .pos 1]⟩]
def prg : Prg := ⟨tab, [], ["isinstance", "bool", "int", "len", "tuple", "abs", "repr", "range"], fun _ => false, 100000⟩
def dfs : List Dfn := [⟨d0, N0, p0⟩, ⟨d1, N1, p1⟩, ⟨d2, N2, p2⟩, ⟨d3, N3, p3⟩, ⟨d4, N4, p4⟩, ⟨d5, N5, p5⟩, ⟨d6, N6, p6⟩, ⟨d7, N7, p7⟩, ⟨d8, N8, p8⟩, ⟨d9, N9, p9⟩, ⟨d10, N10, p10⟩, ⟨d11, N11, p11⟩, ⟨d12, N12, p12⟩, ⟨d13, N13, p13⟩, ⟨d14, N14, p14⟩, ⟨d15, N15, p15⟩, ⟨d16, N16, p16⟩, ⟨d17, N17, p17⟩, ⟨d18, N18, p18⟩, ⟨d19, N19, p19⟩, ⟨d20, N20, p20⟩, ⟨d21, N21, p21⟩, ⟨d22, N22, p22⟩, ⟨d23, N23, p23⟩, ⟨d24, N24, p24⟩, ⟨d25, N25, p25⟩, ⟨d26, N26, p26⟩, ⟨d27, N27, p27⟩]
def fns (call : Nat → FD) : List FD := [fnOfS 1 (b0 call), fnOfS 2 (b1 call), fnOfS 1 (b2 call), fnOfS 2 (b3 call), fnOfS 1 (b4 call), fnOfS 2 (b5 call), fnOfS 3 (b6 call), fnOfS 2 (b7 call), fnOfS 2 (b8 call), fnOfS 2 (b9 call), fnOfS 2 (b10 call), fnOfS 4 (b11 call), fnOfS 3 (b12 call), fnOfS 2 (b13 call), fnOfS 2 (b14 call), fnOfS 2 (b15 call), fnOfS 2 (b16 call), fnOfS 2 (b17 call), fnOfS 2 (b18 call), fnOfS 2 (b19 call), fnOfS 2 (b20 call), fnOfS 7 (b21 call), fnOfS 2 (b22 call), fnOfS 2 (b23 call), fnOfS 5 (b24 call), fnOfS 4 (b25 call), fnOfS 10 (b26 call), fnOfS 11 (b27 call)]
def fn (i : Nat) (call : Nat → FD) : FD := match (fns call)[i]? with
  | some f => f
  | none => noF
theorem cb0 (call : Nat → FD) : cBody (prg.ctx N0 call) d0.scope d0.body = some (b0 call) := by kernel_rfl
theorem sc0 : FnScope N0 p0 d0.scope := ⟨rfl, rfl, rfl, by decide +kernel, rfl, by decide +kernel, by decide +kernel⟩
theorem cb1 (call : Nat → FD) : cBody (prg.ctx N1 call) d1.scope d1.body = some (b1 call) := by kernel_rfl
theorem sc1 : FnScope N1 p1 d1.scope := ⟨rfl, rfl, rfl, by decide +kernel, rfl, by decide +kernel, by decide +kernel⟩
theorem cb2 (call : Nat → FD) : cBody (prg.ctx N2 call) d2.scope d2.body = some (b2 call) := by kernel_rfl
theorem sc2 : FnScope N2 p2 d2.scope := ⟨rfl, rfl, rfl, by decide +kernel, rfl, by decide +kernel, by decide +kernel⟩
theorem cb3 (call : Nat → FD) : cBody (prg.ctx N3 call) d3.scope d3.body = some (b3 call) := by kernel_rfl
theorem sc3 : FnScope N3 p3 d3.scope := ⟨rfl, rfl, rfl, by decide +kernel, rfl, by decide +kernel, by decide +kernel⟩
theorem cb4 (call : Nat → FD) : cBody (prg.ctx N4 call) d4.scope d4.body = some (b4 call) := by kernel_rfl
theorem sc4 : FnScope N4 p4 d4.scope := ⟨rfl, rfl, rfl, by decide +kernel, rfl, by decide +kernel, by decide +kernel⟩
theorem cb5 (call : Nat → FD) : cBody (prg.ctx N5 call) d5.scope d5.body = some (b5 call) := by kernel_rfl
theorem sc5 : FnScope N5 p5 d5.scope := ⟨rfl, rfl, rfl, by decide +kernel, rfl, by decide +kernel, by decide +kernel⟩
theorem cb6 (call : Nat → FD) : cBody (prg.ctx N6 call) d6.scope d6.body = some (b6 call) := by kernel_rfl
theorem sc6 : FnScope N6 p6 d6.scope := ⟨rfl, rfl, rfl, by decide +kernel, rfl, by decide +kernel, by decide +kernel⟩
theorem cb7 (call : Nat → FD) : cBody (prg.ctx N7 call) d7.scope d7.body = some (b7 call) := by kernel_rfl
theorem sc7 : FnScope N7 p7 d7.scope := ⟨rfl, rfl, rfl, by decide +kernel, rfl, by decide +kernel, by decide +kernel⟩
theorem cb8 (call : Nat → FD) : cBody (prg.ctx N8 call) d8.scope d8.body = some (b8 call) := by kernel_rfl
theorem sc8 : FnScope N8 p8 d8.scope := ⟨rfl, rfl, rfl, by decide +kernel, rfl, by decide +kernel, by decide +kernel⟩
theorem cb9 (call : Nat → FD) : cBody (prg.ctx N9 call) d9.scope d9.body = some (b9 call) := by kernel_rfl
theorem sc9 : FnScope N9 p9 d9.scope := ⟨rfl, rfl, rfl, by decide +kernel, rfl, by decide +kernel, by decide +kernel⟩
theorem cb10 (call : Nat → FD) : cBody (prg.ctx N10 call) d10.scope d10.body = some (b10 call) := by kernel_rfl
theorem sc10 : FnScope N10 p10 d10.scope := ⟨rfl, rfl, rfl, by decide +kernel, rfl, by decide +kernel, by decide +kernel⟩
theorem cb11 (call : Nat → FD) : cBody (prg.ctx N11 call) d11.scope d11.body = some (b11 call) := by kernel_rfl
theorem sc11 : FnScope N11 p11 d11.scope := ⟨rfl, rfl, rfl, by decide +kernel, rfl, by decide +kernel, by decide +kernel⟩
theorem cb12 (call : Nat → FD) : cBody (prg.ctx N12 call) d12.scope d12.body = some (b12 call) := by kernel_rfl
theorem sc12 : FnScope N12 p12 d12.scope := ⟨rfl, rfl, rfl, by decide +kernel, rfl, by decide +kernel, by decide +kernel⟩
theorem cb13 (call : Nat → FD) : cBody (prg.ctx N13 call) d13.scope d13.body = some (b13 call) := by kernel_rfl
theorem sc13 : FnScope N13 p13 d13.scope := ⟨rfl, rfl, rfl, by decide +kernel, rfl, by decide +kernel, by decide +kernel⟩
theorem cb14 (call : Nat → FD) : cBody (prg.ctx N14 call) d14.scope d14.body = some (b14 call) := by kernel_rfl
theorem sc14 : FnScope N14 p14 d14.scope := ⟨rfl, rfl, rfl, by decide +kernel, rfl, by decide +kernel, by decide +kernel⟩
theorem cb15 (call : Nat → FD) : cBody (prg.ctx N15 call) d15.scope d15.body = some (b15 call) := by kernel_rfl
theorem sc15 : FnScope N15 p15 d15.scope := ⟨rfl, rfl, rfl, by decide +kernel, rfl, by decide +kernel, by decide +kernel⟩
theorem cb16 (call : Nat → FD) : cBody (prg.ctx N16 call) d16.scope d16.body = some (b16 call) := by kernel_rfl
theorem sc16 : FnScope N16 p16 d16.scope := ⟨rfl, rfl, rfl, by decide +kernel, rfl, by decide +kernel, by decide +kernel⟩
theorem cb17 (call : Nat → FD) : cBody (prg.ctx N17 call) d17.scope d17.body = some (b17 call) := by kernel_rfl
theorem sc17 : FnScope N17 p17 d17.scope := ⟨rfl, rfl, rfl, by decide +kernel, rfl, by decide +kernel, by decide +kernel⟩
theorem cb18 (call : Nat → FD) : cBody (prg.ctx N18 call) d18.scope d18.body = some (b18 call) := by kernel_rfl
theorem sc18 : FnScope N18 p18 d18.scope := ⟨rfl, rfl, rfl, by decide +kernel, rfl, by decide +kernel, by decide +kernel⟩
theorem cb19 (call : Nat → FD) : cBody (prg.ctx N19 call) d19.scope d19.body = some (b19 call) := by kernel_rfl
theorem sc19 : FnScope N19 p19 d19.scope := ⟨rfl, rfl, rfl, by decide +kernel, rfl, by decide +kernel, by decide +kernel⟩
theorem cb20 (call : Nat → FD) : cBody (prg.ctx N20 call) d20.scope d20.body = some (b20 call) := by kernel_rfl
theorem sc20 : FnScope N20 p20 d20.scope := ⟨rfl, rfl, rfl, by decide +kernel, rfl, by decide +kernel, by decide +kernel⟩
theorem cb21 (call : Nat → FD) : cBody (prg.ctx N21 call) d21.scope d21.body = some (b21 call) := by kernel_rfl
theorem sc21 : FnScope N21 p21 d21.scope := ⟨rfl, rfl, rfl, by decide +kernel, rfl, by decide +kernel, by decide +kernel⟩
theorem cb22 (call : Nat → FD) : cBody (prg.ctx N22 call) d22.scope d22.body = some (b22 call) := by kernel_rfl
theorem sc22 : FnScope N22 p22 d22.scope := ⟨rfl, rfl, rfl, by decide +kernel, rfl, by decide +kernel, by decide +kernel⟩
theorem cb23 (call : Nat → FD) : cBody (prg.ctx N23 call) d23.scope d23.body = some (b23 call) := by kernel_rfl
theorem sc23 : FnScope N23 p23 d23.scope := ⟨rfl, rfl, rfl, by decide +kernel, rfl, by decide +kernel, by decide +kernel⟩
theorem cb24 (call : Nat → FD) : cBody (prg.ctx N24 call) d24.scope d24.body = some (b24 call) := by kernel_rfl
theorem sc24 : FnScope N24 p24 d24.scope := ⟨rfl, rfl, rfl, by decide +kernel, rfl, by decide +kernel, by decide +kernel⟩
theorem cb25 (call : Nat → FD) : cBody (prg.ctx N25 call) d25.scope d25.body = some (b25 call) := by kernel_rfl
theorem sc25 : FnScope N25 p25 d25.scope := ⟨rfl, rfl, rfl, by decide +kernel, rfl, by decide +kernel, by decide +kernel⟩
theorem cb26 (call : Nat → FD) : cBody (prg.ctx N26 call) d26.scope d26.body = some (b26 call) := by kernel_rfl
theorem sc26 : FnScope N26 p26 d26.scope := ⟨rfl, rfl, rfl, by decide +kernel, rfl, by decide +kernel, by decide +kernel⟩
theorem cb27 (call : Nat → FD) : cBody (prg.ctx N27 call) d27.scope d27.body = some (b27 call) := by kernel_rfl
theorem sc27 : FnScope N27 p27 d27.scope := ⟨rfl, rfl, rfl, by decide +kernel, rfl, by decide +kernel, by decide +kernel⟩
def fa : List He.Fa := [.glo "is_tuple_of", .glo "is_integer", .glo "is_pair", .glo "divisor_of_kinds", .glo "divisor_of_sumwork", .glo "made", .glo "want", .glo "is_fraction", .glo "want_two", .glo "added", .glo "lessened", .glo "multiplied", .glo "divided", .glo "side_of", .glo "_law_draw", .glo "_law_frac", .glo "times", .glo "less", .glo "plus", .glo "compared", .glo "_law_same", .glo "over", .glo "_law_begun", .glo "_law_some", .glo "_law_is_right", .glo "_law_pick", .glo "fraction", .glo "law", .free "isinstance", .free "bool", .free "int", .free "len", .free "tuple", .free "abs", .free "repr", .free "range"]
def fnl : List He.DefD := [d0, d1, d2, d3, d4, d5, d6, d7, d8, d9, d10, d11, d12, d13, d14, d15, d16, d17, d18, d19, d20, d21, d22, d23, d24, d25, d26, d27]
theorem scs : ∀ (i : Nat) (d : Dfn), dfs[i]? = some d → FnScope d.N d.ps d.d.scope
  | 0, _, rfl => sc0
  | 1, _, rfl => sc1
  | 2, _, rfl => sc2
  | 3, _, rfl => sc3
  | 4, _, rfl => sc4
  | 5, _, rfl => sc5
  | 6, _, rfl => sc6
  | 7, _, rfl => sc7
  | 8, _, rfl => sc8
  | 9, _, rfl => sc9
  | 10, _, rfl => sc10
  | 11, _, rfl => sc11
  | 12, _, rfl => sc12
  | 13, _, rfl => sc13
  | 14, _, rfl => sc14
  | 15, _, rfl => sc15
  | 16, _, rfl => sc16
  | 17, _, rfl => sc17
  | 18, _, rfl => sc18
  | 19, _, rfl => sc19
  | 20, _, rfl => sc20
  | 21, _, rfl => sc21
  | 22, _, rfl => sc22
  | 23, _, rfl => sc23
  | 24, _, rfl => sc24
  | 25, _, rfl => sc25
  | 26, _, rfl => sc26
  | 27, _, rfl => sc27
  | _ + 28, _, h => by cases h
theorem hbs : ∀ (i : Nat) (d : Dfn) (call : Nat → FD), dfs[i]? = some d → ∃ g, cBody (prg.ctx d.N call) d.d.scope d.d.body = some g ∧ fn i call = fnOfS d.N.length g
  | 0, _, call, rfl => ⟨b0 call, cb0 call, rfl⟩
  | 1, _, call, rfl => ⟨b1 call, cb1 call, rfl⟩
  | 2, _, call, rfl => ⟨b2 call, cb2 call, rfl⟩
  | 3, _, call, rfl => ⟨b3 call, cb3 call, rfl⟩
  | 4, _, call, rfl => ⟨b4 call, cb4 call, rfl⟩
  | 5, _, call, rfl => ⟨b5 call, cb5 call, rfl⟩
  | 6, _, call, rfl => ⟨b6 call, cb6 call, rfl⟩
  | 7, _, call, rfl => ⟨b7 call, cb7 call, rfl⟩
  | 8, _, call, rfl => ⟨b8 call, cb8 call, rfl⟩
  | 9, _, call, rfl => ⟨b9 call, cb9 call, rfl⟩
  | 10, _, call, rfl => ⟨b10 call, cb10 call, rfl⟩
  | 11, _, call, rfl => ⟨b11 call, cb11 call, rfl⟩
  | 12, _, call, rfl => ⟨b12 call, cb12 call, rfl⟩
  | 13, _, call, rfl => ⟨b13 call, cb13 call, rfl⟩
  | 14, _, call, rfl => ⟨b14 call, cb14 call, rfl⟩
  | 15, _, call, rfl => ⟨b15 call, cb15 call, rfl⟩
  | 16, _, call, rfl => ⟨b16 call, cb16 call, rfl⟩
  | 17, _, call, rfl => ⟨b17 call, cb17 call, rfl⟩
  | 18, _, call, rfl => ⟨b18 call, cb18 call, rfl⟩
  | 19, _, call, rfl => ⟨b19 call, cb19 call, rfl⟩
  | 20, _, call, rfl => ⟨b20 call, cb20 call, rfl⟩
  | 21, _, call, rfl => ⟨b21 call, cb21 call, rfl⟩
  | 22, _, call, rfl => ⟨b22 call, cb22 call, rfl⟩
  | 23, _, call, rfl => ⟨b23 call, cb23 call, rfl⟩
  | 24, _, call, rfl => ⟨b24 call, cb24 call, rfl⟩
  | 25, _, call, rfl => ⟨b25 call, cb25 call, rfl⟩
  | 26, _, call, rfl => ⟨b26 call, cb26 call, rfl⟩
  | 27, _, call, rfl => ⟨b27 call, cb27 call, rfl⟩
  | _ + 28, _, _, h => by cases h
section
variable {K : PySem.W.Frag} {h : Heap} {mg : Str → Option Value}
theorem dff (c : He.SaysD fa fnl K) (i : Nat) (d : Dfn) (h : dfs[i]? = some d) : ∃ fd, FunD K d.d.name d.d.qual d.d.params d.d.body d.d.scope (d.d.dvs K) (d.d.kws K) (He.fAd K d.d.at_) fd := by
  have e : fnl = dfs.map Dfn.d := rfl
  exact c.def_ i (by rw [e, List.getElem?_map, h]; rfl)
abbrev RowOk (K : PySem.W.Frag) (mg : Str → Option Value) (r : Ev.Row) : Prop := ∃ d, dfs[r.f]? = some d ∧ mg r.name = some (.ref (He.fAd K d.d.at_)) ∧ KB K (fdAt K (He.fAd K d.d.at_)) d.ps r.n r.ks r.arr ∧ r.arr.length = d.ps.length ∧ arrOk r.arr = true ∧ (r.name == ("__debug__" : Str)) = false
theorem row0 (X : K.In h) (G : h.Ns mainGlobals mg) (c : He.SaysD fa fnl K) : RowOk K mg ⟨"is_tuple_of", 2, [], 1, [.pos 0, .pos 1]⟩ :=
  ⟨⟨d1, N1, p1⟩, rfl, He.glo_ok X G (says_fact c 0 rfl), kbAt0 (dff c 1 _ rfl) trivial (fun kV doc pm an cdv ct us ws h1 h2 => match us, ws, h1, h2 with | [_, _], [], _, _ => rfl), rfl, rfl, by decide +kernel⟩
theorem row1 (X : K.In h) (G : h.Ns mainGlobals mg) (c : He.SaysD fa fnl K) : RowOk K mg ⟨"is_integer", 1, [], 0, [.pos 0]⟩ :=
  ⟨⟨d0, N0, p0⟩, rfl, He.glo_ok X G (says_fact c 1 rfl), kbAt0 (dff c 0 _ rfl) trivial (fun kV doc pm an cdv ct us ws h1 h2 => match us, ws, h1, h2 with | [_], [], _, _ => rfl), rfl, rfl, by decide +kernel⟩
theorem row2 (X : K.In h) (G : h.Ns mainGlobals mg) (c : He.SaysD fa fnl K) : RowOk K mg ⟨"is_pair", 1, [], 2, [.pos 0]⟩ :=
  ⟨⟨d2, N2, p2⟩, rfl, He.glo_ok X G (says_fact c 2 rfl), kbAt0 (dff c 2 _ rfl) trivial (fun kV doc pm an cdv ct us ws h1 h2 => match us, ws, h1, h2 with | [_], [], _, _ => rfl), rfl, rfl, by decide +kernel⟩
theorem row3 (X : K.In h) (G : h.Ns mainGlobals mg) (c : He.SaysD fa fnl K) : RowOk K mg ⟨"divisor_of_kinds", 2, [], 3, [.pos 0, .pos 1]⟩ :=
  ⟨⟨d3, N3, p3⟩, rfl, He.glo_ok X G (says_fact c 3 rfl), kbAt0 (dff c 3 _ rfl) trivial (fun kV doc pm an cdv ct us ws h1 h2 => match us, ws, h1, h2 with | [_, _], [], _, _ => rfl), rfl, rfl, by decide +kernel⟩
theorem row4 (X : K.In h) (G : h.Ns mainGlobals mg) (c : He.SaysD fa fnl K) : RowOk K mg ⟨"divisor_of_sumwork", 2, [], 5, [.pos 0, .pos 1]⟩ :=
  ⟨⟨d5, N5, p5⟩, rfl, He.glo_ok X G (says_fact c 4 rfl), kbAt0 (dff c 5 _ rfl) trivial (fun kV doc pm an cdv ct us ws h1 h2 => match us, ws, h1, h2 with | [_, _], [], _, _ => rfl), rfl, rfl, by decide +kernel⟩
theorem row5 (X : K.In h) (G : h.Ns mainGlobals mg) (c : He.SaysD fa fnl K) : RowOk K mg ⟨"made", 2, [], 6, [.pos 0, .pos 1]⟩ :=
  ⟨⟨d6, N6, p6⟩, rfl, He.glo_ok X G (says_fact c 5 rfl), kbAt0 (dff c 6 _ rfl) trivial (fun kV doc pm an cdv ct us ws h1 h2 => match us, ws, h1, h2 with | [_, _], [], _, _ => rfl), rfl, rfl, by decide +kernel⟩
theorem row6 (X : K.In h) (G : h.Ns mainGlobals mg) (c : He.SaysD fa fnl K) : RowOk K mg ⟨"want", 2, [], 12, [.pos 0, .pos 1, .dv 0 (.int (-1))]⟩ :=
  ⟨⟨d12, N12, p12⟩, rfl, He.glo_ok X G (says_fact c 6 rfl), kbAt1 (dff c 12 _ rfl) (by intro z; cases z) ⟨rfl, trivial⟩ (fun T kV doc pm an cdv ct us ws its h1 h2 h3 => match us, ws, its, h1, h2, h3 with | [_, _], [], [_], _, _, _ => ⟨_, rfl, rfl⟩), rfl, rfl, by decide +kernel⟩
theorem row7 (X : K.In h) (G : h.Ns mainGlobals mg) (c : He.SaysD fa fnl K) : RowOk K mg ⟨"is_fraction", 1, [], 4, [.pos 0]⟩ :=
  ⟨⟨d4, N4, p4⟩, rfl, He.glo_ok X G (says_fact c 7 rfl), kbAt0 (dff c 4 _ rfl) trivial (fun kV doc pm an cdv ct us ws h1 h2 => match us, ws, h1, h2 with | [_], [], _, _ => rfl), rfl, rfl, by decide +kernel⟩
theorem row8 (X : K.In h) (G : h.Ns mainGlobals mg) (c : He.SaysD fa fnl K) : RowOk K mg ⟨"want_two", 2, [], 13, [.pos 0, .pos 1]⟩ :=
  ⟨⟨d13, N13, p13⟩, rfl, He.glo_ok X G (says_fact c 8 rfl), kbAt0 (dff c 13 _ rfl) trivial (fun kV doc pm an cdv ct us ws h1 h2 => match us, ws, h1, h2 with | [_, _], [], _, _ => rfl), rfl, rfl, by decide +kernel⟩
theorem row9 (X : K.In h) (G : h.Ns mainGlobals mg) (c : He.SaysD fa fnl K) : RowOk K mg ⟨"added", 2, [], 7, [.pos 0, .pos 1]⟩ :=
  ⟨⟨d7, N7, p7⟩, rfl, He.glo_ok X G (says_fact c 9 rfl), kbAt0 (dff c 7 _ rfl) trivial (fun kV doc pm an cdv ct us ws h1 h2 => match us, ws, h1, h2 with | [_, _], [], _, _ => rfl), rfl, rfl, by decide +kernel⟩
theorem row10 (X : K.In h) (G : h.Ns mainGlobals mg) (c : He.SaysD fa fnl K) : RowOk K mg ⟨"lessened", 2, [], 8, [.pos 0, .pos 1]⟩ :=
  ⟨⟨d8, N8, p8⟩, rfl, He.glo_ok X G (says_fact c 10 rfl), kbAt0 (dff c 8 _ rfl) trivial (fun kV doc pm an cdv ct us ws h1 h2 => match us, ws, h1, h2 with | [_, _], [], _, _ => rfl), rfl, rfl, by decide +kernel⟩
theorem row11 (X : K.In h) (G : h.Ns mainGlobals mg) (c : He.SaysD fa fnl K) : RowOk K mg ⟨"multiplied", 2, [], 9, [.pos 0, .pos 1]⟩ :=
  ⟨⟨d9, N9, p9⟩, rfl, He.glo_ok X G (says_fact c 11 rfl), kbAt0 (dff c 9 _ rfl) trivial (fun kV doc pm an cdv ct us ws h1 h2 => match us, ws, h1, h2 with | [_, _], [], _, _ => rfl), rfl, rfl, by decide +kernel⟩
theorem row12 (X : K.In h) (G : h.Ns mainGlobals mg) (c : He.SaysD fa fnl K) : RowOk K mg ⟨"divided", 2, [], 10, [.pos 0, .pos 1]⟩ :=
  ⟨⟨d10, N10, p10⟩, rfl, He.glo_ok X G (says_fact c 12 rfl), kbAt0 (dff c 10 _ rfl) trivial (fun kV doc pm an cdv ct us ws h1 h2 => match us, ws, h1, h2 with | [_, _], [], _, _ => rfl), rfl, rfl, by decide +kernel⟩
theorem row13 (X : K.In h) (G : h.Ns mainGlobals mg) (c : He.SaysD fa fnl K) : RowOk K mg ⟨"side_of", 2, [], 11, [.pos 0, .pos 1]⟩ :=
  ⟨⟨d11, N11, p11⟩, rfl, He.glo_ok X G (says_fact c 13 rfl), kbAt0 (dff c 11 _ rfl) trivial (fun kV doc pm an cdv ct us ws h1 h2 => match us, ws, h1, h2 with | [_, _], [], _, _ => rfl), rfl, rfl, by decide +kernel⟩
theorem row14 (X : K.In h) (G : h.Ns mainGlobals mg) (c : He.SaysD fa fnl K) : RowOk K mg ⟨"_law_draw", 2, [], 21, [.pos 0, .pos 1]⟩ :=
  ⟨⟨d21, N21, p21⟩, rfl, He.glo_ok X G (says_fact c 14 rfl), kbAt0 (dff c 21 _ rfl) trivial (fun kV doc pm an cdv ct us ws h1 h2 => match us, ws, h1, h2 with | [_, _], [], _, _ => rfl), rfl, rfl, by decide +kernel⟩
theorem row15 (X : K.In h) (G : h.Ns mainGlobals mg) (c : He.SaysD fa fnl K) : RowOk K mg ⟨"_law_frac", 2, [], 24, [.pos 0, .pos 1]⟩ :=
  ⟨⟨d24, N24, p24⟩, rfl, He.glo_ok X G (says_fact c 15 rfl), kbAt0 (dff c 24 _ rfl) trivial (fun kV doc pm an cdv ct us ws h1 h2 => match us, ws, h1, h2 with | [_, _], [], _, _ => rfl), rfl, rfl, by decide +kernel⟩
theorem row16 (X : K.In h) (G : h.Ns mainGlobals mg) (c : He.SaysD fa fnl K) : RowOk K mg ⟨"times", 2, [], 17, [.pos 0, .pos 1]⟩ :=
  ⟨⟨d17, N17, p17⟩, rfl, He.glo_ok X G (says_fact c 16 rfl), kbAt0 (dff c 17 _ rfl) trivial (fun kV doc pm an cdv ct us ws h1 h2 => match us, ws, h1, h2 with | [_, _], [], _, _ => rfl), rfl, rfl, by decide +kernel⟩
theorem row17 (X : K.In h) (G : h.Ns mainGlobals mg) (c : He.SaysD fa fnl K) : RowOk K mg ⟨"less", 2, [], 16, [.pos 0, .pos 1]⟩ :=
  ⟨⟨d16, N16, p16⟩, rfl, He.glo_ok X G (says_fact c 17 rfl), kbAt0 (dff c 16 _ rfl) trivial (fun kV doc pm an cdv ct us ws h1 h2 => match us, ws, h1, h2 with | [_, _], [], _, _ => rfl), rfl, rfl, by decide +kernel⟩
theorem row18 (X : K.In h) (G : h.Ns mainGlobals mg) (c : He.SaysD fa fnl K) : RowOk K mg ⟨"plus", 2, [], 15, [.pos 0, .pos 1]⟩ :=
  ⟨⟨d15, N15, p15⟩, rfl, He.glo_ok X G (says_fact c 18 rfl), kbAt0 (dff c 15 _ rfl) trivial (fun kV doc pm an cdv ct us ws h1 h2 => match us, ws, h1, h2 with | [_, _], [], _, _ => rfl), rfl, rfl, by decide +kernel⟩
theorem row19 (X : K.In h) (G : h.Ns mainGlobals mg) (c : He.SaysD fa fnl K) : RowOk K mg ⟨"compared", 2, [], 19, [.pos 0, .pos 1]⟩ :=
  ⟨⟨d19, N19, p19⟩, rfl, He.glo_ok X G (says_fact c 19 rfl), kbAt0 (dff c 19 _ rfl) trivial (fun kV doc pm an cdv ct us ws h1 h2 => match us, ws, h1, h2 with | [_, _], [], _, _ => rfl), rfl, rfl, by decide +kernel⟩
theorem row20 (X : K.In h) (G : h.Ns mainGlobals mg) (c : He.SaysD fa fnl K) : RowOk K mg ⟨"_law_same", 2, [], 23, [.pos 0, .pos 1]⟩ :=
  ⟨⟨d23, N23, p23⟩, rfl, He.glo_ok X G (says_fact c 20 rfl), kbAt0 (dff c 23 _ rfl) trivial (fun kV doc pm an cdv ct us ws h1 h2 => match us, ws, h1, h2 with | [_, _], [], _, _ => rfl), rfl, rfl, by decide +kernel⟩
theorem row21 (X : K.In h) (G : h.Ns mainGlobals mg) (c : He.SaysD fa fnl K) : RowOk K mg ⟨"over", 2, [], 18, [.pos 0, .pos 1]⟩ :=
  ⟨⟨d18, N18, p18⟩, rfl, He.glo_ok X G (says_fact c 21 rfl), kbAt0 (dff c 18 _ rfl) trivial (fun kV doc pm an cdv ct us ws h1 h2 => match us, ws, h1, h2 with | [_, _], [], _, _ => rfl), rfl, rfl, by decide +kernel⟩
theorem row22 (X : K.In h) (G : h.Ns mainGlobals mg) (c : He.SaysD fa fnl K) : RowOk K mg ⟨"_law_begun", 1, [], 20, [.pos 0]⟩ :=
  ⟨⟨d20, N20, p20⟩, rfl, He.glo_ok X G (says_fact c 22 rfl), kbAt0 (dff c 20 _ rfl) trivial (fun kV doc pm an cdv ct us ws h1 h2 => match us, ws, h1, h2 with | [_], [], _, _ => rfl), rfl, rfl, by decide +kernel⟩
theorem row23 (X : K.In h) (G : h.Ns mainGlobals mg) (c : He.SaysD fa fnl K) : RowOk K mg ⟨"_law_some", 1, [], 25, [.pos 0]⟩ :=
  ⟨⟨d25, N25, p25⟩, rfl, He.glo_ok X G (says_fact c 23 rfl), kbAt0 (dff c 25 _ rfl) trivial (fun kV doc pm an cdv ct us ws h1 h2 => match us, ws, h1, h2 with | [_], [], _, _ => rfl), rfl, rfl, by decide +kernel⟩
theorem row24 (X : K.In h) (G : h.Ns mainGlobals mg) (c : He.SaysD fa fnl K) : RowOk K mg ⟨"_law_is_right", 2, [], 26, [.pos 0, .pos 1]⟩ :=
  ⟨⟨d26, N26, p26⟩, rfl, He.glo_ok X G (says_fact c 24 rfl), kbAt0 (dff c 26 _ rfl) trivial (fun kV doc pm an cdv ct us ws h1 h2 => match us, ws, h1, h2 with | [_, _], [], _, _ => rfl), rfl, rfl, by decide +kernel⟩
theorem row25 (X : K.In h) (G : h.Ns mainGlobals mg) (c : He.SaysD fa fnl K) : RowOk K mg ⟨"_law_pick", 2, [], 22, [.pos 0, .pos 1]⟩ :=
  ⟨⟨d22, N22, p22⟩, rfl, He.glo_ok X G (says_fact c 25 rfl), kbAt0 (dff c 22 _ rfl) trivial (fun kV doc pm an cdv ct us ws h1 h2 => match us, ws, h1, h2 with | [_, _], [], _, _ => rfl), rfl, rfl, by decide +kernel⟩
theorem row26 (X : K.In h) (G : h.Ns mainGlobals mg) (c : He.SaysD fa fnl K) : RowOk K mg ⟨"fraction", 0, ["top", "bottom"], 14, [.kw 0, .kw 1]⟩ :=
  ⟨⟨d14, N14, p14⟩, rfl, He.glo_ok X G (says_fact c 26 rfl), kbAt0 (dff c 14 _ rfl) trivial (fun kV doc pm an cdv ct us ws h1 h2 => match us, ws, h1, h2 with | [], [_, _], _, _ => rfl), rfl, rfl, by decide +kernel⟩
theorem row27 (X : K.In h) (G : h.Ns mainGlobals mg) (c : He.SaysD fa fnl K) : RowOk K mg ⟨"fraction", 2, [], 14, [.pos 0, .pos 1]⟩ :=
  ⟨⟨d14, N14, p14⟩, rfl, He.glo_ok X G (says_fact c 26 rfl), kbAt0 (dff c 14 _ rfl) trivial (fun kV doc pm an cdv ct us ws h1 h2 => match us, ws, h1, h2 with | [_, _], [], _, _ => rfl), rfl, rfl, by decide +kernel⟩
theorem rows (X : K.In h) (G : h.Ns mainGlobals mg) (c : He.SaysD fa fnl K) : ∀ r ∈ tab, RowOk K mg r := by
  unfold tab
  exact List.forall_mem_cons.mpr ⟨row0 X G c, List.forall_mem_cons.mpr ⟨row1 X G c, List.forall_mem_cons.mpr ⟨row2 X G c, List.forall_mem_cons.mpr ⟨row3 X G c, List.forall_mem_cons.mpr ⟨row4 X G c, List.forall_mem_cons.mpr ⟨row5 X G c, List.forall_mem_cons.mpr ⟨row6 X G c, List.forall_mem_cons.mpr ⟨row7 X G c, List.forall_mem_cons.mpr ⟨row8 X G c, List.forall_mem_cons.mpr ⟨row9 X G c, List.forall_mem_cons.mpr ⟨row10 X G c, List.forall_mem_cons.mpr ⟨row11 X G c, List.forall_mem_cons.mpr ⟨row12 X G c, List.forall_mem_cons.mpr ⟨row13 X G c, List.forall_mem_cons.mpr ⟨row14 X G c, List.forall_mem_cons.mpr ⟨row15 X G c, List.forall_mem_cons.mpr ⟨row16 X G c, List.forall_mem_cons.mpr ⟨row17 X G c, List.forall_mem_cons.mpr ⟨row18 X G c, List.forall_mem_cons.mpr ⟨row19 X G c, List.forall_mem_cons.mpr ⟨row20 X G c, List.forall_mem_cons.mpr ⟨row21 X G c, List.forall_mem_cons.mpr ⟨row22 X G c, List.forall_mem_cons.mpr ⟨row23 X G c, List.forall_mem_cons.mpr ⟨row24 X G c, List.forall_mem_cons.mpr ⟨row25 X G c, List.forall_mem_cons.mpr ⟨row26 X G c, List.forall_mem_cons.mpr ⟨row27 X G c, fun _ hx => by cases hx⟩⟩⟩⟩⟩⟩⟩⟩⟩⟩⟩⟩⟩⟩⟩⟩⟩⟩⟩⟩⟩⟩⟩⟩⟩⟩⟩⟩
theorem cons (X : K.In h) (G : h.Ns mainGlobals mg) (c : He.SaysD fa fnl K) : ∀ x d, (x, d) ∈ prg.con → cOk d = true ∧ ∃ u, mg x = some u ∧ RelV (cV d) u := by
  intro x d hx
  simp only [prg, List.mem_cons, List.not_mem_nil, or_false, Prod.mk.injEq] at hx
theorem frees (X : K.In h) (G : h.Ns mainGlobals mg) (c : He.SaysD fa fnl K) : ∀ x ∈ prg.free, mg x = none := by
  show ∀ x ∈ [("isinstance" : Str), ("bool" : Str), ("int" : Str), ("len" : Str), ("tuple" : Str), ("abs" : Str), ("repr" : Str), ("range" : Str)], mg x = none
  exact List.forall_mem_cons.mpr ⟨He.free_ok X G (says_fact c 28 rfl), List.forall_mem_cons.mpr ⟨He.free_ok X G (says_fact c 29 rfl), List.forall_mem_cons.mpr ⟨He.free_ok X G (says_fact c 30 rfl), List.forall_mem_cons.mpr ⟨He.free_ok X G (says_fact c 31 rfl), List.forall_mem_cons.mpr ⟨He.free_ok X G (says_fact c 32 rfl), List.forall_mem_cons.mpr ⟨He.free_ok X G (says_fact c 33 rfl), List.forall_mem_cons.mpr ⟨He.free_ok X G (says_fact c 34 rfl), List.forall_mem_cons.mpr ⟨He.free_ok X G (says_fact c 35 rfl), fun _ hx => by cases hx⟩⟩⟩⟩⟩⟩⟩⟩
theorem facts (X : K.In h) (G : h.Ns mainGlobals mg) (c : He.SaysD fa fnl K) : Facts prg dfs K mg := ⟨dff c, scs, rows X G c, cons X G c, frees X G c⟩
end
abbrev R : PySem.W.OpenRow := PySem.W.OpenLaw.row PySem.Challenge.rw_leastapart_k17_whole_fractions_reckoned
abbrev hk : PySem.W.Hook := He.hookD 5 fa fnl
def ob (s : PySem.W.SharedT) : He.AlD := He.obsDG 5 fa fnl (HandSHeadRun.getT s)
theorem ob_eq (s : PySem.W.SharedT) : ob s = hk.obs s.abs := He.obsDG_eq (HandSHeadRun.getT_eq s)
def loose0 : List Str := ["is_integer", "is_tuple_of", "is_pair", "divisor_of", "divisor_of_kinds", "is_fraction", "divisor_of_sumwork", "made", "added", "lessened", "multiplied", "divided", "side_of", "ClockError", "NetError", "NotUsable", "want", "want_two", "fraction", "plus", "less", "times", "over", "compared", "_law_begun", "_law_draw", "_law_pick", "_law_same", "_law_frac", "_law_some"]
def loose1 : List Str := ["_law_is_right"]
def loose : List Str := loose0 ++ loose1
theorem run (w : World) : HandSHeadRun.RunEq R (PySem.W.view R.prog [38]) hk ob 12000 loose w := by
  intro os
  kernel_rfl
def depth : Nat := 24
end Lw

namespace M17
def made (t b : Int) : Int × Int := if 0 < b then (t / (Int.gcd t b : Int), b / (Int.gcd t b : Int)) else (-t / (Int.gcd t b : Int), -b / (Int.gcd t b : Int))
structure Low (p : Int × Int) : Prop where
  pos : 1 ≤ p.2
  cop : Int.gcd p.1 p.2 = 1
theorem dvdc {a b c : Int} (h : a ∣ b * c) (g : Int.gcd a b = 1) : a ∣ c := by
  rw [← Int.natAbs_dvd_natAbs] at h ⊢
  rw [Int.natAbs_mul] at h
  exact Nat.Coprime.dvd_of_dvd_mul_left g h
theorem low_unique {p q : Int × Int} (hp : Low p) (hq : Low q) (h : p.1 * q.2 = q.1 * p.2) : p = q := by
  obtain ⟨x, y⟩ := p
  obtain ⟨u, v⟩ := q
  obtain ⟨h1, h2⟩ := hp
  obtain ⟨h3, h4⟩ := hq
  simp only at h h1 h2 h3 h4
  have d1 : y ∣ v := by
    have : y ∣ x * v := ⟨u, by rw [h]; exact Int.mul_comm _ _⟩
    exact dvdc this (by rw [Int.gcd_comm]; exact h2)
  have d2 : v ∣ y := by
    have : v ∣ u * y := ⟨x, by rw [← h]; exact Int.mul_comm _ _⟩
    exact dvdc this (by rw [Int.gcd_comm]; exact h4)
  have e : y = v := Int.dvd_antisymm (by omega) (by omega) d1 d2
  subst e
  have : x = u := Int.eq_of_mul_eq_mul_right (by omega) h
  rw [this]
theorem made_low {t b : Int} (hb : b ≠ 0) : Low (made t b) ∧ (made t b).1 * b = t * (made t b).2 := by
  have hg : 0 < Int.gcd t b := Int.gcd_pos_of_ne_zero_right _ hb
  have hg' : (0 : Int) < (Int.gcd t b : Int) := by omega
  obtain ⟨x, hx⟩ : (Int.gcd t b : Int) ∣ t := Int.gcd_dvd_left ..
  obtain ⟨y, hy⟩ : (Int.gcd t b : Int) ∣ b := Int.gcd_dvd_right ..
  have hxy : Int.gcd x y = 1 := by
    have h := Int.gcd_mul_left (Int.gcd t b : Int) x y
    rw [← hx, ← hy] at h
    have h2 : ((Int.gcd t b : Int)).natAbs = Int.gcd t b := Int.natAbs_natCast _
    rw [h2] at h
    exact Nat.eq_of_mul_eq_mul_left hg (by rw [← h, Nat.mul_one])
  generalize hG : (Int.gcd t b : Int) = G at *
  have ex : t / G = x := by rw [hx]; exact Int.mul_ediv_cancel_left _ (by omega)
  have ey : b / G = y := by rw [hy]; exact Int.mul_ediv_cancel_left _ (by omega)
  have exn : -t / G = -x := by rw [hx, ← Int.mul_neg]; exact Int.mul_ediv_cancel_left _ (by omega)
  have eyn : -b / G = -y := by rw [hy, ← Int.mul_neg]; exact Int.mul_ediv_cancel_left _ (by omega)
  unfold made
  rw [hG, ex, ey, exn, eyn]
  by_cases h0 : 0 < b
  · rw [if_pos h0]
    have hy0 : 0 < y := by
      rw [hy] at h0
      exact Int.pos_of_mul_pos_right h0 hg'
    refine ⟨⟨by show 1 ≤ y; omega, hxy⟩, ?_⟩
    show x * b = t * y
    rw [hx, hy]
    grind
  · rw [if_neg h0]
    have hy0 : y < 0 := by
      have hb0 : b < 0 := by omega
      rw [hy] at hb0
      by_cases hh : y < 0
      · exact hh
      · have := Int.mul_nonneg (Int.le_of_lt hg') (Int.not_lt.mp hh)
        omega
    refine ⟨⟨by show 1 ≤ -y; omega, by show Int.gcd (-x) (-y) = 1; rw [Int.gcd_neg, Int.neg_gcd]; exact hxy⟩, ?_⟩
    show -x * b = t * -y
    rw [hx, hy]
    grind
/-- the same ratio -/
theorem made_eq {t b : Int} {p : Int × Int} (hb : b ≠ 0) (hp : Low p) (h : t * p.2 = p.1 * b) : made t b = p := by
  obtain ⟨h1, h2⟩ := made_low (t := t) hb
  refine low_unique h1 hp ?_
  have := h1.pos
  have key : ((made t b).1 * p.2) * b = (p.1 * (made t b).2) * b := by grind
  exact Int.eq_of_mul_eq_mul_right hb key
theorem made_self {p : Int × Int} (hp : Low p) : made p.1 p.2 = p := made_eq (by have := hp.pos; omega) hp rfl
def sgn (x y : Int) : Int := (if y < x then 1 else 0) - (if x < y then 1 else 0)
theorem less_plus {a b c d : Int} (h1 : Low (a, b)) (h2 : Low (c, d)) : made ((made (a * d + c * b) (b * d)).1 * d - c * (made (a * d + c * b) (b * d)).2) ((made (a * d + c * b) (b * d)).2 * d) = (a, b) := by
  have p1 := h1.pos
  have p2 := h2.pos
  simp only at p1 p2
  have hbd : b * d ≠ 0 := Int.mul_ne_zero (by omega) (by omega)
  obtain ⟨q1, q2⟩ := made_low (t := a * d + c * b) hbd
  generalize made (a * d + c * b) (b * d) = m at *
  obtain ⟨x, y⟩ := m
  have q3 := q1.pos
  simp only at q2 q3 ⊢
  refine made_eq (Int.mul_ne_zero (by omega) (by omega)) h1 ?_
  show (x * d - c * y) * b = a * (y * d)
  grind
theorem plus_less {a b c d : Int} (h1 : Low (a, b)) (h2 : Low (c, d)) : made ((made (a * d - c * b) (b * d)).1 * d + c * (made (a * d - c * b) (b * d)).2) ((made (a * d - c * b) (b * d)).2 * d) = (a, b) := by
  have p1 := h1.pos
  have p2 := h2.pos
  simp only at p1 p2
  have hbd : b * d ≠ 0 := Int.mul_ne_zero (by omega) (by omega)
  obtain ⟨q1, q2⟩ := made_low (t := a * d - c * b) hbd
  generalize made (a * d - c * b) (b * d) = m at *
  obtain ⟨x, y⟩ := m
  have q3 := q1.pos
  simp only at q2 q3 ⊢
  refine made_eq (Int.mul_ne_zero (by omega) (by omega)) h1 ?_
  show (x * d + c * y) * b = a * (y * d)
  grind
theorem times_over {a b c d : Int} (h1 : Low (a, b)) (h2 : Low (c, d)) (hc : c ≠ 0) : made ((made (a * d) (b * c)).1 * c) ((made (a * d) (b * c)).2 * d) = (a, b) := by
  have p1 := h1.pos
  have p2 := h2.pos
  simp only at p1 p2
  have hbd : b * c ≠ 0 := Int.mul_ne_zero (by omega) hc
  obtain ⟨q1, q2⟩ := made_low (t := a * d) hbd
  generalize made (a * d) (b * c) = m at *
  obtain ⟨x, y⟩ := m
  have q3 := q1.pos
  simp only at q2 q3 ⊢
  refine made_eq (Int.mul_ne_zero (by omega) (by omega)) h1 ?_
  show (x * c) * b = a * (y * d)
  grind
theorem sgn_less {a b c d : Int} (h1 : Low (a, b)) (h2 : Low (c, d)) : sgn ((made (a * d - c * b) (b * d)).1 * 1) (0 * (made (a * d - c * b) (b * d)).2) = sgn (a * d) (c * b) := by
  have p1 := h1.pos
  have p2 := h2.pos
  simp only at p1 p2
  have hbd : 0 < b * d := Int.mul_pos (by omega) (by omega)
  obtain ⟨q1, q2⟩ := made_low (t := a * d - c * b) (by omega : b * d ≠ 0)
  generalize made (a * d - c * b) (b * d) = m at *
  obtain ⟨x, y⟩ := m
  have q3 := q1.pos
  simp only at q2 q3 ⊢
  rw [Int.mul_one, Int.zero_mul]
  generalize a * d = A at *
  generalize c * b = C at *
  generalize b * d = B at *
  have s1 : 0 < x ↔ C < A := by
    constructor
    · intro h
      have := Int.mul_pos h hbd
      rw [q2] at this
      have := Int.pos_of_mul_pos_left this (by omega : (0:Int) < y)
      omega
    · intro h
      have : 0 < (A - C) * y := Int.mul_pos (by omega) (by omega)
      rw [← q2] at this
      exact Int.pos_of_mul_pos_left this hbd
  have s2 : x < 0 ↔ A < C := by
    constructor
    · intro h
      have := Int.mul_pos (show 0 < -x by omega) hbd
      have e : -x * B = (C - A) * y := by grind
      rw [e] at this
      have := Int.pos_of_mul_pos_left this (by omega : (0:Int) < y)
      omega
    · intro h
      have : 0 < (C - A) * y := Int.mul_pos (by omega) (by omega)
      have e : (C - A) * y = (-x) * B := by grind
      rw [e] at this
      have := Int.pos_of_mul_pos_left this hbd
      omega
  unfold sgn
  simp only [s1, s2]
theorem made_scale {u l w : Int} (hl : l ≠ 0) (hw : 0 < w) : made (u * w) (l * w) = made u l := by
  obtain ⟨h1, h2⟩ := made_low (t := u) hl
  refine made_eq (Int.mul_ne_zero hl (by omega)) h1 ?_
  grind
end M17

namespace L17
open PySem Ev Lw

/-! ### sizes -/
def B (k : Nat) (i : Int) : Prop := i.natAbs < 2 ^ k
theorem B.mono {k l : Nat} {i : Int} (h : B k i) (hl : k ≤ l) : B l i := Nat.lt_of_lt_of_le h (Nat.pow_le_pow_right (by omega) hl)
theorem B.mul {k l : Nat} {i j : Int} (h : B k i) (h2 : B l j) : B (k + l) (i * j) := by
  unfold B at *
  rw [Int.natAbs_mul, Nat.pow_add]
  exact Nat.mul_lt_mul'' h h2
theorem B.neg {k : Nat} {i : Int} (h : B k i) : B k (-i) := by unfold B at *; rwa [Int.natAbs_neg]
theorem B.add {k : Nat} {i j : Int} (h : B k i) (h2 : B k j) : B (k + 1) (i + j) := by
  unfold B at *
  have := Int.natAbs_add_le i j
  rw [Nat.pow_succ]
  omega
theorem B.sub {k : Nat} {i j : Int} (h : B k i) (h2 : B k j) : B (k + 1) (i - j) := by
  rw [Int.sub_eq_add_neg]
  exact B.add h h2.neg
theorem B.log {k : Nat} {i : Int} (h : B k i) (hk : 0 < k) : i.natAbs.log2 < k := by
  by_cases h0 : i.natAbs = 0
  · rw [h0]; exact hk
  · exact (Nat.log2_lt h0).mpr h
theorem B.ok {k l : Nat} {i j : Int} (h : B k i) (h2 : B l j) (hk : k + l < 1000000) : mulOk i j = true := by
  unfold mulOk
  have h1 := (h.mono (Nat.le_succ k)).log (by omega)
  have h3 := (h2.mono (Nat.le_succ l)).log (by omega)
  exact decide_eq_true (by omega)
theorem B.le {k : Nat} {i j : Int} (h : B k i) (hl : j.natAbs ≤ i.natAbs) : B k j := Nat.lt_of_le_of_lt hl h
theorem mulD_ok {k l : Nat} {i j : Int} {S : Sto} (h : B k i) (h2 : B l j) (hk : k + l < 1000000) : mulD (.int i) (.int j) S = .ok (.int (i * j)) S := by
  show (bif mulOk i j then _ else _) = _
  rw [h.ok h2 hk]
  rfl
theorem fdivD_ok {i j : Int} {S : Sto} (h : B 8000 j) (hj : 0 < j) : fdivD (.int i) (.int j) S = .ok (.int (i / j)) S := by
  show (bif decide (0 < j) && decide (j.natAbs.log2 < 9000) then _ else _) = _
  rw [decide_eq_true hj, decide_eq_true (Nat.lt_trans (h.log (by omega)) (by omega))]
  rfl

/-! ### Euclid -/
theorem mod_half {a b : Int} (hb : 0 < b) (hm : 0 < a % b) : 2 * (b % (a % b)) < b := by
  have h1 := Int.emod_lt_of_pos a hb
  have h2 := Int.emod_lt_of_pos b hm
  have h3 := Int.emod_nonneg b (Int.ne_of_gt hm)
  have h4 := Int.mul_ediv_add_emod b (a % b)
  have h5 : 1 ≤ b / (a % b) := (Int.le_ediv_iff_mul_le hm).mpr (by omega)
  have h6 : (a % b) * 1 ≤ (a % b) * (b / (a % b)) := Int.mul_le_mul_of_nonneg_left h5 (by omega)
  omega
theorem gcd_step {a b : Int} (ha : 0 ≤ a) (hb : 0 ≤ b) : Int.gcd b (a % b) = Int.gcd a b := by
  obtain ⟨m, rfl⟩ := Int.eq_ofNat_of_zero_le ha
  obtain ⟨n, rfl⟩ := Int.eq_ofNat_of_zero_le hb
  rw [← Int.natCast_emod, Int.gcd_natCast_natCast, Int.gcd_natCast_natCast, Nat.gcd_comm n, Nat.gcd_comm m]
  exact (Nat.gcd_rec n m).symm
theorem euclid {α : Type} {W : Nat → Int → Int → α} {F : Int → α} (h0 : ∀ n a, 0 ≤ a → W (n + 1) a 0 = F a) (h1 : ∀ n a b, 0 ≤ a → 0 < b → W (n + 1) a b = W n b (a % b)) :
    ∀ (k n : Nat) (a b : Int), 0 ≤ a → 0 ≤ b → b < 2 ^ k → 2 * k + 1 ≤ n → W n a b = F (Int.gcd a b)
  | 0, n, a, b, ha, hb, hk, hn => by
    obtain ⟨m, rfl⟩ : ∃ m, n = m + 1 := ⟨n - 1, by omega⟩
    have e : b = 0 := by
      have : (2 : Int) ^ 0 = 1 := rfl
      omega
    subst e
    rw [h0 m a ha, Int.gcd_zero_right, Int.natAbs_of_nonneg ha]
  | k + 1, n, a, b, ha, hb, hk, hn => by
    obtain ⟨m, rfl⟩ : ∃ m, n = m + 1 + 1 := ⟨n - 2, by omega⟩
    by_cases e : b = 0
    · subst e
      rw [h0 _ a ha, Int.gcd_zero_right, Int.natAbs_of_nonneg ha]
    · have hb' : 0 < b := by omega
      rw [h1 _ a b ha hb']
      have hm := Int.emod_nonneg a e
      have g1 : Int.gcd a b = Int.gcd b (a % b) := (gcd_step ha hb).symm
      by_cases e2 : a % b = 0
      · rw [e2] at g1
        rw [e2, h0 _ b hb, g1, Int.gcd_zero_right, Int.natAbs_of_nonneg hb]
      · have hm' : 0 < a % b := by omega
        rw [h1 _ b (a % b) hb hm', g1]
        have hh := mod_half (a := a) hb' hm'
        rw [euclid h0 h1 k m (a % b) (b % (a % b)) hm (Int.emod_nonneg b e2) (by have : (2 : Int) ^ (k + 1) = 2 ^ k * 2 := Int.pow_succ 2 k; omega) (by omega)]
        rw [gcd_step hb hm]
theorem B.lt {k : Nat} {b : Int} (h : B k b) : b < 2 ^ k := by
  unfold B at h
  have e : ((2 ^ k : Nat) : Int) = (2 : Int) ^ k := by push_cast; rfl
  omega
end L17

namespace L17
open PySem Ev Lw
abbrev cl (n : Nat) : Nat → FD := fdN fn n
def fr (p : Int × Int) : D := .tup [.int p.1, .int p.2]
theorem cl_succ (n i : Nat) : cl (n + 1) i = fn i (cl n) := rfl
theorem c0 (n : Nat) : cl (n + 1) 0 = fnOfS 1 (b0 (cl n)) := (cl_succ n 0).trans rfl
theorem c1 (n : Nat) : cl (n + 1) 1 = fnOfS 2 (b1 (cl n)) := (cl_succ n 1).trans rfl
theorem c2 (n : Nat) : cl (n + 1) 2 = fnOfS 1 (b2 (cl n)) := (cl_succ n 2).trans rfl
theorem c3 (n : Nat) : cl (n + 1) 3 = fnOfS 2 (b3 (cl n)) := (cl_succ n 3).trans rfl
theorem c4 (n : Nat) : cl (n + 1) 4 = fnOfS 1 (b4 (cl n)) := (cl_succ n 4).trans rfl
theorem c5 (n : Nat) : cl (n + 1) 5 = fnOfS 2 (b5 (cl n)) := (cl_succ n 5).trans rfl
theorem c6 (n : Nat) : cl (n + 1) 6 = fnOfS 3 (b6 (cl n)) := (cl_succ n 6).trans rfl
theorem c7 (n : Nat) : cl (n + 1) 7 = fnOfS 2 (b7 (cl n)) := (cl_succ n 7).trans rfl
theorem c8 (n : Nat) : cl (n + 1) 8 = fnOfS 2 (b8 (cl n)) := (cl_succ n 8).trans rfl
theorem c9 (n : Nat) : cl (n + 1) 9 = fnOfS 2 (b9 (cl n)) := (cl_succ n 9).trans rfl
theorem c10 (n : Nat) : cl (n + 1) 10 = fnOfS 2 (b10 (cl n)) := (cl_succ n 10).trans rfl
theorem c11 (n : Nat) : cl (n + 1) 11 = fnOfS 4 (b11 (cl n)) := (cl_succ n 11).trans rfl
theorem c12 (n : Nat) : cl (n + 1) 12 = fnOfS 3 (b12 (cl n)) := (cl_succ n 12).trans rfl
theorem c13 (n : Nat) : cl (n + 1) 13 = fnOfS 2 (b13 (cl n)) := (cl_succ n 13).trans rfl
theorem c14 (n : Nat) : cl (n + 1) 14 = fnOfS 2 (b14 (cl n)) := (cl_succ n 14).trans rfl
theorem c15 (n : Nat) : cl (n + 1) 15 = fnOfS 2 (b15 (cl n)) := (cl_succ n 15).trans rfl
theorem c16 (n : Nat) : cl (n + 1) 16 = fnOfS 2 (b16 (cl n)) := (cl_succ n 16).trans rfl
theorem c17 (n : Nat) : cl (n + 1) 17 = fnOfS 2 (b17 (cl n)) := (cl_succ n 17).trans rfl
theorem c18 (n : Nat) : cl (n + 1) 18 = fnOfS 2 (b18 (cl n)) := (cl_succ n 18).trans rfl
theorem c19 (n : Nat) : cl (n + 1) 19 = fnOfS 2 (b19 (cl n)) := (cl_succ n 19).trans rfl
theorem c20 (n : Nat) : cl (n + 1) 20 = fnOfS 2 (b20 (cl n)) := (cl_succ n 20).trans rfl
theorem c21 (n : Nat) : cl (n + 1) 21 = fnOfS 7 (b21 (cl n)) := (cl_succ n 21).trans rfl
theorem c22 (n : Nat) : cl (n + 1) 22 = fnOfS 2 (b22 (cl n)) := (cl_succ n 22).trans rfl
theorem c23 (n : Nat) : cl (n + 1) 23 = fnOfS 2 (b23 (cl n)) := (cl_succ n 23).trans rfl
theorem c24 (n : Nat) : cl (n + 1) 24 = fnOfS 5 (b24 (cl n)) := (cl_succ n 24).trans rfl
theorem c25 (n : Nat) : cl (n + 1) 25 = fnOfS 4 (b25 (cl n)) := (cl_succ n 25).trans rfl
theorem c26 (n : Nat) : cl (n + 1) 26 = fnOfS 10 (b26 (cl n)) := (cl_succ n 26).trans rfl
theorem c27 (n : Nat) : cl (n + 1) 27 = fnOfS 11 (b27 (cl n)) := (cl_succ n 27).trans rfl
theorem ix0 (p : Int × Int) (S : Sto) : ixD (fr p) (.int 0) S = .ok (.int p.1) S := rfl
theorem ix1 (p : Int × Int) (S : Sto) : ixD (fr p) (.int 1) S = .ok (.int p.2) S := rfl
theorem f0 (n : Nat) (i : Int) (S : Sto) : cl (n + 1) 0 [.int i] S = .ok (.bl true) S := by
  rw [c0]
  simp [fnOfS, outOf, sCons, sNil, sRet, sIf, sExpr, sAsg, gSet, sPar, sPar3, sRetN, R.toS, R.bind, eVar, eC, eOp, eUn, eB, oneR, aCons, aNil, eCall, arrD, bCmp, blR, bTru, truR, truB, bNot, bAnd, bOr, eIf, eAnd, eOr, eNot, isiD, kindD, subKd, lenD, tupR, eTup, intD, ltD, gtD, leD, geD, addD, subD, negD, modD, b0]
theorem f1 (n : Nat) (p : Int × Int) (S : Sto) : cl (n + 1) 1 [fr p, .int 2] S = .ok (.bl true) S := by
  rw [c1]
  simp [fnOfS, outOf, sCons, sNil, sRet, sIf, sExpr, sAsg, gSet, sPar, sPar3, sRetN, R.toS, R.bind, eVar, eC, eOp, eUn, eB, oneR, aCons, aNil, eCall, arrD, bCmp, blR, bTru, truR, truB, bNot, bAnd, bOr, eIf, eAnd, eOr, eNot, isiD, kindD, subKd, lenD, tupR, eTup, intD, ltD, gtD, leD, geD, addD, subD, negD, modD, b1, fr, eqD, eqB]
theorem f2 (n : Nat) (p : Int × Int) (S : Sto) : cl (n + 2) 2 [fr p] S = .ok (.bl true) S := by
  rw [c2]
  simp [fnOfS, outOf, sCons, sNil, sRet, sIf, sExpr, sAsg, gSet, sPar, sPar3, sRetN, R.toS, R.bind, eVar, eC, eOp, eUn, eB, oneR, aCons, aNil, eCall, arrD, bCmp, blR, bTru, truR, truB, bNot, bAnd, bOr, eIf, eAnd, eOr, eNot, isiD, kindD, subKd, lenD, tupR, eTup, intD, ltD, gtD, leD, geD, addD, subD, negD, modD, b2, f1]
theorem loop01 (S : Sto) {a b : Int} (n : Nat) (ha : 0 ≤ a) (hb : 0 ≤ b) (hB : B 8000 b) (hn : 16001 ≤ n) :
    whileR (bCmp (eOp neD (eVar 1) (eC (.int 0)))) (sCons (sPar 0 1 (aCons (eVar 1) (aCons (eOp modD (eVar 0) (eVar 1)) aNil))) (sNil)) n [some (.int a), some (.int b)] S = .next [some (.int (Int.gcd a b)), some (.int 0)] S := by
  refine euclid (W := fun n a b => whileR (bCmp (eOp neD (eVar 1) (eC (.int 0)))) (sCons (sPar 0 1 (aCons (eVar 1) (aCons (eOp modD (eVar 0) (eVar 1)) aNil))) (sNil)) n [some (.int a), some (.int b)] S) (F := fun g => .next [some (.int g), some (.int 0)] S) ?_ ?_ 8000 n a b ha hb hB.lt hn
  · intro n a ha
    simp [fnOfS, outOf, sCons, sNil, sRet, sIf, sExpr, sAsg, gSet, sPar, sPar3, sRetN, R.toS, R.bind, eVar, eC, eOp, eUn, eB, oneR, aCons, aNil, eCall, arrD, bCmp, blR, bTru, truR, truB, bNot, bAnd, bOr, eIf, eAnd, eOr, eNot, isiD, kindD, subKd, lenD, tupR, eTup, intD, ltD, gtD, leD, geD, addD, subD, negD, modD, whileR, neD, eqB]
  · intro n a b ha hb
    have hb' : b ≠ 0 := by omega
    simp [fnOfS, outOf, sCons, sNil, sRet, sIf, sExpr, sAsg, gSet, sPar, sPar3, sRetN, R.toS, R.bind, eVar, eC, eOp, eUn, eB, oneR, aCons, aNil, eCall, arrD, bCmp, blR, bTru, truR, truB, bNot, bAnd, bOr, eIf, eAnd, eOr, eNot, isiD, kindD, subKd, lenD, tupR, eTup, intD, ltD, gtD, leD, geD, addD, subD, negD, modD, whileR, neD, eqB, hb, hb']
theorem f3 (n : Nat) {a b : Int} (S : Sto) (ha : 0 ≤ a) (hb : 0 ≤ b) (hB : B 8000 b) : cl (n + 1) 3 [.int a, .int b] S = .ok (.int (Int.gcd a b)) S := by
  rw [c3]
  have h := loop01 S 100000 ha hb hB (by omega)
  simp only [fnOfS, List.map, List.length_cons, List.length_nil, List.replicate, Nat.sub_self, List.append_nil]
  unfold b3
  generalize sCons (sPar 0 1 _) _ = body at h ⊢
  simp [fnOfS, outOf, sCons, sNil, sRet, sIf, sExpr, sAsg, gSet, sPar, sPar3, sRetN, R.toS, R.bind, eVar, eC, eOp, eUn, eB, oneR, aCons, aNil, eCall, arrD, bCmp, blR, bTru, truR, truB, bNot, bAnd, bOr, eIf, eAnd, eOr, eNot, isiD, kindD, subKd, lenD, tupR, eTup, intD, ltD, gtD, leD, geD, addD, subD, negD, modD, h]
theorem absD_eq (i : Int) (S : Sto) : absD (.int i) S = .ok (.int i.natAbs) S := by
  show R.ok (D.int (if i < 0 then -i else i)) S = _
  congr 2
  split <;> omega
theorem eqI (i j : Int) (S : Sto) : eqD (.int i) (.int j) S = .ok (.bl (decide (i = j))) S := rfl
theorem neI (i j : Int) (S : Sto) : neD (.int i) (.int j) S = .ok (.bl (!decide (i = j))) S := rfl
theorem f4 (n : Nat) {p : Int × Int} (S : Sto) (hp : M17.Low p) (hB : B 8000 p.2) : cl (n + 3) 4 [fr p] S = .ok (.bl true) S := by
  have h := hp.pos
  have g := hp.cop
  rw [c4]
  have e : cl (n + 2) 3 [.int (p.1.natAbs : Int), .int p.2] S = .ok (.int 1) S := by
    rw [f3 (n + 1) S (by omega) (by omega) hB]
    have : Int.gcd (p.1.natAbs : Int) p.2 = 1 := by rw [← g]; show Nat.gcd _ _ = Nat.gcd _ _; rw [Int.natAbs_natCast]
    rw [this]
    rfl
  have h' : ¬ p.2 < 1 := by omega
  simp [fnOfS, outOf, sCons, sNil, sRet, sIf, sExpr, sAsg, gSet, sPar, sPar3, sRetN, R.toS, R.bind, eVar, eC, eOp, eUn, eB, oneR, aCons, aNil, eCall, arrD, bCmp, blR, bTru, truR, truB, bNot, bAnd, bOr, eIf, eAnd, eOr, eNot, isiD, kindD, subKd, lenD, tupR, eTup, intD, ltD, gtD, leD, geD, addD, subD, negD, modD, absD_eq, eqI, neI, b4, f2, f0, ix0, ix1, e, h']
theorem f5 (n : Nat) (a b : Int) (S : Sto) (hB : B 8000 b) : cl (n + 1) 5 [.int a, .int b] S = .ok (.int (Int.gcd a b)) S := by
  rw [c5]
  have h := loop01 S 100000 (a := a.natAbs) (b := b.natAbs) (by omega) (by omega) (by unfold B at *; rwa [Int.natAbs_natCast]) (by omega)
  have e : Int.gcd (a.natAbs : Int) (b.natAbs : Int) = Int.gcd a b := by show Nat.gcd _ _ = Nat.gcd _ _; rw [Int.natAbs_natCast, Int.natAbs_natCast]
  rw [e] at h
  simp only [fnOfS, List.map, List.length_cons, List.length_nil, List.replicate, Nat.sub_self, List.append_nil]
  unfold b5
  generalize hb : (sCons (sPar 0 1 (aCons (eVar 1) (aCons (eOp modD (eVar 0) (eVar 1)) aNil))) (sNil)) = body at h ⊢
  simp [fnOfS, outOf, sCons, sNil, sRet, sIf, sExpr, sAsg, gSet, sPar, sPar3, sRetN, R.toS, R.bind, eVar, eC, eOp, eUn, eB, oneR, aCons, aNil, eCall, arrD, bCmp, blR, bTru, truR, truB, bNot, bAnd, bOr, eIf, eAnd, eOr, eNot, isiD, kindD, subKd, lenD, tupR, eTup, intD, ltD, gtD, leD, geD, addD, subD, negD, modD, absD_eq, eqI, neI, h]
theorem gcd_B {k : Nat} {a b : Int} (hb : b ≠ 0) (h : B k b) : B k (Int.gcd a b) := by
  refine h.le ?_
  rw [Int.natAbs_natCast]
  exact Nat.le_of_dvd (by omega) (Nat.gcd_dvd_right _ _)
theorem made_B {k l : Nat} {a b : Int} (hb : b ≠ 0) (ha : B l a) (h : B k b) : B l (M17.made a b).1 ∧ B k (M17.made a b).2 := by
  have h1 : ∀ (x : Int) (g : Nat), (x / (g : Int)).natAbs ≤ x.natAbs := by
    intro x g
    exact Int.natAbs_ediv_le_natAbs _ _
  unfold M17.made
  split
  · exact ⟨ha.le (h1 _ _), h.le (h1 _ _)⟩
  · exact ⟨ha.neg.le (h1 _ _), h.neg.le (h1 _ _)⟩
theorem f6 (n : Nat) (a b : Int) (S : Sto) (hb : b ≠ 0) (hB : B 8000 b) : cl (n + 2) 6 [.int a, .int b] S = .ok (fr (M17.made a b)) S := by
  rw [c6]
  have hg : 0 < (Int.gcd a b : Int) := by have := Int.gcd_pos_of_ne_zero_right a hb; omega
  have hGB := gcd_B (a := a) hb hB
  by_cases h : 0 < b
  · simp [fnOfS, outOf, sCons, sNil, sRet, sIf, sExpr, sAsg, gSet, sPar, sPar3, sRetN, R.toS, R.bind, eVar, eC, eOp, eUn, eB, oneR, aCons, aNil, eCall, arrD, bCmp, blR, bTru, truR, truB, bNot, bAnd, bOr, eIf, eAnd, eOr, eNot, isiD, kindD, subKd, lenD, tupR, eTup, intD, ltD, gtD, leD, geD, addD, subD, negD, modD, absD_eq, eqI, neI, b6, f5 n a b S hB, fdivD_ok hGB hg, h, fr, M17.made, line]
  · simp [fnOfS, outOf, sCons, sNil, sRet, sIf, sExpr, sAsg, gSet, sPar, sPar3, sRetN, R.toS, R.bind, eVar, eC, eOp, eUn, eB, oneR, aCons, aNil, eCall, arrD, bCmp, blR, bTru, truR, truB, bNot, bAnd, bOr, eIf, eAnd, eOr, eNot, isiD, kindD, subKd, lenD, tupR, eTup, intD, ltD, gtD, leD, geD, addD, subD, negD, modD, absD_eq, eqI, neI, b6, f5 n a b S hB, fdivD_ok hGB hg, h, fr, M17.made, line]
end L17

namespace L17
open PySem Ev Lw
/-- a fraction of at most k bits -/
structure Fr (k : Nat) (p : Int × Int) : Prop where
  low : M17.Low p
  b1 : B k p.1
  b2 : B k p.2
theorem Fr.nz {k : Nat} {p : Int × Int} (h : Fr k p) : p.2 ≠ 0 := by have := h.low.pos; omega
theorem mD {i j : Int} {S : Sto} (h : B 2000 i) (h2 : B 2000 j) : mulD (.int i) (.int j) S = .ok (.int (i * j)) S := mulD_ok h h2 (by omega)
def plusF (p q : Int × Int) : Int × Int := M17.made (p.1 * q.2 + q.1 * p.2) (p.2 * q.2)
def lessF (p q : Int × Int) : Int × Int := M17.made (p.1 * q.2 - q.1 * p.2) (p.2 * q.2)
def timesF (p q : Int × Int) : Int × Int := M17.made (p.1 * q.1) (p.2 * q.2)
def overF (p q : Int × Int) : Int × Int := M17.made (p.1 * q.2) (p.2 * q.1)
def cmpF (p q : Int × Int) : Int := M17.sgn (p.1 * q.2) (q.1 * p.2)
section
variable {k l : Nat} {p q : Int × Int} (hp : Fr k p) (hq : Fr l q) (hk : k ≤ 2000) (hl : l ≤ 2000) (n : Nat) (S : Sto)
include hp hq hk hl
theorem nz2 : p.2 * q.2 ≠ 0 := Int.mul_ne_zero hp.nz hq.nz
theorem bb : B 8000 (p.2 * q.2) := (hp.b2.mul hq.b2).mono (by omega)
theorem f7 : cl (n + 3) 7 [fr p, fr q] S = .ok (fr (plusF p q)) S := by
  rw [c7]
  simp [fnOfS, outOf, sCons, sNil, sRet, sIf, sExpr, sAsg, gSet, sPar, sPar3, sRetN, R.toS, R.bind, eVar, eC, eOp, eUn, eB, oneR, aCons, aNil, eCall, arrD, bCmp, blR, bTru, truR, truB, bNot, bAnd, bOr, eIf, eAnd, eOr, eNot, isiD, kindD, subKd, lenD, tupR, eTup, intD, ltD, gtD, leD, geD, addD, subD, negD, modD, absD_eq, eqI, neI, b7, ix0, ix1, mD (hp.b1.mono hk) (hq.b2.mono hl), mD (hq.b1.mono hl) (hp.b2.mono hk), mD (hp.b2.mono hk) (hq.b2.mono hl), f6 n _ _ S (nz2 hp hq hk hl) (bb hp hq hk hl), plusF]
theorem f8 : cl (n + 3) 8 [fr p, fr q] S = .ok (fr (lessF p q)) S := by
  rw [c8]
  simp [fnOfS, outOf, sCons, sNil, sRet, sIf, sExpr, sAsg, gSet, sPar, sPar3, sRetN, R.toS, R.bind, eVar, eC, eOp, eUn, eB, oneR, aCons, aNil, eCall, arrD, bCmp, blR, bTru, truR, truB, bNot, bAnd, bOr, eIf, eAnd, eOr, eNot, isiD, kindD, subKd, lenD, tupR, eTup, intD, ltD, gtD, leD, geD, addD, subD, negD, modD, absD_eq, eqI, neI, b8, ix0, ix1, mD (hp.b1.mono hk) (hq.b2.mono hl), mD (hq.b1.mono hl) (hp.b2.mono hk), mD (hp.b2.mono hk) (hq.b2.mono hl), f6 n _ _ S (nz2 hp hq hk hl) (bb hp hq hk hl), lessF]
theorem f9 : cl (n + 3) 9 [fr p, fr q] S = .ok (fr (timesF p q)) S := by
  rw [c9]
  simp [fnOfS, outOf, sCons, sNil, sRet, sIf, sExpr, sAsg, gSet, sPar, sPar3, sRetN, R.toS, R.bind, eVar, eC, eOp, eUn, eB, oneR, aCons, aNil, eCall, arrD, bCmp, blR, bTru, truR, truB, bNot, bAnd, bOr, eIf, eAnd, eOr, eNot, isiD, kindD, subKd, lenD, tupR, eTup, intD, ltD, gtD, leD, geD, addD, subD, negD, modD, absD_eq, eqI, neI, b9, ix0, ix1, mD (hp.b1.mono hk) (hq.b1.mono hl), mD (hp.b2.mono hk) (hq.b2.mono hl), f6 n _ _ S (nz2 hp hq hk hl) (bb hp hq hk hl), timesF]
theorem f10 (h0 : q.1 ≠ 0) : cl (n + 3) 10 [fr p, fr q] S = .ok (fr (overF p q)) S := by
  rw [c10]
  simp [fnOfS, outOf, sCons, sNil, sRet, sIf, sExpr, sAsg, gSet, sPar, sPar3, sRetN, R.toS, R.bind, eVar, eC, eOp, eUn, eB, oneR, aCons, aNil, eCall, arrD, bCmp, blR, bTru, truR, truB, bNot, bAnd, bOr, eIf, eAnd, eOr, eNot, isiD, kindD, subKd, lenD, tupR, eTup, intD, ltD, gtD, leD, geD, addD, subD, negD, modD, absD_eq, eqI, neI, b10, ix0, ix1, mD (hp.b1.mono hk) (hq.b2.mono hl), mD (hp.b2.mono hk) (hq.b1.mono hl), f6 n _ _ S (Int.mul_ne_zero hp.nz h0) ((hp.b2.mul hq.b1).mono (by omega)), overF]
theorem f11 : cl (n + 1) 11 [fr p, fr q] S = .ok (.int (cmpF p q)) S := by
  rw [c11]
  simp [fnOfS, outOf, sCons, sNil, sRet, sIf, sExpr, sAsg, gSet, sPar, sPar3, sRetN, R.toS, R.bind, eVar, eC, eOp, eUn, eB, oneR, aCons, aNil, eCall, arrD, bCmp, blR, bTru, truR, truB, bNot, bAnd, bOr, eIf, eAnd, eOr, eNot, isiD, kindD, subKd, lenD, tupR, eTup, intD, ltD, gtD, leD, geD, addD, subD, negD, modD, absD_eq, eqI, neI, b11, ix0, ix1, mD (hp.b1.mono hk) (hq.b2.mono hl), mD (hq.b1.mono hl) (hp.b2.mono hk), cmpF, M17.sgn]
omit hp hq hk hl in
theorem f12 (w : Str) (i : Int) : cl (n + 1) 12 [.bl true, .str w, .int i] S = .ok .non S := by
  rw [c12]
  simp [fnOfS, outOf, sCons, sNil, sRet, sIf, sExpr, sAsg, gSet, sPar, sPar3, sRetN, R.toS, R.bind, eVar, eC, eOp, eUn, eB, oneR, aCons, aNil, eCall, arrD, bCmp, blR, bTru, truR, truB, bNot, bAnd, bOr, eIf, eAnd, eOr, eNot, isiD, kindD, subKd, lenD, tupR, eTup, intD, ltD, gtD, leD, geD, addD, subD, negD, modD, absD_eq, eqI, neI, b12]
theorem f13 : cl (n + 4) 13 [fr p, fr q] S = .ok .non S := by
  rw [c13]
  simp [fnOfS, outOf, sCons, sNil, sRet, sIf, sExpr, sAsg, gSet, sPar, sPar3, sRetN, R.toS, R.bind, eVar, eC, eOp, eUn, eB, oneR, aCons, aNil, eCall, arrD, bCmp, blR, bTru, truR, truB, bNot, bAnd, bOr, eIf, eAnd, eOr, eNot, isiD, kindD, subKd, lenD, tupR, eTup, intD, ltD, gtD, leD, geD, addD, subD, negD, modD, absD_eq, eqI, neI, b13, f4 n S hp.low (hp.b2.mono (by omega)), f4 n S hq.low (hq.b2.mono (by omega)), f12]
omit hp hq hk hl in
theorem f14 (a b : Int) (hb : b ≠ 0) (hB : B 8000 b) : cl (n + 3) 14 [.int a, .int b] S = .ok (fr (M17.made a b)) S := by
  rw [c14]
  simp [fnOfS, outOf, sCons, sNil, sRet, sIf, sExpr, sAsg, gSet, sPar, sPar3, sRetN, R.toS, R.bind, eVar, eC, eOp, eUn, eB, oneR, aCons, aNil, eCall, arrD, bCmp, blR, bTru, truR, truB, bNot, bAnd, bOr, eIf, eAnd, eOr, eNot, isiD, kindD, subKd, lenD, tupR, eTup, intD, ltD, gtD, leD, geD, addD, subD, negD, modD, absD_eq, eqI, neI, b14, f0, f12, f6 n a b S hb hB, hb]
theorem f15 : cl (n + 5) 15 [fr p, fr q] S = .ok (fr (plusF p q)) S := by
  rw [c15]
  simp [fnOfS, outOf, sCons, sNil, sRet, sIf, sExpr, sAsg, gSet, sPar, sPar3, sRetN, R.toS, R.bind, eVar, eC, eOp, eUn, eB, oneR, aCons, aNil, eCall, arrD, bCmp, blR, bTru, truR, truB, bNot, bAnd, bOr, eIf, eAnd, eOr, eNot, isiD, kindD, subKd, lenD, tupR, eTup, intD, ltD, gtD, leD, geD, addD, subD, negD, modD, absD_eq, eqI, neI, b15, f13 hp hq hk hl n S, f7 hp hq hk hl (n + 1) S]
theorem f16 : cl (n + 5) 16 [fr p, fr q] S = .ok (fr (lessF p q)) S := by
  rw [c16]
  simp [fnOfS, outOf, sCons, sNil, sRet, sIf, sExpr, sAsg, gSet, sPar, sPar3, sRetN, R.toS, R.bind, eVar, eC, eOp, eUn, eB, oneR, aCons, aNil, eCall, arrD, bCmp, blR, bTru, truR, truB, bNot, bAnd, bOr, eIf, eAnd, eOr, eNot, isiD, kindD, subKd, lenD, tupR, eTup, intD, ltD, gtD, leD, geD, addD, subD, negD, modD, absD_eq, eqI, neI, b16, f13 hp hq hk hl n S, f8 hp hq hk hl (n + 1) S]
theorem f17 : cl (n + 5) 17 [fr p, fr q] S = .ok (fr (timesF p q)) S := by
  rw [c17]
  simp [fnOfS, outOf, sCons, sNil, sRet, sIf, sExpr, sAsg, gSet, sPar, sPar3, sRetN, R.toS, R.bind, eVar, eC, eOp, eUn, eB, oneR, aCons, aNil, eCall, arrD, bCmp, blR, bTru, truR, truB, bNot, bAnd, bOr, eIf, eAnd, eOr, eNot, isiD, kindD, subKd, lenD, tupR, eTup, intD, ltD, gtD, leD, geD, addD, subD, negD, modD, absD_eq, eqI, neI, b17, f13 hp hq hk hl n S, f9 hp hq hk hl (n + 1) S]
theorem f18 (h0 : q.1 ≠ 0) : cl (n + 5) 18 [fr p, fr q] S = .ok (fr (overF p q)) S := by
  rw [c18]
  simp [fnOfS, outOf, sCons, sNil, sRet, sIf, sExpr, sAsg, gSet, sPar, sPar3, sRetN, R.toS, R.bind, eVar, eC, eOp, eUn, eB, oneR, aCons, aNil, eCall, arrD, bCmp, blR, bTru, truR, truB, bNot, bAnd, bOr, eIf, eAnd, eOr, eNot, isiD, kindD, subKd, lenD, tupR, eTup, intD, ltD, gtD, leD, geD, addD, subD, negD, modD, absD_eq, eqI, neI, b18, f13 hp hq hk hl n S, f10 hp hq hk hl (n + 1) S h0, ix0, f12, h0]
theorem f19 : cl (n + 5) 19 [fr p, fr q] S = .ok (.int (cmpF p q)) S := by
  rw [c19]
  simp [fnOfS, outOf, sCons, sNil, sRet, sIf, sExpr, sAsg, gSet, sPar, sPar3, sRetN, R.toS, R.bind, eVar, eC, eOp, eUn, eB, oneR, aCons, aNil, eCall, arrD, bCmp, blR, bTru, truR, truB, bNot, bAnd, bOr, eIf, eAnd, eOr, eNot, isiD, kindD, subKd, lenD, tupR, eTup, intD, ltD, gtD, leD, geD, addD, subD, negD, modD, absD_eq, eqI, neI, b19, f13 hp hq hk hl n S, f11 hp hq hk hl (n + 3) S]
end
theorem loop34 (S : Sto) {a b : Int} (x y z : Option D) (n : Nat) (ha : 0 ≤ a) (hb : 0 ≤ b) (hB : B 8000 b) (hn : 16001 ≤ n) :
    whileR (bCmp (eOp gtD (eVar 4) (eC (.int 0)))) (sCons (sPar 3 4 (aCons (eVar 4) (aCons (eOp modD (eB (oneR intD) (aCons (eVar 3) aNil)) (eB (oneR intD) (aCons (eVar 4) aNil))) aNil))) (sNil)) n [x, y, z, some (.int a), some (.int b)] S = .next [x, y, z, some (.int (Int.gcd a b)), some (.int 0)] S := by
  refine euclid (W := fun n a b => whileR (bCmp (eOp gtD (eVar 4) (eC (.int 0)))) (sCons (sPar 3 4 (aCons (eVar 4) (aCons (eOp modD (eB (oneR intD) (aCons (eVar 3) aNil)) (eB (oneR intD) (aCons (eVar 4) aNil))) aNil))) (sNil)) n [x, y, z, some (.int a), some (.int b)] S) (F := fun g => .next [x, y, z, some (.int g), some (.int 0)] S) ?_ ?_ 8000 n a b ha hb hB.lt hn
  · intro n a ha
    simp [fnOfS, outOf, sCons, sNil, sRet, sIf, sExpr, sAsg, gSet, sPar, sPar3, sRetN, R.toS, R.bind, eVar, eC, eOp, eUn, eB, oneR, aCons, aNil, eCall, arrD, bCmp, blR, bTru, truR, truB, bNot, bAnd, bOr, eIf, eAnd, eOr, eNot, isiD, kindD, subKd, lenD, tupR, eTup, intD, ltD, gtD, leD, geD, addD, subD, negD, modD, absD_eq, eqI, neI, whileR]
  · intro n a b ha hb
    simp [fnOfS, outOf, sCons, sNil, sRet, sIf, sExpr, sAsg, gSet, sPar, sPar3, sRetN, R.toS, R.bind, eVar, eC, eOp, eUn, eB, oneR, aCons, aNil, eCall, arrD, bCmp, blR, bTru, truR, truB, bNot, bAnd, bOr, eIf, eAnd, eOr, eNot, isiD, kindD, subKd, lenD, tupR, eTup, intD, ltD, gtD, leD, geD, addD, subD, negD, modD, absD_eq, eqI, neI, whileR, hb]
theorem f24 (n : Nat) (a b : Int) (S : Sto) (hb : b ≠ 0) (hA : B 8000 a) (hB : B 8000 b) : cl (n + 1) 24 [.int a, .int b] S = .ok (fr (M17.made a b)) S := by
  rw [c24]
  have h := fun x y z => loop34 S (a := a.natAbs) (b := b.natAbs) x y z 100000 (by omega) (by omega) (by unfold B at *; rwa [Int.natAbs_natCast]) (by omega)
  have e : Int.gcd (a.natAbs : Int) (b.natAbs : Int) = Int.gcd a b := by show Nat.gcd _ _ = Nat.gcd _ _; rw [Int.natAbs_natCast, Int.natAbs_natCast]
  rw [e] at h
  have hg : 0 < (Int.gcd a b : Int) := by have := Int.gcd_pos_of_ne_zero_right a hb; omega
  have hGB := gcd_B (a := a) hb hB
  have o1 : B 2 1 := by unfold B; decide
  have o2 : B 2 (-1) := by unfold B; decide
  simp only [fnOfS, List.map, List.length_cons, List.length_nil]
  unfold b24
  generalize hb : (sCons (sPar 3 4 (aCons (eVar 4) (aCons (eOp modD (eB (oneR intD) (aCons (eVar 3) aNil)) (eB (oneR intD) (aCons (eVar 4) aNil))) aNil))) (sNil)) = body at h ⊢
  by_cases hp : 0 < b
  · simp [fnOfS, outOf, sCons, sNil, sRet, sIf, sExpr, sAsg, gSet, sPar, sPar3, sRetN, R.toS, R.bind, eVar, eC, eOp, eUn, eB, oneR, aCons, aNil, eCall, arrD, bCmp, blR, bTru, truR, truB, bNot, bAnd, bOr, eIf, eAnd, eOr, eNot, isiD, kindD, subKd, lenD, tupR, eTup, intD, ltD, gtD, leD, geD, addD, subD, negD, modD, absD_eq, eqI, neI, h, List.replicate, hp, mulD_ok o1 hA, mulD_ok o1 hB, fdivD_ok hGB hg, fr, M17.made, line]
  · simp [fnOfS, outOf, sCons, sNil, sRet, sIf, sExpr, sAsg, gSet, sPar, sPar3, sRetN, R.toS, R.bind, eVar, eC, eOp, eUn, eB, oneR, aCons, aNil, eCall, arrD, bCmp, blR, bTru, truR, truB, bNot, bAnd, bOr, eIf, eAnd, eOr, eNot, isiD, kindD, subKd, lenD, tupR, eTup, intD, ltD, gtD, leD, geD, addD, subD, negD, modD, absD_eq, eqI, neI, h, List.replicate, hp, mulD_ok o2 hA, mulD_ok o2 hB, fdivD_ok hGB hg, fr, M17.made, line]
end L17

namespace L17
open PySem Ev Lw L2
/-! ### the store -/
theorem put_same (S : Sto) (p : P) (x : O) : (S.put p x).get p = some x := Tr.put_same x p S.t
theorem put_ne {S : Sto} {p u : P} {x : O} (h : u ≠ p) : (S.put p x).get u = S.get u := Tr.put_ne x p u S.t h
theorem new_same (S : Sto) (x : O) : (S.new x).get S.nx = some x := Tr.put_same x S.nx S.t
theorem new_ne {S : Sto} {u : P} {x : O} (h : u ≠ S.nx) : (S.new x).get u = S.get u := Tr.put_ne x S.nx u S.t h
theorem nx_put (S : Sto) (p : P) (x : O) : (S.put p x).nx = S.nx := rfl
theorem nx_new (S : Sto) (x : O) : (S.new x).nx = S.nx.succ := rfl
theorem succ_lt (p : P) : p.toNat < p.succ.toNat := by rw [P.succ_nat]; omega
theorem ne_of_nat {p q : P} (h : p.toNat < q.toNat) : p ≠ q := fun e => by subst e; omega
/-- all the older places but p keep what they hold -/
structure Kp (p : P) (S S' : Sto) : Prop where
  le : S.nx.toNat ≤ S'.nx.toNat
  eq : ∀ u : P, u.toNat < S.nx.toNat → u ≠ p → S'.get u = S.get u
structure Ext (S S' : Sto) : Prop where
  le : S.nx.toNat ≤ S'.nx.toNat
  eq : ∀ u : P, u.toNat < S.nx.toNat → S'.get u = S.get u
theorem Ext.refl (S : Sto) : Ext S S := ⟨Nat.le_refl _, fun _ _ => rfl⟩
theorem Ext.trans {S S' S'' : Sto} (h : Ext S S') (h2 : Ext S' S'') : Ext S S'' := ⟨Nat.le_trans h.le h2.le, fun u hu => (h2.eq u (Nat.lt_of_lt_of_le hu h.le)).trans (h.eq u hu)⟩
theorem Ext.new (S : Sto) (x : O) : Ext S (S.new x) := ⟨by rw [nx_new, P.succ_nat]; omega, fun u hu => new_ne (ne_of_nat hu)⟩
theorem Ext.then {S S' : Sto} (h : Ext S S') (x : O) : Ext S (S'.new x) := h.trans (.new _ _)
theorem Ext.kp {S S' : Sto} (h : Ext S S') (p : P) : Kp p S S' := ⟨h.le, fun u hu _ => h.eq u hu⟩
theorem Kp.trans {p : P} {S S' S'' : Sto} (h : Kp p S S') (h2 : Kp p S' S'') : Kp p S S'' := ⟨Nat.le_trans h.le h2.le, fun u hu hn => (h2.eq u (Nat.lt_of_lt_of_le hu h.le) hn).trans (h.eq u hu hn)⟩
theorem Kp.put (p : P) (S : Sto) (x : O) : Kp p S (S.put p x) := ⟨Nat.le_refl _, fun u _ hn => put_ne hn⟩
/-! ### the feed -/
def fd4 (q : P) (s r t : Int) : List (D × D) := [(.str "cells", .ref q), (.str "spot", .int s), (.str "rest", .int r), (.str "turn", .int t)]
structure Feed (p q : P) (cs : List Int) (t : Nat) (S : Sto) : Prop where
  ex : ∃ s r : Int, 0 ≤ s ∧ S.get p = some (.dct false (fd4 q s r t))
  cq : S.get q = some (.lst (cs.map .int))
  ne : q ≠ p
  lp : p.toNat < S.nx.toNat
  lq : q.toNat < S.nx.toNat
theorem Feed.ext {p q : P} {cs : List Int} {t : Nat} {S S' : Sto} (h : Feed p q cs t S) (e : Ext S S') : Feed p q cs t S' := by
  obtain ⟨s, r, h1, h2⟩ := h.ex
  exact ⟨⟨s, r, h1, (e.eq p h.lp).trans h2⟩, (e.eq q h.lq).trans h.cq, h.ne, Nat.lt_of_lt_of_le h.lp e.le, Nat.lt_of_lt_of_le h.lq e.le⟩
theorem ixd {S : Sto} {p : P} {kvs : List (D × D)} {k : Str} {d : D} (h : S.get p = some (.dct false kvs)) (hk : getA false kvs (.str k) = some (some d)) : ixD (.ref p) (.str k) S = .ok d S := by
  simp only [ixD, lstOf, dctOf, h, hk]
theorem putd {S : Sto} {p : P} {kvs l : List (D × D)} {k v : D} (h : S.get p = some (.dct false kvs)) (hk : setA false kvs k v = some l) (hl : kvs.length < line) : putD (.ref p) k v S = some (S.put p (.dct false l)) := by
  unfold putD
  simp only [h, hk, decide_eq_true hl, cond]
section
variable {S : Sto} {p q : P} {s r t : Int} (h : S.get p = some (.dct false (fd4 q s r t)))
include h
theorem ixC : ixD (.ref p) (.str "cells") S = .ok (.ref q) S := ixd h rfl
theorem ixS : ixD (.ref p) (.str "spot") S = .ok (.int s) S := ixd h rfl
theorem ixR : ixD (.ref p) (.str "rest") S = .ok (.int r) S := ixd h rfl
theorem ixT : ixD (.ref p) (.str "turn") S = .ok (.int t) S := ixd h rfl
theorem puS (i : Int) : putD (.ref p) (.str "spot") (.int i) S = some (S.put p (.dct false (fd4 q i r t))) := putd h rfl (by unfold line; simp [fd4])
theorem puR (i : Int) : putD (.ref p) (.str "rest") (.int i) S = some (S.put p (.dct false (fd4 q s i t))) := putd h rfl (by unfold line; simp [fd4])
theorem puT (i : Int) : putD (.ref p) (.str "turn") (.int i) S = some (S.put p (.dct false (fd4 q s r i))) := putd h rfl (by unfold line; simp [fd4])
end
/-! ### are there cells -/
theorem mapO_ints (S : Sto) (n : Nat) : ∀ cs : List Int, mapO (toP S (n + 1)) (cs.map .int) = some (cs.map PyData.int)
  | [] => rfl
  | c :: cs => by
    rw [List.map_cons, List.map_cons, mapO, mapO_ints S n cs]
    rfl
theorem canAll_ints : ∀ cs : List Int, PyData.canLayAll0 (cs.map PyData.int) = true ∧ PyData.depthAll (cs.map PyData.int) = 0
  | [] => ⟨rfl, rfl⟩
  | c :: cs => by
    obtain ⟨h1, h2⟩ := canAll_ints cs
    simp [PyData.canLayAll0, PyData.canLay0, PyData.depthAll, PyData.depth, h1, h2]
theorem shaped_ints (cs : List Int) : SeqAt.shaped (.list (cs.map PyData.int)) = true := by
  obtain ⟨h1, h2⟩ := canAll_ints cs
  simp [SeqAt.shaped, PyData.canLay0, PyData.depth, h1, h2]
theorem neCells {S : Sto} {q u : P} {cs : List Int} (hq : S.get q = some (.lst (cs.map .int))) (hu : S.get u = some (.lst [])) : neD (.ref q) (.ref u) S = .ok (.bl (!cs.isEmpty)) S := by
  have e1 : toP S 50 (.ref q) = some (.list (cs.map PyData.int)) := by
    show (match S.get q with | some (.lst xs) => (match mapO (toP S 49) xs with | some ys => some (PyData.list ys) | none => none) | some (.rol xs) => (match mapO (toP S 49) xs with | some ys => some (PyData.list ys) | none => none) | _ => none) = _
    rw [hq]
    show (match mapO (toP S (48 + 1)) (cs.map .int) with | some ys => some (PyData.list ys) | none => none) = _
    rw [mapO_ints]
  have e2 : toP S 50 (.ref u) = some (.list []) := by
    show (match S.get u with | some (.lst xs) => (match mapO (toP S 49) xs with | some ys => some (PyData.list ys) | none => none) | some (.rol xs) => (match mapO (toP S 49) xs with | some ys => some (PyData.list ys) | none => none) | _ => none) = _
    rw [hu]
    rfl
  have e3 : eqB S (.ref q) (.ref u) = some cs.isEmpty := by
    show bothP S (.ref q) (.ref u) = _
    unfold bothP
    rw [e1, e2]
    simp only
    rw [shaped_ints cs, show SeqAt.shaped (.list []) = true from shaped_ints []]
    cases cs <;> rfl
  unfold neD
  rw [e3]
theorem ixCell {S : Sto} {q : P} {cs : List Int} (hq : S.get q = some (.lst (cs.map .int))) (i : Int) (h : cs ≠ []) (hi : 0 ≤ i) : ∃ c, ixD (.ref q) (.int (i % (cs.length : Int))) S = .ok (.int c) S := by
  have hl : 0 < cs.length := List.length_pos_iff.mpr h
  have h1 := Int.emod_nonneg i (by omega : (cs.length : Int) ≠ 0)
  have h2 := Int.emod_lt_of_pos i (by omega : (0:Int) < (cs.length : Int))
  generalize i % (cs.length : Int) = j at *
  obtain ⟨k, rfl⟩ := Int.eq_ofNat_of_zero_le h1
  have hk : k < cs.length := by omega
  refine ⟨cs[k], ?_⟩
  have : atI (cs.map D.int) (k : Int) = some (.int cs[k]) := by
    unfold atI ixN
    simp [hk]
  simp only [ixD, lstOf, hq, this, nthR]
end L17

namespace L17
open PySem Ev Lw L2
theorem sC {f g : SF} {e e1 : Ev.Env} {S S1 : Sto} {r : RS} (h : f e S = .next e1 S1) (h2 : g e1 S1 = r) : sCons f g e S = r := by
  unfold sCons
  rw [h]
  exact h2
theorem sR {f g : SF} {e : Ev.Env} {S S1 : Sto} {d : D} (h : f e S = .ret d S1) : sCons f g e S = .ret d S1 := by
  unfold sCons
  rw [h]
theorem pow18 (S : Sto) : powD (.int 10) (.int 18) S = .ok (.int 1000000000000000000) S := rfl
theorem f21 (n : Nat) {p q : P} {cs : List Int} {t : Nat} {S : Sto} {b : Int} (h : Feed p q cs t S) (ht : t < 1000000) (hb : 0 < b) (hB : B 100 b) :
    ∃ r S', cl (n + 1) 21 [.ref p, .int b] S = .ok (.int r) S' ∧ 0 ≤ r ∧ r < b ∧ Feed p q cs (t + 1) S' ∧ Kp p S S' := by
  obtain ⟨s, r, hs, hg⟩ := h.ex
  have hne := h.ne
  have hlp := h.lp
  have hlq := h.lq
  rw [c21]
  have fin : ∀ {r : Int} {S' : Sto} {g : SF}, g ([D.ref p, .int b].map some ++ List.replicate (7 - [D.ref p, .int b].length) none) S = .ret (.int r) S' → fnOfS 7 g [.ref p, .int b] S = .ok (.int r) S' := by
    intro r S' g hh
    unfold fnOfS
    rw [hh]
    rfl
  have hB' : B 8000 b := hB.mono (by omega)
  have bt : B 20 ((t : Int) + 1) := by unfold B; omega
  -- the turn
  generalize hS1 : S.put p (.dct false (fd4 q s r (t + 1))) = S1
  have g1 : S1.get p = some (.dct false (fd4 q s r (t + 1))) := by rw [← hS1]; exact put_same _ _ _
  have q1 : S1.get q = some (.lst (cs.map .int)) := by rw [← hS1, put_ne hne]; exact h.cq
  have k1 : Kp p S S1 := by rw [← hS1]; exact .put _ _ _
  have n1 : S1.nx = S.nx := by rw [← hS1]; rfl
  have st1 : sDPut (eVar 0) (eC (.str "turn")) (eOp addD (eOp ixD (eVar 0) (eC (.str "turn"))) (eC (.int 1))) ([D.ref p, .int b].map some ++ List.replicate (7 - [D.ref p, .int b].length) none) S = .next ([D.ref p, .int b].map some ++ List.replicate (7 - [D.ref p, .int b].length) none) S1 := by
    simp [fnOfS, outOf, sNil, sRet, sIf, sExpr, sAsg, gSet, sPar, sPar3, sRetN, R.toS, R.bind, eVar, eC, eOp, eUn, eB, oneR, aCons, aNil, eCall, arrD, bCmp, blR, bTru, truR, truB, bNot, bAnd, bOr, eIf, eAnd, eOr, eNot, isiD, kindD, subKd, lenD, tupR, eTup, intD, ltD, gtD, leD, geD, addD, subD, negD, modD, absD_eq, eqI, neI, Ev.sDPut, ixT hg, puT hg, hS1]
  by_cases hr : 0 < r
  · refine ⟨r % b, S1.put p (.dct false (fd4 q s (r / b) (t + 1))), fin (sC st1 (sR ?_)), Int.emod_nonneg _ (by omega), Int.emod_lt_of_pos _ hb, ⟨⟨s, r / b, hs, put_same _ _ _⟩, by rw [put_ne hne]; exact q1, hne, by rw [nx_put, n1]; exact hlp, by rw [nx_put, n1]; exact hlq⟩, k1.trans (.put _ _ _)⟩
    simp [fnOfS, outOf, sNil, sRet, sIf, sExpr, sAsg, gSet, sPar, sPar3, sRetN, R.toS, R.bind, eVar, eC, eOp, eUn, eB, oneR, aCons, aNil, eCall, arrD, bCmp, blR, bTru, truR, truB, bNot, bAnd, bOr, eIf, eAnd, eOr, eNot, isiD, kindD, subKd, lenD, tupR, eTup, intD, ltD, gtD, leD, geD, addD, subD, negD, modD, absD_eq, eqI, neI, ixR g1, hr, sCons, hb, Ev.sDPut, fdivD_ok hB' hb, puR g1, List.replicate]
  · generalize hS2 : S1.put p (.dct false (fd4 q (s + 1) r (t + 1))) = S2
    have g2 : S2.get p = some (.dct false (fd4 q (s + 1) r (t + 1))) := by rw [← hS2]; exact put_same _ _ _
    have q2 : S2.get q = some (.lst (cs.map .int)) := by rw [← hS2, put_ne hne]; exact q1
    have k2 : Kp p S S2 := by rw [← hS2]; exact k1.trans (.put _ _ _)
    have n2 : S2.nx = S.nx := by rw [← hS2]; exact n1
    generalize hS3 : S2.new (.lst []) = S3
    have g3 : S3.get p = some (.dct false (fd4 q (s + 1) r (t + 1))) := by rw [← hS3, new_ne (ne_of_nat (by rw [n2]; exact hlp))]; exact g2
    have q3 : S3.get q = some (.lst (cs.map .int)) := by rw [← hS3, new_ne (ne_of_nat (by rw [n2]; exact hlq))]; exact q2
    have k3 : Kp p S S3 := by rw [← hS3]; exact k2.trans ((Ext.new _ _).kp p)
    have n3 : S.nx.toNat < S3.nx.toNat := by rw [← hS3, nx_new, n2]; exact succ_lt _
    have u3 : S3.get S2.nx = some (.lst []) := by rw [← hS3]; exact new_same _ _
    have c3 : ∃ c, eIf (bCmp (eOp neD (eVar 5) (eLst (aNil)))) (eOp ixD (eVar 5) (eOp modD (eB (oneR intD) (aCons (eVar 6) aNil)) (eB (oneR lenD) (aCons (eVar 5) aNil)))) (eC (.int 31240)) [some (D.ref p), some (D.int b), none, none, none, some (D.ref q), some (D.int s)] S2 = .ok (.int c) S3 := by
      have e3 := neCells q3 u3
      have l3 : lstOf S3 q = some (cs.map .int) := by unfold lstOf; rw [q3]
      cases hc : cs.isEmpty with
      | true =>
        rw [hc] at e3
        exact ⟨31240, by simp [fnOfS, outOf, sNil, sRet, sIf, sExpr, sAsg, gSet, sPar, sPar3, sRetN, R.toS, R.bind, eVar, eC, eOp, eUn, eB, oneR, aCons, aNil, eCall, arrD, bCmp, blR, bTru, truR, truB, bNot, bAnd, bOr, eIf, eAnd, eOr, eNot, isiD, kindD, subKd, lenD, tupR, eTup, intD, ltD, gtD, leD, geD, addD, subD, negD, modD, absD_eq, eqI, neI, eLst, lstR, line, hS3, e3]⟩
      | false =>
        rw [hc] at e3
        have hc' : cs ≠ [] := by intro z; rw [z] at hc; cases hc
        have hl : 0 < cs.length := List.length_pos_iff.mpr hc'
        obtain ⟨c, ec⟩ := ixCell q3 s hc' hs
        refine ⟨c, ?_⟩
        simp [fnOfS, outOf, sNil, sRet, sIf, sExpr, sAsg, gSet, sPar, sPar3, sRetN, R.toS, R.bind, eVar, eC, eOp, eUn, eB, oneR, aCons, aNil, eCall, arrD, bCmp, blR, bTru, truR, truB, bNot, bAnd, bOr, eIf, eAnd, eOr, eNot, isiD, kindD, subKd, lenD, tupR, eTup, intD, ltD, gtD, leD, geD, addD, subD, negD, modD, absD_eq, eqI, neI, eLst, lstR, line, hS3, e3, l3, hl, ec]
    obtain ⟨c, c3⟩ := c3
    have fin3 : Feed p q cs (t + 1) S3 := ⟨⟨s + 1, r, by omega, g3⟩, q3, hne, by omega, by omega⟩
    have l3 : lstOf S3 q = some (cs.map .int) := by unfold lstOf; rw [q3]
    have st2 : ∀ g : SF, sIf (bCmp (eOp gtD (eOp ixD (eVar 0) (eC (.str "rest"))) (eC (.int 0)))) g sNil ([D.ref p, .int b].map some ++ List.replicate (7 - [D.ref p, .int b].length) none) S1 = .next [some (D.ref p), some (D.int b), none, none, none, none, none] S1 := by
      intro g
      simp [fnOfS, outOf, sNil, sRet, sIf, sExpr, sAsg, gSet, sPar, sPar3, sRetN, R.toS, R.bind, eVar, eC, eOp, eUn, eB, oneR, aCons, aNil, eCall, arrD, bCmp, blR, bTru, truR, truB, bNot, bAnd, bOr, eIf, eAnd, eOr, eNot, isiD, kindD, subKd, lenD, tupR, eTup, intD, ltD, gtD, leD, geD, addD, subD, negD, modD, absD_eq, eqI, neI, ixR g1, hr, List.replicate]
    have st3 : sPar 5 6 (aCons (eOp ixD (eVar 0) (eC (.str "cells"))) (aCons (eOp ixD (eVar 0) (eC (.str "spot"))) aNil)) [some (D.ref p), some (D.int b), none, none, none, none, none] S1 = .next [some (D.ref p), some (D.int b), none, none, none, some (D.ref q), some (D.int s)] S1 := by
      simp [fnOfS, outOf, sNil, sRet, sIf, sExpr, sAsg, gSet, sPar, sPar3, sRetN, R.toS, R.bind, eVar, eC, eOp, eUn, eB, oneR, aCons, aNil, eCall, arrD, bCmp, blR, bTru, truR, truB, bNot, bAnd, bOr, eIf, eAnd, eOr, eNot, isiD, kindD, subKd, lenD, tupR, eTup, intD, ltD, gtD, leD, geD, addD, subD, negD, modD, absD_eq, eqI, neI, ixC g1, ixS g1]
    have st4 : sDPut (eVar 0) (eC (.str "spot")) (eOp addD (eVar 6) (eC (.int 1))) [some (D.ref p), some (D.int b), none, none, none, some (D.ref q), some (D.int s)] S1 = .next [some (D.ref p), some (D.int b), none, none, none, some (D.ref q), some (D.int s)] S2 := by
      simp [fnOfS, outOf, sNil, sRet, sIf, sExpr, sAsg, gSet, sPar, sPar3, sRetN, R.toS, R.bind, eVar, eC, eOp, eUn, eB, oneR, aCons, aNil, eCall, arrD, bCmp, blR, bTru, truR, truB, bNot, bAnd, bOr, eIf, eAnd, eOr, eNot, isiD, kindD, subKd, lenD, tupR, eTup, intD, ltD, gtD, leD, geD, addD, subD, negD, modD, absD_eq, eqI, neI, Ev.sDPut, puS g1, hS2]
    have st5 : sAsg (eIf (bCmp (eOp neD (eVar 5) (eLst (aNil)))) (eOp ixD (eVar 5) (eOp modD (eB (oneR intD) (aCons (eVar 6) aNil)) (eB (oneR lenD) (aCons (eVar 5) aNil)))) (eC (.int 31240))) (gSet 2) [some (D.ref p), some (D.int b), none, none, none, some (D.ref q), some (D.int s)] S2 = .next [some (D.ref p), some (D.int b), some (D.int c), none, none, some (D.ref q), some (D.int s)] S3 := by
      simp only [sAsg, c3, R.toS, gSet, List.set]
    by_cases hc : (1000000000000000000 : Int) ≤ c ∧ s < cs.length
    · refine ⟨c % b, S3.put p (.dct false (fd4 q (s + 1) (c / b) (t + 1))), fin (sC st1 (sC (st2 _) (sC st3 (sC st4 (sC st5 (sR ?_)))))), Int.emod_nonneg _ (by omega), Int.emod_lt_of_pos _ hb, ⟨⟨s + 1, c / b, by omega, put_same _ _ _⟩, by rw [put_ne hne]; exact q3, hne, by rw [nx_put]; omega, by rw [nx_put]; omega⟩, k3.trans (.put _ _ _)⟩
      simp [fnOfS, outOf, sNil, sRet, sIf, sExpr, sAsg, gSet, sPar, sPar3, sRetN, R.toS, R.bind, eVar, eC, eOp, eUn, eB, oneR, aCons, aNil, eCall, arrD, bCmp, blR, bTru, truR, truB, bNot, bAnd, bOr, eIf, eAnd, eOr, eNot, isiD, kindD, subKd, lenD, tupR, eTup, intD, ltD, gtD, leD, geD, addD, subD, negD, modD, absD_eq, eqI, neI, pow18, hc.1, hc.2, l3, sCons, Ev.sDPut, fdivD_ok hB' hb, puR g3, hb]
    · have st6 : ∀ g : SF, sIf (bAnd (bCmp (eOp geD (eVar 2) (eOp powD (eC (.int 10)) (eC (.int 18))))) (bCmp (eOp ltD (eVar 6) (eB (oneR lenD) (aCons (eVar 5) aNil))))) g sNil [some (D.ref p), some (D.int b), some (D.int c), none, none, some (D.ref q), some (D.int s)] S3 = .next [some (D.ref p), some (D.int b), some (D.int c), none, none, some (D.ref q), some (D.int s)] S3 := by
        intro g
        by_cases h1 : (1000000000000000000 : Int) ≤ c
        · have h2 : ¬ s < cs.length := fun z => hc ⟨h1, z⟩
          simp [fnOfS, outOf, sNil, sRet, sIf, sExpr, sAsg, gSet, sPar, sPar3, sRetN, R.toS, R.bind, eVar, eC, eOp, eUn, eB, oneR, aCons, aNil, eCall, arrD, bCmp, blR, bTru, truR, truB, bNot, bAnd, bOr, eIf, eAnd, eOr, eNot, isiD, kindD, subKd, lenD, tupR, eTup, intD, ltD, gtD, leD, geD, addD, subD, negD, modD, absD_eq, eqI, neI, pow18, h1, h2, l3]
        · simp [fnOfS, outOf, sNil, sRet, sIf, sExpr, sAsg, gSet, sPar, sPar3, sRetN, R.toS, R.bind, eVar, eC, eOp, eUn, eB, oneR, aCons, aNil, eCall, arrD, bCmp, blR, bTru, truR, truB, bNot, bAnd, bOr, eIf, eAnd, eOr, eNot, isiD, kindD, subKd, lenD, tupR, eTup, intD, ltD, gtD, leD, geD, addD, subD, negD, modD, absD_eq, eqI, neI, pow18, h1]
      have o1 : B 20 42310 := by unfold B; decide
      have o2 : B 20 22800 := by unfold B; decide
      have o3 : B 20 1520 := by unfold B; decide
      have o4 : B 8000 (32 : Int) := B.mono (k := 6) (by unfold B; decide) (by omega)
      have bm : ∀ x m : Int, 0 < m → m ≤ 2147483648 → B 40 (x % m) := by
        intro x m h1 h2
        have z1 := Int.emod_nonneg x (by omega : m ≠ 0)
        have z2 := Int.emod_lt_of_pos x h1
        unfold B
        omega
      obtain ⟨m, hm⟩ : ∃ m, m = (c % 1999998327 + 42310 * ((t : Int) + 1) + 1702) % 2147483629 := ⟨_, rfl⟩
      obtain ⟨m2, hm2⟩ : ∃ m2, m2 = (m * m + 22800 * ((t : Int) + 1) * ((t : Int) + 1) + 5514) % 2147483579 := ⟨_, rfl⟩
      have b0 : B 40 m := by rw [hm]; exact bm _ _ (by omega) (by omega)
      have b1 : B 40 m2 := by rw [hm2]; exact bm _ _ (by omega) (by omega)
      refine ⟨((m2 * m2 + 1520 * m2) % 2147483549 / 32) % b, S3, fin (sC st1 (sC (st2 _) (sC st3 (sC st4 (sC st5 (sC (st6 _) (sC (e1 := [some (D.ref p), some (D.int b), some (D.int c), some (D.int m), none, some (D.ref q), some (D.int s)]) (S1 := S3) ?_ (sC (e1 := [some (D.ref p), some (D.int b), some (D.int c), some (D.int m2), none, some (D.ref q), some (D.int s)]) (S1 := S3) ?_ (sR ?_))))))))), Int.emod_nonneg _ (by omega), Int.emod_lt_of_pos _ hb, fin3, k3⟩
      · simp [fnOfS, outOf, sNil, sRet, sIf, sExpr, sAsg, gSet, sPar, sPar3, sRetN, R.toS, R.bind, eVar, eC, eOp, eUn, eB, oneR, aCons, aNil, eCall, arrD, bCmp, blR, bTru, truR, truB, bNot, bAnd, bOr, eIf, eAnd, eOr, eNot, isiD, kindD, subKd, lenD, tupR, eTup, intD, ltD, gtD, leD, geD, addD, subD, negD, modD, absD_eq, eqI, neI, ixT g3, mulD_ok o1 bt, hm]
      · simp [fnOfS, outOf, sNil, sRet, sIf, sExpr, sAsg, gSet, sPar, sPar3, sRetN, R.toS, R.bind, eVar, eC, eOp, eUn, eB, oneR, aCons, aNil, eCall, arrD, bCmp, blR, bTru, truR, truB, bNot, bAnd, bOr, eIf, eAnd, eOr, eNot, isiD, kindD, subKd, lenD, tupR, eTup, intD, ltD, gtD, leD, geD, addD, subD, negD, modD, absD_eq, eqI, neI, ixT g3, mulD_ok b0 b0, mulD_ok o2 bt, mulD_ok (o2.mul bt) bt, hm2]
      · simp [fnOfS, outOf, sNil, sRet, sIf, sExpr, sAsg, gSet, sPar, sPar3, sRetN, R.toS, R.bind, eVar, eC, eOp, eUn, eB, oneR, aCons, aNil, eCall, arrD, bCmp, blR, bTru, truR, truB, bNot, bAnd, bOr, eIf, eAnd, eOr, eNot, isiD, kindD, subKd, lenD, tupR, eTup, intD, ltD, gtD, leD, geD, addD, subD, negD, modD, absD_eq, eqI, neI, mulD_ok b1 b1, mulD_ok o3 b1, fdivD_ok o4, hb]
end L17

namespace L17
open PySem Ev Lw L2
/-! ### what is shown -/
structure Q (wt : Nat) (x : PyData) : Prop where
  s : x.leavesShort 801 = true
  v : x.showable = true
  h : x.hasDict = false
  d : x.depth ≤ 3
  w : x.weight ≤ wt
  e : eqP x x = true
structure Qs (wt : Nat) (x : List PyData) : Prop where
  s : PyData.leavesShortAll 801 x = true
  v : PyData.showableAll x = true
  h : PyData.hasDictAll x = false
  d : PyData.depthAll x ≤ 1
  w : PyData.weightAll x ≤ wt
  e : eqPs x x = true
theorem Qs.nil : Qs 0 [] := ⟨rfl, rfl, rfl, by simp [fnOfS, outOf, sNil, sRet, sIf, sExpr, sAsg, gSet, sPar, sPar3, sRetN, R.toS, R.bind, eVar, eC, eOp, eUn, eB, oneR, aCons, aNil, eCall, arrD, bCmp, blR, bTru, truR, truB, bNot, bAnd, bOr, eIf, eAnd, eOr, eNot, isiD, kindD, subKd, lenD, tupR, eTup, intD, ltD, gtD, leD, geD, addD, subD, negD, modD, absD_eq, eqI, neI, PyData.depthAll], by simp [fnOfS, outOf, sNil, sRet, sIf, sExpr, sAsg, gSet, sPar, sPar3, sRetN, R.toS, R.bind, eVar, eC, eOp, eUn, eB, oneR, aCons, aNil, eCall, arrD, bCmp, blR, bTru, truR, truB, bNot, bAnd, bOr, eIf, eAnd, eOr, eNot, isiD, kindD, subKd, lenD, tupR, eTup, intD, ltD, gtD, leD, geD, addD, subD, negD, modD, absD_eq, eqI, neI, PyData.weightAll], rfl⟩
theorem Qs.int {w : Nat} {i : Int} {xs : List PyData} (h : B 800 i) (hs : Qs w xs) : Qs (802 + w) (.int i :: xs) := by
  have hl := h.log (by omega)
  have hlen : (PyData.shown (.int i)).length ≤ 801 := by
    have e := int_text_length_le (a := i) (k := 800) (by omega) hl
    show (Str.ofString (toString i)).length ≤ 801
    rw [ofString_length]
    exact e
  refine ⟨?_, ?_, ?_, ?_, ?_, ?_⟩
  · simp only [PyData.leavesShortAll, PyData.leavesShort, hs.s, decide_eq_true hlen, Bool.and_self]
  · simp only [PyData.showableAll, PyData.showable, hs.v, decide_eq_true (show i.natAbs.log2 < 1920 by omega), Bool.and_self]
  · simp only [PyData.hasDictAll, PyData.hasDict, hs.h, Bool.or_self]
  · simp only [PyData.depthAll, PyData.depth]; have := hs.d; omega
  · simp only [PyData.weightAll, PyData.weight]; have := hs.w; split <;> omega
  · simp [fnOfS, outOf, sNil, sRet, sIf, sExpr, sAsg, gSet, sPar, sPar3, sRetN, R.toS, R.bind, eVar, eC, eOp, eUn, eB, oneR, aCons, aNil, eCall, arrD, bCmp, blR, bTru, truR, truB, bNot, bAnd, bOr, eIf, eAnd, eOr, eNot, isiD, kindD, subKd, lenD, tupR, eTup, intD, ltD, gtD, leD, geD, addD, subD, negD, modD, absD_eq, eqI, neI, eqPs, eqP, hs.e]
def prD (p : Int × Int) : PyData := .tuple [.int p.1, .int p.2]
theorem Qs.fr {w : Nat} {p : Int × Int} {xs : List PyData} (h1 : B 800 p.1) (h2 : B 800 p.2) (hs : Qs w xs) : Qs (1610 + w) (prD p :: xs) := by
  have k := Qs.int h1 (Qs.int h2 .nil)
  refine ⟨?_, ?_, ?_, ?_, ?_, ?_⟩
  · simp only [prD, PyData.leavesShortAll, PyData.leavesShort, hs.s]; simpa [PyData.leavesShortAll, PyData.leavesShort] using k.s
  · simp only [prD, PyData.showableAll, PyData.showable, hs.v]; simpa [PyData.showableAll, PyData.showable] using k.v
  · simp only [prD, PyData.hasDictAll, PyData.hasDict, hs.h, Bool.or_self]
  · simp only [prD, PyData.depthAll, PyData.depth]; have := hs.d; omega
  · have e : PyData.weightAll (prD p :: xs) = PyData.weightAll [.int p.1, .int p.2] + 1 + PyData.weightAll xs := by simp only [prD, PyData.weightAll, PyData.weight]
    rw [e]; have := hs.w; have := k.w; omega
  · have e : eqPs (prD p :: xs) (prD p :: xs) = (bif eqPs [.int p.1, .int p.2] [.int p.1, .int p.2] then eqPs xs xs else false) := by simp only [prD, eqPs, eqP]
    rw [e, k.e, hs.e]; rfl
theorem Qs.list {w : Nat} {xs : List PyData} (h : Qs w xs) : Q w (.list xs) := by
  refine ⟨?_, ?_, ?_, ?_, ?_, ?_⟩
  · simp only [PyData.leavesShort, h.s]
  · simp only [PyData.showable, h.v]
  · simp only [PyData.hasDict, h.h]
  · simp only [PyData.depth]; have := h.d; omega
  · simp only [PyData.weight]; exact h.w
  · simp only [eqP, h.e]
theorem rep_ok {S : Sto} {u : P} {pd : PyData} {w : Nat} (h : toP S 50 (.ref u) = some pd) (hq : Q w pd) (hw : w ≤ 20000) : reprD (.ref u) S = .ok (.rep pd) S := by
  have hl : pd.shown.length ≤ line := by
    have := PyData.shown_le 801 (by omega) pd hq.s
    have h2 := hq.w
    unfold line
    omega
  have hd := hq.d
  simp only [reprD, h, hq.v, hq.h, decide_eq_true hl, decide_eq_true (show pd.depth ≤ 60 by omega), Bool.and_self, Bool.not_false, cond]
theorem eq_rep {pd : PyData} (h : eqP pd pd = true) (S : Sto) : eqD (.rep pd) (.rep pd) S = .ok (.bl true) S := by
  unfold eqD eqB
  simp only [h, cond]
theorem ne_rep {pd : PyData} (h : eqP pd pd = true) (S : Sto) : neD (.rep pd) (.rep pd) S = .ok (.bl false) S := by
  unfold neD eqB
  simp only [h, cond, Bool.not_true]
theorem toPl {S : Sto} {u : P} {xs : List D} {ys : List PyData} (h : S.get u = some (.lst xs)) (hm : mapO (toP S 49) xs = some ys) : toP S 50 (.ref u) = some (.list ys) := by
  show (match S.get u with | some (.lst xs) => (match mapO (toP S 49) xs with | some ys => some (PyData.list ys) | none => none) | some (.rol xs) => (match mapO (toP S 49) xs with | some ys => some (PyData.list ys) | none => none) | _ => none) = _
  rw [h]
  simp only [hm]
theorem f23 (n : Nat) {S : Sto} {u v : P} {pd : PyData} {w : Nat} (h : toP S 50 (.ref u) = some pd) (h2 : toP S 50 (.ref v) = some pd) (hq : Q w pd) (hw : w ≤ 20000) : cl (n + 1) 23 [.ref u, .ref v] S = .ok (.bl true) S := by
  rw [c23]
  simp [fnOfS, outOf, sNil, sRet, sIf, sExpr, sAsg, gSet, sPar, sPar3, sRetN, R.toS, R.bind, eVar, eC, eOp, eUn, eB, oneR, aCons, aNil, eCall, arrD, bCmp, blR, bTru, truR, truB, bNot, bAnd, bOr, eIf, eAnd, eOr, eNot, isiD, kindD, subKd, lenD, tupR, eTup, intD, ltD, gtD, leD, geD, addD, subD, negD, modD, absD_eq, eqI, neI, b23, sCons, rep_ok h hq hw, rep_ok h2 hq hw, eq_rep hq.e]
/-! ### the sums keep their size -/
theorem made_Fr {k l : Nat} {a b : Int} (hb : b ≠ 0) (ha : B k a) (h : B k b) : Fr k (M17.made a b) := ⟨(M17.made_low hb).1, (made_B hb ha h).1, (made_B hb ha h).2⟩
section
variable {k : Nat} {p q : Int × Int} (hp : Fr k p) (hq : Fr k q)
include hp hq
theorem plus_Fr : Fr (k + k + 1) (plusF p q) := made_Fr (l := 0) (Int.mul_ne_zero hp.nz hq.nz) ((hp.b1.mul hq.b2).add (hq.b1.mul hp.b2)) ((hp.b2.mul hq.b2).mono (by omega))
theorem less_Fr : Fr (k + k + 1) (lessF p q) := made_Fr (l := 0) (Int.mul_ne_zero hp.nz hq.nz) ((hp.b1.mul hq.b2).sub (hq.b1.mul hp.b2)) ((hp.b2.mul hq.b2).mono (by omega))
theorem times_Fr : Fr (k + k) (timesF p q) := made_Fr (l := 0) (Int.mul_ne_zero hp.nz hq.nz) (hp.b1.mul hq.b1) (hp.b2.mul hq.b2)
theorem over_Fr (h0 : q.1 ≠ 0) : Fr (k + k) (overF p q) := made_Fr (l := 0) (Int.mul_ne_zero hp.nz h0) (hp.b1.mul hq.b2) (hp.b2.mul hq.b1)
theorem less_plus : lessF (plusF p q) q = p := M17.less_plus hp.low hq.low
theorem plus_less : plusF (lessF p q) q = p := M17.plus_less hp.low hq.low
theorem times_over (h0 : q.1 ≠ 0) : timesF (overF p q) q = p := M17.times_over hp.low hq.low h0
theorem cmp_less : cmpF (lessF p q) (0, 1) = cmpF p q := M17.sgn_less hp.low hq.low
omit hp hq in
theorem cmp_neg : cmpF q p = -cmpF p q := by
  unfold cmpF M17.sgn
  omega
omit hp hq in
theorem cmp_self : cmpF p p = 0 := by
  unfold cmpF M17.sgn
  omega
theorem cmp_B : B 800 (cmpF p q) := by
  refine B.mono (k := 2) ?_ (by omega)
  unfold B cmpF M17.sgn
  split <;> split <;> omega
end
end L17

namespace L17
open PySem Ev Lw L2
theorem addI (i j : Int) (S : Sto) : addD (.int i) (.int j) S = .ok (.int (i + j)) S := rfl
theorem addL {S : Sto} {u v : P} {xs ys : List D} (h : S.get u = some (.lst xs)) (h2 : S.get v = some (.lst ys)) (hl : xs.length + ys.length ≤ line) : addD (.ref u) (.ref v) S = .ok (.ref S.nx) (S.new (.lst (xs ++ ys))) := by
  simp only [addD, h, h2, decide_eq_true hl, cond]
theorem ixL {S : Sto} {u : P} {xs : List D} {i : Int} {d : D} (h : S.get u = some (.lst xs)) (hd : atI xs i = some d) : ixD (.ref u) (.int i) S = .ok d S := by
  simp only [ixD, lstOf, h, hd, nthR]
theorem lst_ok {xs : List D} (h : xs.length ≤ line) (S : Sto) : lstR xs S = .ok (.ref S.nx) (S.new (.lst xs)) := by
  simp only [lstR, decide_eq_true h, cond]
theorem lst1 (a : D) (S : Sto) : lstR [a] S = .ok (.ref S.nx) (S.new (.lst [a])) := lst_ok (by unfold line; simp) S
theorem lst2 (a b : D) (S : Sto) : lstR [a, b] S = .ok (.ref S.nx) (S.new (.lst [a, b])) := lst_ok (by unfold line; simp) S
theorem lst3 (a b c : D) (S : Sto) : lstR [a, b, c] S = .ok (.ref S.nx) (S.new (.lst [a, b, c])) := lst_ok (by unfold line; simp) S
theorem f26 (n : Nat) {p q : Int × Int} {S : Sto} (hp : Fr 80 p) (hq : Fr 80 q) : ∃ S', cl (n + 10) 26 [fr p, fr q] S = .ok (.bl true) S' ∧ Ext S S' := by
  rw [c26]
  have fin : ∀ {S' : Sto} {g : SF}, g [some (fr p), some (fr q), none, none, none, none, none, none, none, none] S = .ret (.bl true) S' → fnOfS 10 g [fr p, fr q] S = .ok (.bl true) S' := by
    intro S' g hh
    show outOf (g [some (fr p), some (fr q), none, none, none, none, none, none, none, none] S) = _
    rw [hh]
    rfl
  have ln : ∀ k : Nat, k ≤ 100 → k ≤ line := by intro k hk; unfold line; omega
  have P := plus_Fr hp hq
  have M := less_Fr hp hq
  have T := times_Fr hp hq
  have hcB := cmp_B hp hq
  have Z : Fr 161 ((0 : Int), (1 : Int)) := ⟨⟨by decide, by decide⟩, B.mono (k := 2) (by unfold B; decide) (by omega), B.mono (k := 2) (by unfold B; decide) (by omega)⟩
  have hq161 : Fr 161 q := ⟨hq.low, hq.b1.mono (by omega), hq.b2.mono (by omega)⟩
  have pq := Int.mul_ne_zero hp.nz hq.nz
  -- the states
  generalize h1 : S.new (.lst [fr (plusF p q), fr (lessF p q), fr (timesF p q)]) = S1
  generalize h2 : S1.new (.lst [.int (cmpF p q), .int (-cmpF p q)]) = S2
  generalize h3 : S2.new (.lst [fr (plusF p q), fr (lessF p q), fr (timesF p q), .int (cmpF p q), .int (-cmpF p q)]) = S3
  generalize h4 : S3.new (.lst [fr (plusF p q), fr (lessF p q)]) = S4
  generalize h5 : S4.new (.lst [fr (timesF p q), .int (cmpF p q), .int (-cmpF p q)]) = S5
  generalize h6 : S5.new (.lst [fr (plusF p q), fr (lessF p q), fr (timesF p q), .int (cmpF p q), .int (-cmpF p q)]) = S6
  generalize h7 : S6.new (.lst [fr p, fr p, .int (cmpF p q)]) = S7
  generalize h8 : S7.new (.lst [fr p, fr p, .int (cmpF p q)]) = S8
  generalize h9 : S8.new (.lst [fr (overF p q), fr p, .int 0]) = S9
  generalize h10 : S9.new (.lst [fr (overF p q), fr p, .int 0]) = S10
  have x1 : Ext S S1 := by rw [← h1]; exact .new _ _
  have x2 : Ext S1 S2 := by rw [← h2]; exact .new _ _
  have x3 : Ext S2 S3 := by rw [← h3]; exact .new _ _
  have x4 : Ext S3 S4 := by rw [← h4]; exact .new _ _
  have x5 : Ext S4 S5 := by rw [← h5]; exact .new _ _
  have x6 : Ext S5 S6 := by rw [← h6]; exact .new _ _
  have x7 : Ext S6 S7 := by rw [← h7]; exact .new _ _
  have x8 : Ext S7 S8 := by rw [← h8]; exact .new _ _
  have x9 : Ext S8 S9 := by rw [← h9]; exact .new _ _
  have x10 : Ext S9 S10 := by rw [← h10]; exact .new _ _
  have n1 : S.nx.toNat < S1.nx.toNat := by rw [← h1]; exact succ_lt _
  have n2 : S1.nx.toNat < S2.nx.toNat := by rw [← h2]; exact succ_lt _
  have n3 : S2.nx.toNat < S3.nx.toNat := by rw [← h3]; exact succ_lt _
  have n4 : S3.nx.toNat < S4.nx.toNat := by rw [← h4]; exact succ_lt _
  have n5 : S4.nx.toNat < S5.nx.toNat := by rw [← h5]; exact succ_lt _
  have n6 : S5.nx.toNat < S6.nx.toNat := by rw [← h6]; exact succ_lt _
  have n7 : S6.nx.toNat < S7.nx.toNat := by rw [← h7]; exact succ_lt _
  have n8 : S7.nx.toNat < S8.nx.toNat := by rw [← h8]; exact succ_lt _
  have n9 : S8.nx.toNat < S9.nx.toNat := by rw [← h9]; exact succ_lt _
  have u0 : S2.get S.nx = some (.lst [fr (plusF p q), fr (lessF p q), fr (timesF p q)]) := by rw [x2.eq _ n1, ← h1]; exact new_same _ _
  have u1 : S2.get S1.nx = some (.lst [.int (cmpF p q), .int (-cmpF p q)]) := by rw [← h2]; exact new_same _ _
  have u2 : S6.get S2.nx = some (.lst [fr (plusF p q), fr (lessF p q), fr (timesF p q), .int (cmpF p q), .int (-cmpF p q)]) := by rw [((x4.trans x5).trans x6).eq _ n3, ← h3]; exact new_same _ _
  have u3 : S5.get S3.nx = some (.lst [fr (plusF p q), fr (lessF p q)]) := by rw [x5.eq _ n4, ← h4]; exact new_same _ _
  have u4 : S5.get S4.nx = some (.lst [fr (timesF p q), .int (cmpF p q), .int (-cmpF p q)]) := by rw [← h5]; exact new_same _ _
  have u5 : S6.get S5.nx = some (.lst [fr (plusF p q), fr (lessF p q), fr (timesF p q), .int (cmpF p q), .int (-cmpF p q)]) := by rw [← h6]; exact new_same _ _
  have u6 : S8.get S6.nx = some (.lst [fr p, fr p, .int (cmpF p q)]) := by rw [x8.eq _ n7, ← h7]; exact new_same _ _
  have u7 : S8.get S7.nx = some (.lst [fr p, fr p, .int (cmpF p q)]) := by rw [← h8]; exact new_same _ _
  have u8 : S10.get S8.nx = some (.lst [fr (overF p q), fr p, .int 0]) := by rw [x10.eq _ n9, ← h9]; exact new_same _ _
  have u9 : S10.get S9.nx = some (.lst [fr (overF p q), fr p, .int 0]) := by rw [← h10]; exact new_same _ _
  have pB1 := hp.b1.mono (show 80 ≤ 800 by omega)
  have pB2 := hp.b2.mono (show 80 ≤ 800 by omega)
  have q1 := Qs.fr (P.b1.mono (by omega)) (P.b2.mono (by omega)) (Qs.fr (M.b1.mono (by omega)) (M.b2.mono (by omega)) (Qs.fr (T.b1.mono (by omega)) (T.b2.mono (by omega)) (Qs.int hcB (Qs.int hcB.neg .nil))))
  have q2 := Qs.fr pB1 pB2 (Qs.fr pB1 pB2 (Qs.int hcB .nil))
  have same1 := f23 (n + 8) (toPl (ys := [prD (plusF p q), prD (lessF p q), prD (timesF p q), .int (cmpF p q), .int (-cmpF p q)]) u2 rfl) (toPl u5 rfl) q1.list (by omega)
  have same2 := f23 (n + 8) (toPl (ys := [prD p, prD p, .int (cmpF p q)]) u6 rfl) (toPl u7 rfl) q2.list (by omega)
  have mAD := mD (S := S3) (hp.b1.mono (show 80 ≤ 2000 by omega)) (hq.b2.mono (show 80 ≤ 2000 by omega))
  have mul : ∀ {i j : Int} {S : Sto}, B 80 i → B 80 j → mulD (.int i) (.int j) S = .ok (.int (i * j)) S := fun a b => mulD_ok a b (by omega)
  have sg : (if q.1 * p.2 < p.1 * q.2 then (1 : Int) else 0) - (if p.1 * q.2 < q.1 * p.2 then 1 else 0) = cmpF p q := rfl
  have nAll : Ext S S8 := ((((((x1.trans x2).trans x3).trans x4).trans x5).trans x6).trans x7).trans x8
  have fP := f24 (n + 8) (p.1 * q.2 + q.1 * p.2) (p.2 * q.2)
  have fM := f24 (n + 8) (p.1 * q.2 - q.1 * p.2) (p.2 * q.2)
  have fT := f24 (n + 8) (p.1 * q.1) (p.2 * q.2)
  have bP : B 8000 (p.1 * q.2 + q.1 * p.2) := ((hp.b1.mul hq.b2).add (hq.b1.mul hp.b2)).mono (by omega)
  have bM : B 8000 (p.1 * q.2 - q.1 * p.2) := ((hp.b1.mul hq.b2).sub (hq.b1.mul hp.b2)).mono (by omega)
  have bT : B 8000 (p.1 * q.1) := (hp.b1.mul hq.b1).mono (by omega)
  have bD : B 8000 (p.2 * q.2) := (hp.b2.mul hq.b2).mono (by omega)
  have step : ∃ S', Ext S S' ∧ b26 (cl (n + 9)) [some (fr p), some (fr q), none, none, none, none, none, none, none, none] S = .ret (.bl true) S' := by
    have last : ∃ S', Ext S S' ∧ (sCons (sIf (bCmp (eOp eqD (eVar 8) (eC (.int 0)))) (sCons (sRet (eC (.bl true))) (sNil)) (sNil)) (sCons (sAsg (eCall (cl (n + 9) 18) [.pos 0, .pos 1] 2 0 (aCons (eVar 0) (aCons (eVar 1) aNil)) (aNil)) (gSet 5)) (sCons (sRet (eCall (cl (n + 9) 23) [.pos 0, .pos 1] 2 0 (aCons (eLst (aCons (eVar 5) (aCons (eCall (cl (n + 9) 17) [.pos 0, .pos 1] 2 0 (aCons (eVar 5) (aCons (eVar 1) aNil)) (aNil)) (aCons (eCall (cl (n + 9) 19) [.pos 0, .pos 1] 2 0 (aCons (eVar 0) (aCons (eVar 0) aNil)) (aNil)) aNil)))) (aCons (eLst (aCons (eCall (cl (n + 9) 24) [.pos 0, .pos 1] 2 0 (aCons (eOp mulD (eVar 6) (eVar 9)) (aCons (eOp mulD (eVar 7) (eVar 8)) aNil)) (aNil)) (aCons (eVar 0) (aCons (eC (.int 0)) aNil)))) aNil)) (aNil))) (sNil)))) [some (fr p), some (fr q), some (.ref S2.nx), some (.int (cmpF p q)), some (.ref S5.nx), some (.ref S6.nx), some (.int p.1), some (.int p.2), some (.int q.1), some (.int q.2)] S8 = .ret (.bl true) S' := by
      by_cases h0 : q.1 = 0
      · refine ⟨S8, nAll, sR ?_⟩
        simp [fnOfS, outOf, sNil, sRet, sIf, sExpr, sAsg, gSet, sPar, sPar3, sRetN, R.toS, R.bind, eVar, eC, eOp, eUn, eB, oneR, aCons, aNil, eCall, arrD, bCmp, blR, bTru, truR, truB, bNot, bAnd, bOr, eIf, eAnd, eOr, eNot, isiD, kindD, subKd, lenD, tupR, eTup, intD, ltD, gtD, leD, geD, subD, negD, modD, absD_eq, eqI, neI, h0, sCons]
      · have O := over_Fr hp hq h0
        have hp160 : Fr 160 p := ⟨hp.low, hp.b1.mono (by omega), hp.b2.mono (by omega)⟩
        have hq160 : Fr 160 q := ⟨hq.low, hq.b1.mono (by omega), hq.b2.mono (by omega)⟩
        have bO : B 8000 (p.1 * q.2) := (hp.b1.mul hq.b2).mono (by omega)
        have bO2 : B 8000 (p.2 * q.1) := (hp.b2.mul hq.b1).mono (by omega)
        have q3 := Qs.fr (O.b1.mono (by omega)) (O.b2.mono (by omega)) (Qs.fr pB1 pB2 (Qs.int (B.mono (k := 2) (i := 0) (by unfold B; decide) (by omega)) .nil))
        have same3 := f23 (n + 8) (toPl (ys := [prD (overF p q), prD p, .int 0]) u8 rfl) (toPl u9 rfl) q3.list (by omega)
        have fO := f24 (n + 8) (p.1 * q.2) (p.2 * q.1) S9 (Int.mul_ne_zero hp.nz h0) bO bO2
        refine ⟨S10, (nAll.trans x9).trans x10, sC (e1 := [some (fr p), some (fr q), some (.ref S2.nx), some (.int (cmpF p q)), some (.ref S5.nx), some (.ref S6.nx), some (.int p.1), some (.int p.2), some (.int q.1), some (.int q.2)]) (S1 := S8) ?_ (sC (e1 := [some (fr p), some (fr q), some (.ref S2.nx), some (.int (cmpF p q)), some (.ref S5.nx), some (fr (overF p q)), some (.int p.1), some (.int p.2), some (.int q.1), some (.int q.2)]) (S1 := S8) ?_ (sR ?_))⟩
        · simp [fnOfS, outOf, sNil, sRet, sIf, sExpr, sAsg, gSet, sPar, sPar3, sRetN, R.toS, R.bind, eVar, eC, eOp, eUn, eB, oneR, aCons, aNil, eCall, arrD, bCmp, blR, bTru, truR, truB, bNot, bAnd, bOr, eIf, eAnd, eOr, eNot, isiD, kindD, subKd, lenD, tupR, eTup, intD, ltD, gtD, leD, geD, subD, negD, modD, absD_eq, eqI, neI, h0]
        · simp [fnOfS, outOf, sNil, sRet, sIf, sExpr, sAsg, gSet, sPar, sPar3, sRetN, R.toS, R.bind, eVar, eC, eOp, eUn, eB, oneR, aCons, aNil, eCall, arrD, bCmp, blR, bTru, truR, truB, bNot, bAnd, bOr, eIf, eAnd, eOr, eNot, isiD, kindD, subKd, lenD, tupR, eTup, intD, ltD, gtD, leD, geD, subD, negD, modD, absD_eq, eqI, neI, f18 hp hq (by omega) (by omega) (n + 4) S8 h0]
        · simp [fnOfS, outOf, sNil, sRet, sIf, sExpr, sAsg, gSet, sPar, sPar3, sRetN, R.toS, R.bind, eVar, eC, eOp, eUn, eB, oneR, aCons, aNil, eCall, arrD, bCmp, blR, bTru, truR, truB, bNot, bAnd, bOr, eIf, eAnd, eOr, eNot, isiD, kindD, subKd, lenD, tupR, eTup, intD, ltD, gtD, leD, geD, subD, negD, modD, absD_eq, eqI, neI, f17 O hq160 (by omega) (by omega) (n + 4) S8, times_over hp hq h0, f19 hp hp (by omega) (by omega) (n + 4) S8, cmp_self, eLst, lst3, h9, mul hp.b1 hq.b2, mul hp.b2 hq.b1, fO, show M17.made (p.1 * q.2) (p.2 * q.1) = overF p q from rfl, h10, same3]
    obtain ⟨S', ex, hlast⟩ := last
    refine ⟨S', ex, sC (e1 := [some (fr p), some (fr q), none, none, none, none, some (.int p.1), some (.int p.2), none, none]) (S1 := S) rfl (sC (e1 := [some (fr p), some (fr q), none, none, none, none, some (.int p.1), some (.int p.2), some (.int q.1), some (.int q.2)]) (S1 := S) rfl
      (sC (e1 := [some (fr p), some (fr q), some (.ref S.nx), none, none, none, some (.int p.1), some (.int p.2), some (.int q.1), some (.int q.2)]) (S1 := S1) ?_
      (sC (e1 := [some (fr p), some (fr q), some (.ref S2.nx), none, none, none, some (.int p.1), some (.int p.2), some (.int q.1), some (.int q.2)]) (S1 := S3) ?_
      (sC (e1 := [some (fr p), some (fr q), some (.ref S2.nx), some (.int (cmpF p q)), none, none, some (.int p.1), some (.int p.2), some (.int q.1), some (.int q.2)]) (S1 := S3) ?_
      (sC (e1 := [some (fr p), some (fr q), some (.ref S2.nx), some (.int (cmpF p q)), some (.ref S3.nx), none, some (.int p.1), some (.int p.2), some (.int q.1), some (.int q.2)]) (S1 := S4) ?_
      (sC (e1 := [some (fr p), some (fr q), some (.ref S2.nx), some (.int (cmpF p q)), some (.ref S5.nx), none, some (.int p.1), some (.int p.2), some (.int q.1), some (.int q.2)]) (S1 := S6) ?_
      (sC (e1 := [some (fr p), some (fr q), some (.ref S2.nx), some (.int (cmpF p q)), some (.ref S5.nx), none, some (.int p.1), some (.int p.2), some (.int q.1), some (.int q.2)]) (S1 := S6) ?_
      (sC (e1 := [some (fr p), some (fr q), some (.ref S2.nx), some (.int (cmpF p q)), some (.ref S5.nx), some (.ref S6.nx), some (.int p.1), some (.int p.2), some (.int q.1), some (.int q.2)]) (S1 := S7) ?_
      (sC (e1 := [some (fr p), some (fr q), some (.ref S2.nx), some (.int (cmpF p q)), some (.ref S5.nx), some (.ref S6.nx), some (.int p.1), some (.int p.2), some (.int q.1), some (.int q.2)]) (S1 := S8) ?_ hlast)))))))))⟩
    · simp [fnOfS, outOf, sNil, sRet, sIf, sExpr, sAsg, gSet, sPar, sPar3, sRetN, R.toS, R.bind, eVar, eC, eOp, eUn, eB, oneR, aCons, aNil, eCall, arrD, bCmp, blR, bTru, truR, truB, bNot, bAnd, bOr, eIf, eAnd, eOr, eNot, isiD, kindD, subKd, lenD, tupR, eTup, intD, ltD, gtD, leD, geD, subD, negD, modD, absD_eq, eqI, neI, f15 hp hq (by omega) (by omega) (n + 4) S, f16 hp hq (by omega) (by omega) (n + 4) S, f17 hp hq (by omega) (by omega) (n + 4) S, eLst, lst3, h1]
    · simp [fnOfS, outOf, sNil, sRet, sIf, sExpr, sAsg, gSet, sPar, sPar3, sRetN, R.toS, R.bind, eVar, eC, eOp, eUn, eB, oneR, aCons, aNil, eCall, arrD, bCmp, blR, bTru, truR, truB, bNot, bAnd, bOr, eIf, eAnd, eOr, eNot, isiD, kindD, subKd, lenD, tupR, eTup, intD, ltD, gtD, leD, geD, subD, negD, modD, absD_eq, eqI, neI, f19 hp hq (by omega) (by omega) (n + 4) S1, f19 hq hp (by omega) (by omega) (n + 4) S1, eLst, lst2, cmp_neg (p := p) (q := q), h2, addL u0 u1 (ln 5 (by omega)), h3]
    · simp [fnOfS, outOf, sNil, sRet, sIf, sExpr, sAsg, gSet, sPar, sPar3, sRetN, R.toS, R.bind, eVar, eC, eOp, eUn, eB, oneR, aCons, aNil, eCall, arrD, bCmp, blR, bTru, truR, truB, bNot, bAnd, bOr, eIf, eAnd, eOr, eNot, isiD, kindD, subKd, lenD, tupR, eTup, intD, ltD, gtD, leD, geD, subD, negD, modD, absD_eq, eqI, neI, mul hp.b1 hq.b2, mul hq.b1 hp.b2, sg]
    · simp [fnOfS, outOf, sNil, sRet, sIf, sExpr, sAsg, gSet, sPar, sPar3, sRetN, R.toS, R.bind, eVar, eC, eOp, eUn, eB, oneR, aCons, aNil, eCall, arrD, bCmp, blR, bTru, truR, truB, bNot, bAnd, bOr, eIf, eAnd, eOr, eNot, isiD, kindD, subKd, lenD, tupR, eTup, intD, ltD, gtD, leD, geD, subD, negD, modD, absD_eq, eqI, neI, mul hp.b1 hq.b2, mul hq.b1 hp.b2, mul hp.b2 hq.b2, addI, fP S3 pq bP bD, fM S3 pq bM bD, eLst, lst2, show M17.made (p.1 * q.2 + q.1 * p.2) (p.2 * q.2) = plusF p q from rfl, show M17.made (p.1 * q.2 - q.1 * p.2) (p.2 * q.2) = lessF p q from rfl, h4]
    · simp [fnOfS, outOf, sNil, sRet, sIf, sExpr, sAsg, gSet, sPar, sPar3, sRetN, R.toS, R.bind, eVar, eC, eOp, eUn, eB, oneR, aCons, aNil, eCall, arrD, bCmp, blR, bTru, truR, truB, bNot, bAnd, bOr, eIf, eAnd, eOr, eNot, isiD, kindD, subKd, lenD, tupR, eTup, intD, ltD, gtD, leD, geD, subD, negD, modD, absD_eq, eqI, neI, mul hp.b1 hq.b1, mul hp.b2 hq.b2, fT S4 pq bT bD, eLst, lst3, show M17.made (p.1 * q.1) (p.2 * q.2) = timesF p q from rfl, h5, addL u3 u4 (ln 5 (by omega)), h6]
    · simp [fnOfS, outOf, sNil, sRet, sIf, sExpr, sAsg, gSet, sPar, sPar3, sRetN, R.toS, R.bind, eVar, eC, eOp, eUn, eB, oneR, aCons, aNil, eCall, arrD, bCmp, blR, bTru, truR, truB, bNot, bAnd, bOr, eIf, eAnd, eOr, eNot, isiD, kindD, subKd, lenD, tupR, eTup, intD, ltD, gtD, leD, geD, subD, negD, modD, absD_eq, eqI, neI, same1]
    · simp [fnOfS, outOf, sNil, sRet, sIf, sExpr, sAsg, gSet, sPar, sPar3, sRetN, R.toS, R.bind, eVar, eC, eOp, eUn, eB, oneR, aCons, aNil, eCall, arrD, bCmp, blR, bTru, truR, truB, bNot, bAnd, bOr, eIf, eAnd, eOr, eNot, isiD, kindD, subKd, lenD, tupR, eTup, intD, ltD, gtD, leD, geD, subD, negD, modD, absD_eq, eqI, neI, ixL u2 (i := 0) (d := fr (plusF p q)) rfl, ixL u2 (i := 1) (d := fr (lessF p q)) rfl, f16 P hq161 (by omega) (by omega) (n + 4) S6, f15 M hq161 (by omega) (by omega) (n + 4) S6, show D.tup [.int 0, .int 1] = fr (0, 1) from rfl, f19 M Z (by omega) (by omega) (n + 4) S6, less_plus hp hq, plus_less hp hq, cmp_less hp hq, eLst, lst3, h7, line]
    · simp [fnOfS, outOf, sNil, sRet, sIf, sExpr, sAsg, gSet, sPar, sPar3, sRetN, R.toS, R.bind, eVar, eC, eOp, eUn, eB, oneR, aCons, aNil, eCall, arrD, bCmp, blR, bTru, truR, truB, bNot, bAnd, bOr, eIf, eAnd, eOr, eNot, isiD, kindD, subKd, lenD, tupR, eTup, intD, ltD, gtD, leD, geD, subD, negD, modD, absD_eq, eqI, neI, eLst, lst3, h8, same2]
  obtain ⟨S', ex, hs⟩ := step
  exact ⟨S', fin hs, ex⟩
end L17

namespace L17
open PySem Ev Lw L2
theorem lc_ints {v q : P} (hne : v ≠ q) (e : Ev.Env) (cs : List Int) : ∀ (m n i : Nat) (S : Sto) (acc : List Int), cs.length - i = m → m < n → i ≤ cs.length → S.get v = some (.lst (cs.map .int)) → S.get q = some (.lst (acc.map .int)) → acc.length + m < 1000000 → 1 < e.length →
    ∃ (S' : Sto) (acc' : List Int), lcR (itLst v) (gSet 1) bTrue (eB (oneR intD) (aCons (eVar 1) aNil)) e q n i S = .ok () S' ∧ S'.nx = S.nx ∧ S'.get q = some (.lst (acc'.map D.int)) ∧ ∀ u, u ≠ q → S'.get u = S.get u
  | 0, n, i, S, acc, h1, h2, h3, hv, hq, hl, he => by
    obtain ⟨n, rfl⟩ : ∃ k, n = k + 1 := ⟨n - 1, by omega⟩
    refine ⟨S, acc, ?_, rfl, hq, fun _ _ => rfl⟩
    have hi : cs[i]? = none := List.getElem?_eq_none (by omega)
    simp [fnOfS, outOf, sNil, sRet, sIf, sExpr, sAsg, gSet, sPar, sPar3, sRetN, R.toS, R.bind, eVar, eC, eOp, eUn, eB, oneR, aCons, aNil, eCall, arrD, bCmp, blR, bTru, truR, truB, bNot, bAnd, bOr, eIf, eAnd, eOr, eNot, isiD, kindD, subKd, lenD, tupR, eTup, intD, ltD, gtD, leD, geD, subD, negD, modD, absD_eq, eqI, neI, addI, lcR, itLst, lstOf, hv, listX, hi]
  | m + 1, n, i, S, acc, h1, h2, h3, hv, hq, hl, he => by
    obtain ⟨n, rfl⟩ : ∃ k, n = k + 1 := ⟨n - 1, by omega⟩
    have hi : cs[i]? = some cs[i] := List.getElem?_eq_getElem (by omega)
    obtain ⟨S', acc', r1, r2, r3, r4⟩ := lc_ints hne e cs m n (i + 1) (S.put q (.lst ((acc ++ [cs[i]]).map .int))) (acc ++ [cs[i]]) (by omega) (by omega) (by omega) (by rw [put_ne hne]; exact hv) (put_same _ _ _) (by simp; omega) he
    refine ⟨S', acc', ?_, r2, r3, fun u hu => (r4 u hu).trans (put_ne hu)⟩
    have hl' : acc.length < line := by unfold line; omega
    have hev : (e.set 1 (some (D.int cs[i])))[1]? = some (some (D.int cs[i])) := by simp [fnOfS, outOf, sNil, sRet, sIf, sExpr, sAsg, gSet, sPar, sPar3, sRetN, R.toS, R.bind, eVar, eC, eOp, eUn, eB, oneR, aCons, aNil, eCall, arrD, bCmp, blR, bTru, truR, truB, bNot, bAnd, bOr, eIf, eAnd, eOr, eNot, isiD, kindD, subKd, lenD, tupR, eTup, intD, ltD, gtD, leD, geD, subD, negD, modD, absD_eq, eqI, neI, addI, List.getElem?_set_self he]
    have r1' := r1
    rw [List.map_append] at r1'
    simp only [List.map_cons, List.map_nil] at r1'
    simp [fnOfS, outOf, sNil, sRet, sIf, sExpr, sAsg, gSet, sPar, sPar3, sRetN, R.toS, R.bind, eVar, eC, eOp, eUn, eB, oneR, aCons, aNil, eCall, arrD, bCmp, blR, bTru, truR, truB, bNot, bAnd, bOr, eIf, eAnd, eOr, eNot, isiD, kindD, subKd, lenD, tupR, eTup, intD, ltD, gtD, leD, geD, subD, negD, modD, absD_eq, eqI, neI, addI, lcR, itLst, lstOf, hv, listX, hi, bTrue, hev, hq, hl']
    exact r1'
theorem cut_map {α β : Type} (f : α → β) (xs : List α) (lo hi : Option Int) : cutA (xs.map f) lo hi = (cutA xs lo hi).map f := by
  unfold cutA
  rw [List.length_map, List.map_take, List.map_drop]
theorem cut_len {α : Type} (xs : List α) (lo hi : Option Int) : (cutA xs lo hi).length ≤ xs.length := by
  unfold cutA
  rw [List.length_take, List.length_drop]
  omega
theorem f20 (n : Nat) (ns : List Int) (hn : ns.length ≤ 63) (S : Sto) : ∃ S' p q cs, cl (n + 1) 20 [.scr (ns.map .int)] S = .ok (.ref p) S' ∧ Feed p q cs 0 S' := by
  rw [c20]
  generalize hcs : cutA ns none (some 63) = cs
  have hcl : cs.length ≤ 63 := by rw [← hcs]; exact Nat.le_trans (cut_len _ _ _) hn
  generalize h1 : S.new (.dct false []) = S1
  generalize h2 : S1.new (.lst (cs.map .int)) = S2
  generalize h3 : S2.new (.lst []) = S3
  have n1 : S.nx.toNat < S1.nx.toNat := by rw [← h1]; exact succ_lt _
  have n2 : S1.nx.toNat < S2.nx.toNat := by rw [← h2]; exact succ_lt _
  have n3 : S2.nx.toNat < S3.nx.toNat := by rw [← h3]; exact succ_lt _
  have x2 : Ext S1 S2 := by rw [← h2]; exact .new _ _
  have x3 : Ext S2 S3 := by rw [← h3]; exact .new _ _
  have p3 : S3.get S.nx = some (.dct false []) := by rw [(x2.trans x3).eq _ n1, ← h1]; exact new_same _ _
  have v3 : S3.get S1.nx = some (.lst (cs.map .int)) := by rw [x3.eq _ n2, ← h2]; exact new_same _ _
  have v2 : S2.get S1.nx = some (.lst (cs.map .int)) := by rw [← h2]; exact new_same _ _
  have q3 : S3.get S2.nx = some (.lst (([] : List Int).map .int)) := by rw [← h3]; exact new_same _ _
  obtain ⟨S4, acc, r1, r2, r3, r4⟩ := lc_ints (ne_of_nat n2) (wipeE [some (.scr (ns.map .int)), none] [1]) cs cs.length 100000 0 S3 [] (by omega) (by omega) (by omega) v3 q3 (by simp; omega) (by simp [fnOfS, outOf, sNil, sRet, sIf, sExpr, sAsg, gSet, sPar, sPar3, sRetN, R.toS, R.bind, eVar, eC, eOp, eUn, eB, oneR, aCons, aNil, eCall, arrD, bCmp, blR, bTru, truR, truB, bNot, bAnd, bOr, eIf, eAnd, eOr, eNot, isiD, kindD, subKd, lenD, tupR, eTup, intD, ltD, gtD, leD, geD, subD, negD, modD, absD_eq, eqI, neI, addI, wipeE])
  have p4 : S4.get S.nx = some (.dct false []) := by rw [r4 _ (ne_of_nat (by omega))]; exact p3
  refine ⟨S4.put S.nx (.dct false (fd4 S2.nx 0 0 0)), S.nx, S2.nx, acc, ?_, ⟨⟨0, 0, by omega, put_same _ _ _⟩, by rw [put_ne (ne_of_nat (by omega)).symm]; exact r3, (ne_of_nat (by omega)).symm, by rw [nx_put, r2]; omega, by rw [nx_put, r2]; omega⟩⟩
  have e1 : eLc 100000 (iOf (eSlc (eVar 0) (oNone) (oSome (eC (.int 63))))) (gSet 1) (bTrue) (eB (oneR intD) (aCons (eVar 1) aNil)) [1] [some (.scr (ns.map .int)), none] S1 = .ok (.ref S2.nx) S4 := by
    have l2 : lstOf S2 S1.nx = some (cs.map .int) := by unfold lstOf; rw [v2]
    unfold eLc
    have i1 : iOf (eSlc (eVar 0) (oNone) (oSome (eC (.int 63)))) [some (.scr (ns.map .int)), none] S1 = .ok (itLst S1.nx) S2 := by
      simp [fnOfS, outOf, sNil, sRet, sIf, sExpr, sAsg, gSet, sPar, sPar3, sRetN, R.toS, R.bind, eVar, eC, eOp, eUn, eB, oneR, aCons, aNil, eCall, arrD, bCmp, blR, bTru, truR, truB, bNot, bAnd, bOr, eIf, eAnd, eOr, eNot, isiD, kindD, subKd, lenD, tupR, eTup, intD, ltD, gtD, leD, geD, subD, negD, modD, absD_eq, eqI, neI, addI, iOf, eSlc, oNone, oSome, slcD, cut_map, hcs, h2, toIt, l2]
    rw [i1]
    simp only [R.bind]
    rw [h3, r1]
  have m1 : mergeA [] [(D.str "cells", D.ref S2.nx), (D.str "spot", D.int 0), (D.str "rest", D.int 0), (D.str "turn", D.int 0)] = fd4 S2.nx 0 0 0 := rfl
  unfold b20 fnOfS
  simp only [List.map, List.length_cons, List.length_nil, List.replicate, Nat.reduceAdd, Nat.reduceSub, List.cons_append, List.nil_append]
  refine (congrArg outOf (sR (f := sRet _) (d := .ref S.nx) (S1 := S4.put S.nx (.dct false (fd4 S2.nx 0 0 0))) ?_)).trans rfl
  simp only [sRet, eDisp, prR, eC, R.bind, h1, e1, p4]
  rfl
end L17

namespace L17
open PySem Ev Lw L2
theorem f22 (n : Nat) {p q u : P} {cs ys : List Int} {t : Nat} {S : Sto} (h : Feed p q cs t S) (ht : t < 1000000) (hu : S.get u = some (.lst (ys.map .int))) (hn : u ≠ p) (hl : u.toNat < S.nx.toNat) (h0 : ys ≠ []) (h1 : ys.length ≤ 100) :
    ∃ y S', y ∈ ys ∧ cl (n + 2) 22 [.ref p, .ref u] S = .ok (.int y) S' ∧ Feed p q cs (t + 1) S' ∧ Kp p S S' := by
  have hlen : 0 < ys.length := List.length_pos_iff.mpr h0
  obtain ⟨r, S', e, r1, r2, F, K⟩ := f21 n h ht (b := (ys.length : Int)) (by omega) (B.mono (k := 10) (by unfold B; omega) (by omega))
  obtain ⟨k, rfl⟩ := Int.eq_ofNat_of_zero_le r1
  have hk : k < ys.length := by omega
  refine ⟨ys[k], S', List.getElem_mem _, ?_, F, K⟩
  have g : S'.get u = some (.lst (ys.map .int)) := by rw [K.eq u hl hn]; exact hu
  have l : lstOf S u = some (ys.map .int) := by unfold lstOf; rw [hu]
  have ix : ixD (.ref u) (.int (k : Int)) S' = .ok (.int ys[k]) S' := ixL g (by unfold atI ixN; simp [fnOfS, outOf, sNil, sRet, sIf, sExpr, sAsg, gSet, sPar, sPar3, sRetN, R.toS, R.bind, eVar, eC, eOp, eUn, eB, oneR, aCons, aNil, eCall, arrD, bCmp, blR, bTru, truR, truB, bNot, bAnd, bOr, eIf, eAnd, eOr, eNot, isiD, kindD, subKd, lenD, tupR, eTup, intD, ltD, gtD, leD, geD, subD, negD, modD, absD_eq, eqI, neI, addI, hk])
  rw [c22]
  simp [fnOfS, outOf, sNil, sRet, sIf, sExpr, sAsg, gSet, sPar, sPar3, sRetN, R.toS, R.bind, eVar, eC, eOp, eUn, eB, oneR, aCons, aNil, eCall, arrD, bCmp, blR, bTru, truR, truB, bNot, bAnd, bOr, eIf, eAnd, eOr, eNot, isiD, kindD, subKd, lenD, tupR, eTup, intD, ltD, gtD, leD, geD, subD, negD, modD, absD_eq, eqI, neI, addI, b22, sCons, l, e, ix]
theorem pow9 (S : Sto) : powD (.int 10) (.int 9) S = .ok (.int 1000000000) S := rfl
theorem pow8 (S : Sto) : powD (.int 10) (.int 8) S = .ok (.int 100000000) S := rfl
theorem pow20 (S : Sto) : powD (.int 10) (.int 20) S = .ok (.int 100000000000000000000) S := rfl
theorem pow12 (S : Sto) : powD (.int 10) (.int 12) S = .ok (.int 1000000000000) S := rfl
theorem f25 (n : Nat) {p q : P} {cs : List Int} {t : Nat} {S : Sto} (h : Feed p q cs t S) (ht : t < 900000) :
    ∃ a S' t', cl (n + 2) 25 [.ref p] S = .ok (fr a) S' ∧ Fr 70 a ∧ t' ≤ t + 6 ∧ Feed p q cs t' S' ∧ Kp p S S' := by
  have sm : ∀ b : Int, 0 < b → b < 4096 → B 100 b := fun b h1 h2 => B.mono (k := 12) (by unfold B; omega) (by omega)
  obtain ⟨w, S1, e1, w1, w2, F1, K1⟩ := f21 n h (by omega) (b := 6) (by omega) (sm _ (by omega) (by omega))
  obtain ⟨x, S2, e2, x1, x2, F2, K2⟩ := f21 n F1 (by omega) (b := 41) (by omega) (sm _ (by omega) (by omega))
  obtain ⟨y, S3, e3, y1, y2, F3, K3⟩ := f21 n F2 (by omega) (b := 12) (by omega) (sm _ (by omega) (by omega))
  have K := (K1.trans K2).trans K3
  rw [c25]
  have fin : ∀ {a : Int × Int} {S' : Sto} {g : SF}, g [some (.ref p), none, none, none] S = .ret (fr a) S' → fnOfS 4 g [.ref p] S = .ok (fr a) S' := by
    intro a S' g hh
    show outOf (g [some (.ref p), none, none, none] S) = _
    rw [hh]
    rfl
  have s1 : sAsg (eCall (cl (n + 1) 21) [.pos 0, .pos 1] 2 0 (aCons (eVar 0) (aCons (eC (.int 6)) aNil)) (aNil)) (gSet 1) [some (.ref p), none, none, none] S = .next [some (.ref p), some (.int w), none, none] S1 := by
    simp [fnOfS, outOf, sNil, sRet, sIf, sExpr, sAsg, gSet, sPar, sPar3, sRetN, R.toS, R.bind, eVar, eC, eOp, eUn, eB, oneR, aCons, aNil, eCall, arrD, bCmp, blR, bTru, truR, truB, bNot, bAnd, bOr, eIf, eAnd, eOr, eNot, isiD, kindD, subKd, lenD, tupR, eTup, intD, ltD, gtD, leD, geD, subD, negD, modD, absD_eq, eqI, neI, addI, e1]
  have s2 : sPar 2 3 (aCons (eOp subD (eCall (cl (n + 1) 21) [.pos 0, .pos 1] 2 0 (aCons (eVar 0) (aCons (eC (.int 41)) aNil)) (aNil)) (eC (.int 20))) (aCons (eOp addD (eC (.int 1)) (eCall (cl (n + 1) 21) [.pos 0, .pos 1] 2 0 (aCons (eVar 0) (aCons (eC (.int 12)) aNil)) (aNil))) aNil)) [some (.ref p), some (.int w), none, none] S1 = .next [some (.ref p), some (.int w), some (.int (x - 20)), some (.int (1 + y))] S3 := by
    simp [fnOfS, outOf, sNil, sRet, sIf, sExpr, sAsg, gSet, sPar, sPar3, sRetN, R.toS, R.bind, eVar, eC, eOp, eUn, eB, oneR, aCons, aNil, eCall, arrD, bCmp, blR, bTru, truR, truB, bNot, bAnd, bOr, eIf, eAnd, eOr, eNot, isiD, kindD, subKd, lenD, tupR, eTup, intD, ltD, gtD, leD, geD, subD, negD, modD, absD_eq, eqI, neI, addI, e2, e3]
  -- the end of all ways
  have done : ∀ {up low : Int} {S' : Sto} {t' : Nat} {g3 g4 g5 : SF}, 0 < low → B 70 up → B 70 low → t' ≤ t + 6 → Feed p q cs t' S' → Kp p S S' →
      (∃ e4 S4, g3 [some (.ref p), some (.int w), some (.int (x - 20)), some (.int (1 + y))] S3 = .next e4 S4 ∧ ∃ e5 S5, g4 e4 S4 = .next e5 S5 ∧ g5 e5 S5 = .next [some (.ref p), some (.int w), some (.int up), some (.int low)] S') →
      ∃ a S' t', fnOfS 4 (sCons (sAsg (eCall (cl (n + 1) 21) [.pos 0, .pos 1] 2 0 (aCons (eVar 0) (aCons (eC (.int 6)) aNil)) (aNil)) (gSet 1)) (sCons (sPar 2 3 (aCons (eOp subD (eCall (cl (n + 1) 21) [.pos 0, .pos 1] 2 0 (aCons (eVar 0) (aCons (eC (.int 41)) aNil)) (aNil)) (eC (.int 20))) (aCons (eOp addD (eC (.int 1)) (eCall (cl (n + 1) 21) [.pos 0, .pos 1] 2 0 (aCons (eVar 0) (aCons (eC (.int 12)) aNil)) (aNil))) aNil))) (sCons g3 (sCons g4 (sCons g5 (sCons (sRet (eCall (cl (n + 1) 24) [.pos 0, .pos 1] 2 0 (aCons (eVar 2) (aCons (eVar 3) aNil)) (aNil))) (sNil))))))) [.ref p] S = .ok (fr a) S' ∧ Fr 70 a ∧ t' ≤ t + 6 ∧ Feed p q cs t' S' ∧ Kp p S S' := by
    intro up low S' t' g3 g4 g5 hlow bu bl ht' F' K' hg
    obtain ⟨e4, S4, q1, e5, S5, q2, q3⟩ := hg
    refine ⟨M17.made up low, S', t', fin (sC s1 (sC s2 (sC q1 (sC q2 (sC q3 (sR ?_)))))), made_Fr (l := 0) (by omega) bu bl, ht', F', K'⟩
    simp [fnOfS, outOf, sNil, sRet, sIf, sExpr, sAsg, gSet, sPar, sPar3, sRetN, R.toS, R.bind, eVar, eC, eOp, eUn, eB, oneR, aCons, aNil, eCall, arrD, bCmp, blR, bTru, truR, truB, bNot, bAnd, bOr, eIf, eAnd, eOr, eNot, isiD, kindD, subKd, lenD, tupR, eTup, intD, ltD, gtD, leD, geD, subD, negD, modD, absD_eq, eqI, neI, addI, f24 n up low S' (by omega) (bu.mono (by omega)) (bl.mono (by omega))]
  have g70 : ∀ i : Int, -1180591620717411303424 < i → i < 1180591620717411303424 → B 70 i := by
    intro i z1 z2
    unfold B
    omega
  by_cases h0 : w = 0
  · obtain ⟨z, S4, e4, z1, z2, F4, K4⟩ := f21 n F3 (by omega) (b := 9) (by omega) (sm _ (by omega) (by omega))
    refine done (up := z - 4) (low := 1) (S' := S4) (by omega) (g70 _ (by omega) (by omega)) (g70 _ (by omega) (by omega)) (by omega) F4 (K.trans K4) ⟨[some (.ref p), some (.int w), some (.int (z - 4)), some (.int 1)], S4, ?_, [some (.ref p), some (.int w), some (.int (z - 4)), some (.int 1)], S4, ?_, ?_⟩
    · simp [fnOfS, outOf, sNil, sRet, sIf, sExpr, sAsg, gSet, sPar, sPar3, sRetN, R.toS, R.bind, eVar, eC, eOp, eUn, eB, oneR, aCons, aNil, eCall, arrD, bCmp, blR, bTru, truR, truB, bNot, bAnd, bOr, eIf, eAnd, eOr, eNot, isiD, kindD, subKd, lenD, tupR, eTup, intD, ltD, gtD, leD, geD, subD, negD, modD, absD_eq, eqI, neI, addI, h0, sCons, e4]
    · simp [fnOfS, outOf, sNil, sRet, sIf, sExpr, sAsg, gSet, sPar, sPar3, sRetN, R.toS, R.bind, eVar, eC, eOp, eUn, eB, oneR, aCons, aNil, eCall, arrD, bCmp, blR, bTru, truR, truB, bNot, bAnd, bOr, eIf, eAnd, eOr, eNot, isiD, kindD, subKd, lenD, tupR, eTup, intD, ltD, gtD, leD, geD, subD, negD, modD, absD_eq, eqI, neI, addI, h0]
    · simp [fnOfS, outOf, sNil, sRet, sIf, sExpr, sAsg, gSet, sPar, sPar3, sRetN, R.toS, R.bind, eVar, eC, eOp, eUn, eB, oneR, aCons, aNil, eCall, arrD, bCmp, blR, bTru, truR, truB, bNot, bAnd, bOr, eIf, eAnd, eOr, eNot, isiD, kindD, subKd, lenD, tupR, eTup, intD, ltD, gtD, leD, geD, subD, negD, modD, absD_eq, eqI, neI, addI, h0]
  · by_cases h1 : w = 1
    · obtain ⟨z, S4, e4, z1, z2, F4, K4⟩ := f21 n F3 (by omega) (b := 1000) (by omega) (sm _ (by omega) (by omega))
      obtain ⟨v, S5, e5, v1, v2, F5, K5⟩ := f21 n F4 (by omega) (b := 1000) (by omega) (sm _ (by omega) (by omega))
      have m1 : mulD (.int (x - 20)) (.int 1000000000) S3 = .ok (.int ((x - 20) * 1000000000)) S3 := mulD_ok (k := 70) (l := 70) (g70 _ (by omega) (by omega)) (g70 _ (by omega) (by omega)) (by omega)
      have m2 : mulD (.int (1 + y)) (.int 100000000) S4 = .ok (.int ((1 + y) * 100000000)) S4 := mulD_ok (k := 70) (l := 70) (g70 _ (by omega) (by omega)) (g70 _ (by omega) (by omega)) (by omega)
      refine done (up := (x - 20) * 1000000000 + z) (low := (1 + y) * 100000000 + v) (S' := S5) (by omega) (g70 _ (by omega) (by omega)) (g70 _ (by omega) (by omega)) (by omega) F5 ((K.trans K4).trans K5) ⟨[some (.ref p), some (.int w), some (.int (x - 20)), some (.int (1 + y))], S3, ?_, [some (.ref p), some (.int w), some (.int ((x - 20) * 1000000000 + z)), some (.int ((1 + y) * 100000000 + v))], S5, ?_, ?_⟩
      · simp [fnOfS, outOf, sNil, sRet, sIf, sExpr, sAsg, gSet, sPar, sPar3, sRetN, R.toS, R.bind, eVar, eC, eOp, eUn, eB, oneR, aCons, aNil, eCall, arrD, bCmp, blR, bTru, truR, truB, bNot, bAnd, bOr, eIf, eAnd, eOr, eNot, isiD, kindD, subKd, lenD, tupR, eTup, intD, ltD, gtD, leD, geD, subD, negD, modD, absD_eq, eqI, neI, addI, h1]
      · simp [fnOfS, outOf, sNil, sRet, sIf, sExpr, sAsg, gSet, sPar, sPar3, sRetN, R.toS, R.bind, eVar, eC, eOp, eUn, eB, oneR, aCons, aNil, eCall, arrD, bCmp, blR, bTru, truR, truB, bNot, bAnd, bOr, eIf, eAnd, eOr, eNot, isiD, kindD, subKd, lenD, tupR, eTup, intD, ltD, gtD, leD, geD, subD, negD, modD, absD_eq, eqI, neI, addI, h1, sCons, pow9, pow8, m1, m2, e4, e5]
      · simp [fnOfS, outOf, sNil, sRet, sIf, sExpr, sAsg, gSet, sPar, sPar3, sRetN, R.toS, R.bind, eVar, eC, eOp, eUn, eB, oneR, aCons, aNil, eCall, arrD, bCmp, blR, bTru, truR, truB, bNot, bAnd, bOr, eIf, eAnd, eOr, eNot, isiD, kindD, subKd, lenD, tupR, eTup, intD, ltD, gtD, leD, geD, subD, negD, modD, absD_eq, eqI, neI, addI, h1]
    · by_cases h2 : w = 2
      · obtain ⟨z, S4, e4, z1, z2, F4, K4⟩ := f21 n F3 (by omega) (b := 1000) (by omega) (sm _ (by omega) (by omega))
        obtain ⟨v, S5, e5, v1, v2, F5, K5⟩ := f21 n F4 (by omega) (b := 5) (by omega) (sm _ (by omega) (by omega))
        obtain ⟨o, S6, e6, o1, o2, F6, K6⟩ := f21 n F5 (by omega) (b := 3) (by omega) (sm _ (by omega) (by omega))
        have m1 : mulD (.int (100000000000000000000 + z)) (.int (v - 2)) S5 = .ok (.int ((100000000000000000000 + z) * (v - 2))) S5 := mulD_ok (k := 70) (l := 70) (g70 _ (by omega) (by omega)) (g70 _ (by omega) (by omega)) (by omega)
        have hv : (100000000000000000000 + z) * (v - 2) ≤ 300000000000000000000 ∧ -300000000000000000000 ≤ (100000000000000000000 + z) * (v - 2) := by
          have : v = 0 ∨ v = 1 ∨ v = 2 ∨ v = 3 ∨ v = 4 := by omega
          rcases this with rfl | rfl | rfl | rfl | rfl <;> omega
        refine done (up := (100000000000000000000 + z) * (v - 2) + o - 1) (low := 100000000000000000000 + z) (S' := S6) (by omega) (g70 _ (by omega) (by omega)) (g70 _ (by omega) (by omega)) (by omega) F6 (((K.trans K4).trans K5).trans K6) ⟨[some (.ref p), some (.int w), some (.int (x - 20)), some (.int (1 + y))], S3, ?_, [some (.ref p), some (.int w), some (.int (x - 20)), some (.int (1 + y))], S3, ?_, ?_⟩
        · simp [fnOfS, outOf, sNil, sRet, sIf, sExpr, sAsg, gSet, sPar, sPar3, sRetN, R.toS, R.bind, eVar, eC, eOp, eUn, eB, oneR, aCons, aNil, eCall, arrD, bCmp, blR, bTru, truR, truB, bNot, bAnd, bOr, eIf, eAnd, eOr, eNot, isiD, kindD, subKd, lenD, tupR, eTup, intD, ltD, gtD, leD, geD, subD, negD, modD, absD_eq, eqI, neI, addI, h2]
        · simp [fnOfS, outOf, sNil, sRet, sIf, sExpr, sAsg, gSet, sPar, sPar3, sRetN, R.toS, R.bind, eVar, eC, eOp, eUn, eB, oneR, aCons, aNil, eCall, arrD, bCmp, blR, bTru, truR, truB, bNot, bAnd, bOr, eIf, eAnd, eOr, eNot, isiD, kindD, subKd, lenD, tupR, eTup, intD, ltD, gtD, leD, geD, subD, negD, modD, absD_eq, eqI, neI, addI, h2]
        · simp [fnOfS, outOf, sNil, sRet, sIf, sExpr, sAsg, gSet, sPar, sPar3, sRetN, R.toS, R.bind, eVar, eC, eOp, eUn, eB, oneR, aCons, aNil, eCall, arrD, bCmp, blR, bTru, truR, truB, bNot, bAnd, bOr, eIf, eAnd, eOr, eNot, isiD, kindD, subKd, lenD, tupR, eTup, intD, ltD, gtD, leD, geD, subD, negD, modD, absD_eq, eqI, neI, addI, h2, sCons, pow20, e4, e5, e6, m1]
      · refine done (up := x - 20) (low := 1 + y) (S' := S3) (by omega) (g70 _ (by omega) (by omega)) (g70 _ (by omega) (by omega)) (by omega) F3 K ⟨[some (.ref p), some (.int w), some (.int (x - 20)), some (.int (1 + y))], S3, ?_, [some (.ref p), some (.int w), some (.int (x - 20)), some (.int (1 + y))], S3, ?_, ?_⟩
        · simp [fnOfS, outOf, sNil, sRet, sIf, sExpr, sAsg, gSet, sPar, sPar3, sRetN, R.toS, R.bind, eVar, eC, eOp, eUn, eB, oneR, aCons, aNil, eCall, arrD, bCmp, blR, bTru, truR, truB, bNot, bAnd, bOr, eIf, eAnd, eOr, eNot, isiD, kindD, subKd, lenD, tupR, eTup, intD, ltD, gtD, leD, geD, subD, negD, modD, absD_eq, eqI, neI, addI, h0]
        · simp [fnOfS, outOf, sNil, sRet, sIf, sExpr, sAsg, gSet, sPar, sPar3, sRetN, R.toS, R.bind, eVar, eC, eOp, eUn, eB, oneR, aCons, aNil, eCall, arrD, bCmp, blR, bTru, truR, truB, bNot, bAnd, bOr, eIf, eAnd, eOr, eNot, isiD, kindD, subKd, lenD, tupR, eTup, intD, ltD, gtD, leD, geD, subD, negD, modD, absD_eq, eqI, neI, addI, h1]
        · simp [fnOfS, outOf, sNil, sRet, sIf, sExpr, sAsg, gSet, sPar, sPar3, sRetN, R.toS, R.bind, eVar, eC, eOp, eUn, eB, oneR, aCons, aNil, eCall, arrD, bCmp, blR, bTru, truR, truB, bNot, bAnd, bOr, eIf, eAnd, eOr, eNot, isiD, kindD, subKd, lenD, tupR, eTup, intD, ltD, gtD, leD, geD, subD, negD, modD, absD_eq, eqI, neI, addI, h2]
end L17

namespace L17
open PySem Ev Lw L2
def lap (call : Nat → FD) : SF := (sCons (sPar 6 7 (aCons (eCall (call 25) [.pos 0] 1 0 (aCons (eVar 1) aNil) (aNil)) (aCons (eCall (call 25) [.pos 0] 1 0 (aCons (eVar 1) aNil) (aNil)) aNil))) (sCons (sIf (bCmp (eOp eqD (eCall (call 21) [.pos 0, .pos 1] 2 0 (aCons (eVar 1) (aCons (eC (.int 5)) aNil)) (aNil)) (eC (.int 0)))) (sCons (sAsg (eCall (call 24) [.pos 0, .pos 1] 2 0 (aCons (eOp subD (eOp addD (eOp mulD (eOp ixD (eVar 6) (eC (.int 0))) (eC (.int 7))) (eCall (call 21) [.pos 0, .pos 1] 2 0 (aCons (eVar 1) (aCons (eC (.int 3)) aNil)) (aNil))) (eC (.int 1))) (aCons (eOp mulD (eOp ixD (eVar 6) (eC (.int 1))) (eC (.int 7))) aNil)) (aNil)) (gSet 7)) (sNil)) (sNil)) (sCons (sAsg (eB (oneR reprD) (aCons (eLst (aCons (eVar 6) (aCons (eVar 7) aNil))) aNil)) (gSet 3)) (sCons (sIf (bOr (bNot (bTru (eCall (call 26) [.pos 0, .pos 1] 2 0 (aCons (eVar 6) (aCons (eVar 7) aNil)) (aNil)))) (bCmp (eOp neD (eB (oneR reprD) (aCons (eLst (aCons (eVar 6) (aCons (eVar 7) aNil))) aNil)) (eVar 3)))) (sCons (sRet (eC (.bl false))) (sNil)) (sNil)) (sCons (sPar3 8 9 10 (aCons (eOp subD (eCall (call 21) [.pos 0, .pos 1] 2 0 (aCons (eVar 1) (aCons (eC (.int 2001)) aNil)) (aNil)) (eC (.int 1000))) (aCons (eOp addD (eC (.int 1)) (eCall (call 21) [.pos 0, .pos 1] 2 0 (aCons (eVar 1) (aCons (eC (.int 300)) aNil)) (aNil))) (aCons (eCall (call 22) [.pos 0, .pos 1] 2 0 (aCons (eVar 1) (aCons (eLst (aCons (eC (.int 1)) (aCons (eUn negD (eC (.int 1))) aNil))) aNil)) (aNil)) aNil)))) (sCons (sAsg (eCall (call 22) [.pos 0, .pos 1] 2 0 (aCons (eVar 1) (aCons (eLst (aCons (eC (.int 1)) (aCons (eC (.int 6)) (aCons (eOp powD (eC (.int 10)) (eC (.int 12))) aNil)))) aNil)) (aNil)) (gSet 4)) (sCons (sAsg (eLst (aCons (eCall (call 14) [.pos 0, .pos 1] 2 0 (aCons (eOp mulD (eVar 8) (eVar 4)) (aCons (eOp mulD (eOp mulD (eVar 9) (eVar 4)) (eVar 10)) aNil)) (aNil)) (aCons (eCall (call 14) [.kw 0, .kw 1] 0 2 (aNil) (aCons (eOp mulD (eVar 8) (eVar 4)) (aCons (eOp mulD (eOp mulD (eVar 9) (eVar 4)) (eVar 10)) aNil))) aNil))) (gSet 5)) (sCons (sIf (bNot (bTru (eCall (call 23) [.pos 0, .pos 1] 2 0 (aCons (eVar 5) (aCons (eOp mulD (eLst (aCons (eCall (call 24) [.pos 0, .pos 1] 2 0 (aCons (eVar 8) (aCons (eOp mulD (eVar 9) (eVar 10)) aNil)) (aNil)) aNil)) (eC (.int 2))) aNil)) (aNil)))) (sCons (sRet (eC (.bl false))) (sNil)) (sNil)) (sNil)))))))))
theorem rep2 (S : Sto) {u : P} {a : D} (h : S.get u = some (.lst [a])) : mulD (.ref u) (.int 2) S = .ok (.ref S.nx) (S.new (.lst [a, a])) := by
  simp only [mulD, h]
  simp [fnOfS, outOf, sNil, sRet, sIf, sExpr, sAsg, gSet, sPar, sPar3, sRetN, R.toS, R.bind, eVar, eC, eOp, eUn, eB, oneR, aCons, aNil, eCall, arrD, bCmp, blR, bTru, truR, truB, bNot, bAnd, bOr, eIf, eAnd, eOr, eNot, isiD, kindD, subKd, lenD, tupR, eTup, intD, ltD, gtD, leD, geD, subD, negD, modD, absD_eq, eqI, neI, addI, List.replicate, List.flatten, line]
theorem f_lap (n : Nat) {p q : P} {cs : List Int} {t : Nat} {S : Sto} (h : Feed p q cs t S) (ht : t < 800000) (x0 x2 x3 x4 x5 x6 x7 x8 x9 x10 : Option D) :
    ∃ S' t' y3 y4 y5 y6 y7 y8 y9 y10, lap (cl (n + 20)) [x0, some (.ref p), x2, x3, x4, x5, x6, x7, x8, x9, x10] S = .next [x0, some (.ref p), x2, y3, y4, y5, y6, y7, y8, y9, y10] S' ∧ t' ≤ t + 30 ∧ Feed p q cs t' S' := by
  have sm : ∀ b : Int, 0 < b → b < 4096 → B 100 b := fun b h1 h2 => B.mono (k := 12) (by unfold B; omega) (by omega)
  obtain ⟨a, S1, t1, e1, A, l1, F1, K1⟩ := f25 (n + 18) h (by omega)
  obtain ⟨b, S2, t2, e2, Bb, l2, F2, K2⟩ := f25 (n + 18) F1 (by omega)
  obtain ⟨w, S3, e3, w1, w2, F3, K3⟩ := f21 (n + 19) F2 (by omega) (b := 5) (by omega) (sm _ (by omega) (by omega))
  have A80 : Fr 80 a := ⟨A.low, A.b1.mono (by omega), A.b2.mono (by omega)⟩
  -- the second fraction
  have st2 : ∃ c S4 t4, Fr 80 c ∧ t4 ≤ t + 20 ∧ Feed p q cs t4 S4 ∧ sIf (bCmp (eOp eqD (eCall (cl (n + 20) 21) [.pos 0, .pos 1] 2 0 (aCons (eVar 1) (aCons (eC (.int 5)) aNil)) (aNil)) (eC (.int 0)))) (sCons (sAsg (eCall (cl (n + 20) 24) [.pos 0, .pos 1] 2 0 (aCons (eOp subD (eOp addD (eOp mulD (eOp ixD (eVar 6) (eC (.int 0))) (eC (.int 7))) (eCall (cl (n + 20) 21) [.pos 0, .pos 1] 2 0 (aCons (eVar 1) (aCons (eC (.int 3)) aNil)) (aNil))) (eC (.int 1))) (aCons (eOp mulD (eOp ixD (eVar 6) (eC (.int 1))) (eC (.int 7))) aNil)) (aNil)) (gSet 7)) (sNil)) (sNil) [x0, some (.ref p), x2, x3, x4, x5, some (fr a), some (fr b), x8, x9, x10] S2 = .next [x0, some (.ref p), x2, x3, x4, x5, some (fr a), some (fr c), x8, x9, x10] S4 := by
    by_cases h0 : w = 0
    · obtain ⟨z, S4, e4, z1, z2, F4, K4⟩ := f21 (n + 19) F3 (by omega) (b := 3) (by omega) (sm _ (by omega) (by omega))
      have b7 : B 3 7 := by unfold B; decide
      have m1 : mulD (.int a.1) (.int 7) S3 = .ok (.int (a.1 * 7)) S3 := mulD_ok A.b1 b7 (by omega)
      have m2 : mulD (.int a.2) (.int 7) S4 = .ok (.int (a.2 * 7)) S4 := mulD_ok A.b2 b7 (by omega)
      have hp := A.low.pos
      have bz : B 73 z := B.mono (k := 3) (by unfold B; omega) (by omega)
      have b1 : B 74 1 := B.mono (k := 3) (by unfold B; decide) (by omega)
      have bu : B 80 (a.1 * 7 + z - 1) := (((A.b1.mul b7).add bz).sub b1).mono (by omega)
      have bl : B 80 (a.2 * 7) := (A.b2.mul b7).mono (by omega)
      refine ⟨M17.made (a.1 * 7 + z - 1) (a.2 * 7), S4, t2 + 1 + 1, made_Fr (l := 0) (by omega) bu bl, by omega, F4, ?_⟩
      simp [fnOfS, outOf, sNil, sRet, sIf, sExpr, sAsg, gSet, sPar, sPar3, sRetN, R.toS, R.bind, eVar, eC, eOp, eUn, eB, oneR, aCons, aNil, eCall, arrD, bCmp, blR, bTru, truR, truB, bNot, bAnd, bOr, eIf, eAnd, eOr, eNot, isiD, kindD, subKd, lenD, tupR, eTup, intD, ltD, gtD, leD, geD, subD, negD, modD, absD_eq, eqI, neI, addI, e3, h0, sCons, ix0, ix1, m1, m2, e4, f24 (n + 19) (a.1 * 7 + z - 1) (a.2 * 7) S4 (by omega) (bu.mono (by omega)) (bl.mono (by omega))]
    · refine ⟨b, S3, t2 + 1, ⟨Bb.low, Bb.b1.mono (by omega), Bb.b2.mono (by omega)⟩, by omega, F3, ?_⟩
      simp [fnOfS, outOf, sNil, sRet, sIf, sExpr, sAsg, gSet, sPar, sPar3, sRetN, R.toS, R.bind, eVar, eC, eOp, eUn, eB, oneR, aCons, aNil, eCall, arrD, bCmp, blR, bTru, truR, truB, bNot, bAnd, bOr, eIf, eAnd, eOr, eNot, isiD, kindD, subKd, lenD, tupR, eTup, intD, ltD, gtD, leD, geD, subD, negD, modD, absD_eq, eqI, neI, addI, e3, h0]
  obtain ⟨c, S4, t4, C, l4, F4, st2⟩ := st2
  -- kept
  have qk := Qs.fr (A.b1.mono (by omega)) (A.b2.mono (by omega)) (Qs.fr (C.b1.mono (by omega)) (C.b2.mono (by omega)) .nil)
  generalize h5 : S4.new (.lst [fr a, fr c]) = S5
  have x5' : Ext S4 S5 := by rw [← h5]; exact .new _ _
  have u5 : S5.get S4.nx = some (.lst [fr a, fr c]) := by rw [← h5]; exact new_same _ _
  have r5 := rep_ok (toPl (ys := [prD a, prD c]) u5 rfl) qk.list (by omega)
  obtain ⟨S6, e6, x6'⟩ := f26 (n + 10) (S := S5) A80 C
  generalize h7 : S6.new (.lst [fr a, fr c]) = S7
  have x7' : Ext S6 S7 := by rw [← h7]; exact .new _ _
  have u7 : S7.get S6.nx = some (.lst [fr a, fr c]) := by rw [← h7]; exact new_same _ _
  have r7 := rep_ok (toPl (ys := [prD a, prD c]) u7 rfl) qk.list (by omega)
  have F7 : Feed p q cs t4 S7 := F4.ext ((x5'.trans x6').trans x7')
  -- the scaled pair
  obtain ⟨up, S8, e8, up1, up2, F8, K8⟩ := f21 (n + 19) F7 (by omega) (b := 2001) (by omega) (sm _ (by omega) (by omega))
  obtain ⟨lo, S9, e9, lo1, lo2, F9, K9⟩ := f21 (n + 19) F8 (by omega) (b := 300) (by omega) (sm _ (by omega) (by omega))
  generalize h10 : S9.new (.lst [.int 1, .int (-1)]) = S10
  have x10' : Ext S9 S10 := by rw [← h10]; exact .new _ _
  have F10 := F9.ext x10'
  have n10 : S9.nx.toNat < S10.nx.toNat := by rw [← h10]; exact succ_lt _
  have u10 : S10.get S9.nx = some (.lst (([1, -1] : List Int).map .int)) := by rw [← h10]; exact new_same _ _
  obtain ⟨sg, S11, sg1, e11, F11, K11⟩ := f22 (n + 18) F10 (by omega) u10 (ne_of_nat F9.lp).symm n10 (by simp) (by simp)
  generalize h12 : S11.new (.lst [.int 1, .int 6, .int 1000000000000]) = S12
  have x12 : Ext S11 S12 := by rw [← h12]; exact .new _ _
  have F12 := F11.ext x12
  have n12 : S11.nx.toNat < S12.nx.toNat := by rw [← h12]; exact succ_lt _
  have u12 : S12.get S11.nx = some (.lst (([1, 6, 1000000000000] : List Int).map .int)) := by rw [← h12]; exact new_same _ _
  obtain ⟨wd, S13, wd1, e13, F13, K13⟩ := f22 (n + 18) F12 (by omega) u12 (ne_of_nat F11.lp).symm n12 (by simp) (by simp)
  have hsg : sg = 1 ∨ sg = -1 := by simpa using sg1
  have hwd : wd = 1 ∨ wd = 6 ∨ wd = 1000000000000 := by simpa using wd1
  have g60 : ∀ i : Int, -1152921504606846976 < i → i < 1152921504606846976 → B 60 i := by
    intro i z1 z2
    unfold B
    omega
  have bup : B 60 (up - 1000) := g60 _ (by omega) (by omega)
  have blo : B 60 (1 + lo) := g60 _ (by omega) (by omega)
  have bsg : B 60 sg := g60 _ (by omega) (by omega)
  have bwd : B 60 wd := g60 _ (by omega) (by omega)
  have hls : (1 + lo) * sg ≠ 0 := Int.mul_ne_zero (by omega) (by omega)
  have hlw : (1 + lo) * wd * sg ≠ 0 := Int.mul_ne_zero (Int.mul_ne_zero (by omega) (by omega)) (by omega)
  have bb : B 8000 ((1 + lo) * wd * sg) := ((blo.mul bwd).mul bsg).mono (by omega)
  have md : M17.made ((up - 1000) * wd) ((1 + lo) * wd * sg) = M17.made (up - 1000) ((1 + lo) * sg) := by
    have : (1 + lo) * wd * sg = (1 + lo) * sg * wd := by rw [Int.mul_assoc, Int.mul_comm wd, ← Int.mul_assoc]
    rw [this]
    exact M17.made_scale hls (by omega)
  have bls : B 8000 ((1 + lo) * sg) := (blo.mul bsg).mono (by omega)
  have E := made_Fr (l := 0) (k := 120) hls (bup.mono (by omega)) (blo.mul bsg)
  generalize hE : M17.made (up - 1000) ((1 + lo) * sg) = v at *
  have fr14 := f14 (n + 17) S13 ((up - 1000) * wd) ((1 + lo) * wd * sg) hlw bb
  rw [md] at fr14
  generalize h14 : S13.new (.lst [fr v, fr v]) = S14
  have x14 : Ext S13 S14 := by rw [← h14]; exact .new _ _
  have n14 : S13.nx.toNat < S14.nx.toNat := by rw [← h14]; exact succ_lt _
  generalize h15 : S14.new (.lst [fr v]) = S15
  have x15 : Ext S14 S15 := by rw [← h15]; exact .new _ _
  have u15 : S15.get S14.nx = some (.lst [fr v]) := by rw [← h15]; exact new_same _ _
  generalize h16 : S15.new (.lst [fr v, fr v]) = S16
  have x16 : Ext S15 S16 := by rw [← h16]; exact .new _ _
  have u16 : S16.get S13.nx = some (.lst [fr v, fr v]) := by rw [(x15.trans x16).eq _ n14, ← h14]; exact new_same _ _
  have v16 : S16.get S15.nx = some (.lst [fr v, fr v]) := by rw [← h16]; exact new_same _ _
  have qv := Qs.fr (E.b1.mono (by omega)) (E.b2.mono (by omega)) (Qs.fr (E.b1.mono (by omega)) (E.b2.mono (by omega)) .nil)
  have same := f23 (n + 19) (toPl (ys := [prD v, prD v]) u16 rfl) (toPl v16 rfl) qv.list (by omega)
  have f24' := f24 (n + 19) (up - 1000) ((1 + lo) * sg) S14 hls (bup.mono (by omega)) bls
  rw [hE] at f24'
  refine ⟨S16, t4 + 1 + 1 + 1 + 1, some (.rep (.list [prD a, prD c])), some (.int wd), some (.ref S13.nx), some (fr a), some (fr c), some (.int (up - 1000)), some (.int (1 + lo)), some (.int sg), ?_, by omega, F13.ext ((x14.trans x15).trans x16)⟩
  unfold lap
  refine sC (e1 := [x0, some (.ref p), x2, x3, x4, x5, some (fr a), some (fr b), x8, x9, x10]) (S1 := S2) ?_ (sC st2
    (sC (e1 := [x0, some (.ref p), x2, some (.rep (.list [prD a, prD c])), x4, x5, some (fr a), some (fr c), x8, x9, x10]) (S1 := S5) ?_
    (sC (e1 := [x0, some (.ref p), x2, some (.rep (.list [prD a, prD c])), x4, x5, some (fr a), some (fr c), x8, x9, x10]) (S1 := S7) ?_
    (sC (e1 := [x0, some (.ref p), x2, some (.rep (.list [prD a, prD c])), x4, x5, some (fr a), some (fr c), some (.int (up - 1000)), some (.int (1 + lo)), some (.int sg)]) (S1 := S11) ?_
    (sC (e1 := [x0, some (.ref p), x2, some (.rep (.list [prD a, prD c])), some (.int wd), x5, some (fr a), some (fr c), some (.int (up - 1000)), some (.int (1 + lo)), some (.int sg)]) (S1 := S13) ?_
    (sC (e1 := [x0, some (.ref p), x2, some (.rep (.list [prD a, prD c])), some (.int wd), some (.ref S13.nx), some (fr a), some (fr c), some (.int (up - 1000)), some (.int (1 + lo)), some (.int sg)]) (S1 := S14) ?_
    (sC (e1 := [x0, some (.ref p), x2, some (.rep (.list [prD a, prD c])), some (.int wd), some (.ref S13.nx), some (fr a), some (fr c), some (.int (up - 1000)), some (.int (1 + lo)), some (.int sg)]) (S1 := S16) ?_ rfl)))))))
  · simp [fnOfS, outOf, sNil, sRet, sIf, sExpr, sAsg, gSet, sPar, sPar3, sRetN, R.toS, R.bind, eVar, eC, eOp, eUn, eB, oneR, aCons, aNil, eCall, arrD, bCmp, blR, bTru, truR, truB, bNot, bAnd, bOr, eIf, eAnd, eOr, eNot, isiD, kindD, subKd, lenD, tupR, eTup, intD, ltD, gtD, leD, geD, subD, negD, modD, absD_eq, eqI, neI, addI, e1, e2]
  · simp [fnOfS, outOf, sNil, sRet, sIf, sExpr, sAsg, gSet, sPar, sPar3, sRetN, R.toS, R.bind, eVar, eC, eOp, eUn, eB, oneR, aCons, aNil, eCall, arrD, bCmp, blR, bTru, truR, truB, bNot, bAnd, bOr, eIf, eAnd, eOr, eNot, isiD, kindD, subKd, lenD, tupR, eTup, intD, ltD, gtD, leD, geD, subD, negD, modD, absD_eq, eqI, neI, addI, eLst, lst2, h5, r5]
  · simp [fnOfS, outOf, sNil, sRet, sIf, sExpr, sAsg, gSet, sPar, sPar3, sRetN, R.toS, R.bind, eVar, eC, eOp, eUn, eB, oneR, aCons, aNil, eCall, arrD, bCmp, blR, bTru, truR, truB, bNot, bAnd, bOr, eIf, eAnd, eOr, eNot, isiD, kindD, subKd, lenD, tupR, eTup, intD, ltD, gtD, leD, geD, subD, negD, modD, absD_eq, eqI, neI, addI, e6, eLst, lst2, h7, r7, ne_rep qk.list.e]
  · simp [fnOfS, outOf, sNil, sRet, sIf, sExpr, sAsg, gSet, sPar, sPar3, sRetN, R.toS, R.bind, eVar, eC, eOp, eUn, eB, oneR, aCons, aNil, eCall, arrD, bCmp, blR, bTru, truR, truB, bNot, bAnd, bOr, eIf, eAnd, eOr, eNot, isiD, kindD, subKd, lenD, tupR, eTup, intD, ltD, gtD, leD, geD, subD, negD, modD, absD_eq, eqI, neI, addI, e8, e9, eLst, lst2, h10, e11]
  · simp [fnOfS, outOf, sNil, sRet, sIf, sExpr, sAsg, gSet, sPar, sPar3, sRetN, R.toS, R.bind, eVar, eC, eOp, eUn, eB, oneR, aCons, aNil, eCall, arrD, bCmp, blR, bTru, truR, truB, bNot, bAnd, bOr, eIf, eAnd, eOr, eNot, isiD, kindD, subKd, lenD, tupR, eTup, intD, ltD, gtD, leD, geD, subD, negD, modD, absD_eq, eqI, neI, addI, eLst, lst3, pow12, h12, e13]
  · have m1 : ∀ S, mulD (.int (up - 1000)) (.int wd) S = .ok (.int ((up - 1000) * wd)) S := fun S => mulD_ok bup bwd (by omega)
    have m2 : ∀ S, mulD (.int (1 + lo)) (.int wd) S = .ok (.int ((1 + lo) * wd)) S := fun S => mulD_ok blo bwd (by omega)
    have m3 : ∀ S, mulD (.int ((1 + lo) * wd)) (.int sg) S = .ok (.int ((1 + lo) * wd * sg)) S := fun S => mulD_ok (blo.mul bwd) bsg (by omega)
    simp [fnOfS, outOf, sNil, sRet, sIf, sExpr, sAsg, gSet, sPar, sPar3, sRetN, R.toS, R.bind, eVar, eC, eOp, eUn, eB, oneR, aCons, aNil, eCall, arrD, bCmp, blR, bTru, truR, truB, bNot, bAnd, bOr, eIf, eAnd, eOr, eNot, isiD, kindD, subKd, lenD, tupR, eTup, intD, ltD, gtD, leD, geD, subD, negD, modD, absD_eq, eqI, neI, addI, m1, m2, m3, fr14, eLst, lst2, h14]
  · have m2 : ∀ S, mulD (.int (1 + lo)) (.int sg) S = .ok (.int ((1 + lo) * sg)) S := fun S => mulD_ok blo bsg (by omega)
    simp [fnOfS, outOf, sNil, sRet, sIf, sExpr, sAsg, gSet, sPar, sPar3, sRetN, R.toS, R.bind, eVar, eC, eOp, eUn, eB, oneR, aCons, aNil, eCall, arrD, bCmp, blR, bTru, truR, truB, bNot, bAnd, bOr, eIf, eAnd, eOr, eNot, isiD, kindD, subKd, lenD, tupR, eTup, intD, ltD, gtD, leD, geD, subD, negD, modD, absD_eq, eqI, neI, addI, m2, f24', eLst, lst1, h15, rep2 S15 u15, h16, same]
theorem f_laps (n : Nat) {p q : P} {cs : List Int} (x0 : Option D) : ∀ (m i k t : Nat) (S : Sto) (x2 x3 x4 x5 x6 x7 x8 x9 x10 : Option D), 12 - i = m → i ≤ 12 → m < k → Feed p q cs t S → t ≤ 30 * i →
    ∃ S' y2 y3 y4 y5 y6 y7 y8 y9 y10, forR (itRng 0 12) (gSet 2) (lap (cl (n + 20))) k i [x0, some (.ref p), x2, x3, x4, x5, x6, x7, x8, x9, x10] S = .next [x0, some (.ref p), y2, y3, y4, y5, y6, y7, y8, y9, y10] S'
  | 0, i, k, t, S, x2, x3, x4, x5, x6, x7, x8, x9, x10, h1, h2, h3, F, ht => by
    obtain ⟨k, rfl⟩ : ∃ j, k = j + 1 := ⟨k - 1, by omega⟩
    have : i = 12 := by omega
    subst this
    exact ⟨S, x2, x3, x4, x5, x6, x7, x8, x9, x10, rfl⟩
  | m + 1, i, k, t, S, x2, x3, x4, x5, x6, x7, x8, x9, x10, h1, h2, h3, F, ht => by
    obtain ⟨k, rfl⟩ : ∃ j, k = j + 1 := ⟨k - 1, by omega⟩
    obtain ⟨S1, t1, y3, y4, y5, y6, y7, y8, y9, y10, e, l, F1⟩ := f_lap n F (by omega) x0 (some (.int (0 + i))) x3 x4 x5 x6 x7 x8 x9 x10
    obtain ⟨S2, z2, z3, z4, z5, z6, z7, z8, z9, z10, r⟩ := f_laps n x0 m (i + 1) k t1 S1 (some (.int (0 + i))) y3 y4 y5 y6 y7 y8 y9 y10 (by omega) (by omega) (by omega) F1 (by omega)
    refine ⟨S2, z2, z3, z4, z5, z6, z7, z8, z9, z10, ?_⟩
    have hi : Nat.blt i 12 = true := by simp [fnOfS, outOf, sNil, sRet, sIf, sExpr, sAsg, gSet, sPar, sPar3, sRetN, R.toS, R.bind, eVar, eC, eOp, eUn, eB, oneR, aCons, aNil, eCall, arrD, bCmp, blR, bTru, truR, truB, bNot, bAnd, bOr, eIf, eAnd, eOr, eNot, isiD, kindD, subKd, lenD, tupR, eTup, intD, ltD, gtD, leD, geD, subD, negD, modD, absD_eq, eqI, neI, addI, Nat.blt_eq]; omega
    unfold forR
    simp only [itRng, hi, cond, gSet, List.set, e]
    exact r
theorem law_true (ns : List Int) (hn : ns.length ≤ 63) : ∃ S, cl 24 27 [.scr (ns.map D.int)] S0 = .ok (.bl true) S := by
  obtain ⟨S1, p, q, cs, e1, F⟩ := f20 22 ns hn S0
  obtain ⟨S2, y2, y3, y4, y5, y6, y7, y8, y9, y10, e2⟩ := f_laps 3 (some (.scr (ns.map D.int))) 12 0 100000 0 S1 none none none none none none none none none (by omega) (by omega) (by omega) F (by omega)
  refine ⟨S2, ?_⟩
  rw [c27]
  have s1 : sAsg (eCall (cl 23 20) [.pos 0] 1 0 (aCons (eVar 0) aNil) (aNil)) (gSet 1) [some (.scr (ns.map D.int)), none, none, none, none, none, none, none, none, none, none] S0 = .next [some (.scr (ns.map D.int)), some (.ref p), none, none, none, none, none, none, none, none, none] S1 := by
    simp [fnOfS, outOf, sNil, sRet, sIf, sExpr, sAsg, gSet, sPar, sPar3, sRetN, R.toS, R.bind, eVar, eC, eOp, eUn, eB, oneR, aCons, aNil, eCall, arrD, bCmp, blR, bTru, truR, truB, bNot, bAnd, bOr, eIf, eAnd, eOr, eNot, isiD, kindD, subKd, lenD, tupR, eTup, intD, ltD, gtD, leD, geD, subD, negD, modD, absD_eq, eqI, neI, addI, e1]
  have s2 : sFor 100000 (iRng1' (aCons (eC (.int 12)) aNil)) (gSet 2) (lap (cl 23)) [some (.scr (ns.map D.int)), some (.ref p), none, none, none, none, none, none, none, none, none] S1 = .next [some (.scr (ns.map D.int)), some (.ref p), y2, y3, y4, y5, y6, y7, y8, y9, y10] S2 := by
    exact e2
  show outOf (b27 (cl 23) [some (.scr (ns.map D.int)), none, none, none, none, none, none, none, none, none, none] S0) = _
  have hs : b27 (cl 23) [some (.scr (ns.map D.int)), none, none, none, none, none, none, none, none, none, none] S0 = .ret (.bl true) S2 := sC s1 (sC s2 (sR rfl))
  rw [hs]
  rfl
end L17
theorem Lw.law_true (ns : List Int) (hn : ns.length ≤ 63) : ∃ S, Ev.fdN Lw.fn Lw.depth 27 [.scr (ns.map Ev.D.int)] Ev.S0 = .ok (.bl true) S := L17.law_true ns hn

open PySem PySem.W PySem.Calls PyProof.Rows

theorem PySem.Challenge.cw_leastapart_k17_whole_fractions_reckoned_holds : PySem.Challenge.rw_leastapart_k17_whole_fractions_reckoned.Holds := by
  w_on; o_law
  refine HandSHeadRun.head_any (r := OpenLaw.row PySem.Challenge.rw_leastapart_k17_whole_fractions_reckoned) (q := view (OpenLaw.row PySem.Challenge.rw_leastapart_k17_whole_fractions_reckoned).prog [38]) (H := Lw.hk) (ob := Lw.ob) (M := 12000) (loose := Lw.loose) (d := HandSHeadRun.topDef (OpenLaw.row PySem.Challenge.rw_leastapart_k17_whole_fractions_reckoned).prog 38) (kwd := []) Lw.ob_eq
    (by kernel_rfl) (fun s => by kernel_rfl) Lw.run (by kernel_rfl) (by kernel_rfl) (by kernel_rfl) (by rfl) (by first | assumption | decide +kernel) (by decide +kernel) ⟨rfl, rfl, rfl, rfl, rfl, by decide +kernel⟩ ?hw ?hc
  case hw => w_witness2
  case hc =>
    refine Ev.walk_law (l := PySem.Challenge.rw_leastapart_k17_whole_fractions_reckoned) (n := 63) (k := Lw.depth) (x := "_law_script") rfl (by decide) (by kernel_rfl) ⟨rfl, by decide, by decide⟩ ?_
    intro w mg fa h Y G hmg0
    obtain ⟨K, KX, c⟩ := Y
    have hmg : mg ("law" : PySem.Str) = some (.ref fa) := by
      have e : (HandSHeadRun.topDef (OpenLaw.row PySem.Challenge.rw_leastapart_k17_whole_fractions_reckoned).prog 38).name = ("law" : PySem.Str) := by kernel_rfl
      rw [← e]
      exact hmg0
    have e := hmg.symm.trans (He.glo_ok KX G (Ev.says_fact c 27 rfl))
    cases e
    obtain ⟨fd, F⟩ := Lw.dff c 27 _ rfl
    refine ⟨K, _, Ev.fdN Lw.fn Lw.depth 27, KX, ?_, fun ns hn => Lw.law_true ns hn, fun base kb gb => Ev.fnG_all (Lw.facts kb gb c) Lw.hbs Lw.depth 27 _ rfl⟩
    intro s u
    have b := L2.FunD.bindsA (ps := Lw.p27) F fun _ _ _ _ _ _ us hl => match us, hl with | [_], _ => rfl
    have b2 := b s [u] rfl
    rw [Ev.fdAt_ok F] at b2
    exact b2
