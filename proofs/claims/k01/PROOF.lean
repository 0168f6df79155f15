import PyProof.Rows.All
import Wide.All
import OpenK.AllK
import Wide.FinOn
import PySem.Challenge.RW_linkparity_k01_graphs_constructed
import HandS.ForMost
import HandS.Exc
import HandS.TryOnly
import HandS.ExcOwn
import HandS.WordsExc
import HandS.CallSlots
import HandS.Deep
import HandS.TupAny
import HandS.Wide
import HandS.WideBits
import HandS.IsInst
import HandS.Text
import HandS.Iter
import HandS.Zip
import HandS.Codes
import HandS.TupSets
import HandS.Strs
import KE.KDictKeyed
import HandS.SetFor
import KE.SortData
import KE.DataMinMax
import KE.SortCalls
import PyProof.TupleOfSeq
import HandS.ExcValue
import KE.KDictZip
import HandS.OwnEq
import PyProof.InstEq
import HandS.EndBits
import HandS.Small
import PyProof.ListStr
set_option Elab.async false
set_option linter.all false
set_option maxRecDepth 100000
set_option maxHeartbeats 4000000
/-! J1: data as plain terms (tuples by value, lists by address) over the hand layer: relations, judgements, base rules. -/
namespace J
open PySem L2

/-- a value: tuples are terms, what may change stands at an address -/
inductive Dv where
  | non | bl (b : Bool) | int (i : Int) | str (x : Str) | tup (xs : List Dv) | ad (a : Addr) | ty (n : String)
  /-- a list that nobody may change -/
  | fl (xs : List Dv)
structure Ct where
  K : PySem.W.Frag
  w : World
/-- what stands at an address -/
inductive Ob where
  | lst (xs : List Dv)
  | ins (C : Addr) (fs : List (Str × Dv))
  /-- a dict whose keys are ints and texts -/
  | dic (kvs : List (Key × Dv))
  | ext (o : HO)
abbrev Hq := Addr → Option Ob
def up (G : Hq) (a : Addr) (o : Ob) : Hq := fun b => if b = a then some o else G b
theorem up_same {G : Hq} {a : Addr} {o : Ob} : up G a o a = some o := by unfold up; rw [if_pos rfl]
theorem up_ne {G : Hq} {a b : Addr} {o : Ob} (h : b ≠ a) : up G a o b = G b := by unfold up; rw [if_neg h]
theorem up_up {G : Hq} {a : Addr} {o u : Ob} : up (up G a o) a u = up G a u := by
  funext b; unfold up; split <;> rfl
abbrev Tq := List (Option Dv)
abbrev KQ := Dv → Hq → Prop
/-- an exception: its class, its fields, the heap -/
abbrev XQ := Value → List (Str × Dv) → Hq → Prop
abbrev JX := Value → List (Str × Dv) → Tq → Hq → Prop

section
variable (K : Ct)
def FzL (H : Hp) (a : Addr) (vs : List V) : Prop := (∃ o, H a = some (.frz o (.lst vs))) ∨
  ∃ (o : Obj) (its : Array Value) (n : Nat), K.K.lookup a = some o ∧ o.cls = .type "list" ∧ o.dict = none ∧ o.data = .seq its n ∧ its.size ≤ sizeLine ∧ Vals vs its.toList
mutual
def rv (H : Hp) : Dv → V → Prop
  | .non, v => v = .non
  | .bl b, v => v = .bl b
  | .int i, v => v = .int i
  | .str x, v => v = .str x
  | .ty n, v => v = .ty n
  | .ad a, v => v = .ref a
  | .tup xs, v => ∃ a vs, v = .ref a ∧ SqT K.K H a vs ∧ rvs H xs vs
  | .fl xs, v => ∃ a vs, v = .ref a ∧ FzL K H a vs ∧ rvs H xs vs
def rvs (H : Hp) : List Dv → List V → Prop
  | [], vs => vs = []
  | x :: xs, vs => ∃ v r, vs = v :: r ∧ rv H x v ∧ rvs H xs r
end
def rfs (H : Hp) : List (Str × Dv) → List (Str × V) → Prop
  | [], vs => vs = []
  | x :: xs, vs => ∃ v r, vs = (x.1, v) :: r ∧ rv K H x.2 v ∧ rfs H xs r
abbrev rkv (H : Hp) : List (Key × Dv) → List (Key × V) → Prop := Paired fun p q => p.1 = q.1 ∧ rv K H p.2 q.2
def ro (H : Hp) (a : Addr) : Ob → Prop
  | .dic kvs => ∃ vs, H a = some (.dK vs) ∧ rkv K H kvs vs
  | .lst xs => ∃ vs, H a = some (.lst vs) ∧ rvs K H xs vs
  | .ins C fs => ∃ dx vs, H a = some (.ins C dx vs) ∧ H dx = some (.own a) ∧ rfs K H fs vs
  | .ext o => H a = some o
def rh (G : Hq) (H : Hp) : Prop := ∀ a o, G a = some o → ro K H a o
def rs (H : Hp) (τ : Tq) (σ : St) : Prop := τ.length = σ.length ∧ ∀ (i : Nat) x, τ[i]? = some (some x) → ∃ v, σ[i]? = some (some v) ∧ rv K H x v
def xr (H : Hp) (fs : List (Str × Dv)) : Option Addr → Prop
  | none => fs = []
  | some a => ∃ vs, H a = some (.xd vs) ∧ rfs K H fs vs
/-- tuples stay -/
def Le (H H' : Hp) : Prop := ∀ a vs, (SqT K.K H a vs → SqT K.K H' a vs) ∧ (FzL K H a vs → FzL K H' a vs)
end

section
variable {K : Ct} {H H1 H2 : Hp} {G : Hq}
theorem Le.refl (H : Hp) : Le K H H := fun _ _ => ⟨fun h => h, fun h => h⟩
theorem Le.trans (h : Le K H H1) (k : Le K H1 H2) : Le K H H2 := fun a vs => ⟨fun q => (k a vs).1 ((h a vs).1 q), fun q => (k a vs).2 ((h a vs).2 q)⟩
theorem Le.of (t : ∀ b xs, H b = some (.tup xs) → H1 b = some (.tup xs)) (f : ∀ b o u, H b = some (.frz o u) → H1 b = some (.frz o u)) : Le K H H1 := fun a vs => by
  refine ⟨fun q => ?_, fun q => ?_⟩
  · rcases q with (q | ⟨o, q⟩) | q
    · exact .inl (.inl (t a vs q))
    · exact .inl (.inr ⟨o, f a o _ q⟩)
    · exact .inr q
  · rcases q with ⟨o, q⟩ | q
    · exact .inl ⟨o, f a o _ q⟩
    · exact .inr q
theorem Le.new {p : Addr} {o : HO} (h : H p = none) : Le K H (upd H p o) :=
  Le.of (fun b xs q => by rw [upd_ne (ne_of_none q h)]; exact q) fun b o u q => by rw [upd_ne (ne_of_none q h)]; exact q
theorem Le.mut {p : Addr} {o u : HO} (h : H p = some u) (m : Mut (some u)) : Le K H (upd H p o) :=
  Le.of (fun b xs q => by
    have : b ≠ p := fun e => by subst e; rw [h] at q; cases q; exact m
    rw [upd_ne this]; exact q) fun b o u q => by
    have : b ≠ p := fun e => by subst e; rw [h] at q; cases q; exact m
    rw [upd_ne this]; exact q
mutual
theorem rv.le (l : Le K H H1) : ∀ {x : Dv} {v : V}, rv K H x v → rv K H1 x v
  | .non, _, h => h
  | .bl _, _, h => h
  | .int _, _, h => h
  | .str _, _, h => h
  | .ty _, _, h => h
  | .ad _, _, h => h
  | .tup xs, v, h => by
    unfold rv at h ⊢
    obtain ⟨a, vs, e, s, r⟩ := h
    exact ⟨a, vs, e, (l _ _).1 s, rvs.le l r⟩
  | .fl xs, v, h => by
    unfold rv at h ⊢
    obtain ⟨a, vs, e, s, r⟩ := h
    exact ⟨a, vs, e, (l _ _).2 s, rvs.le l r⟩
theorem rvs.le (l : Le K H H1) : ∀ {xs : List Dv} {vs : List V}, rvs K H xs vs → rvs K H1 xs vs
  | [], _, h => h
  | x :: xs, vs, h => by
    unfold rvs at h ⊢
    obtain ⟨v, r, e, a, b⟩ := h
    exact ⟨v, r, e, rv.le l a, rvs.le l b⟩
end
theorem rfs.le (l : Le K H H1) : ∀ {xs : List (Str × Dv)} {vs : List (Str × V)}, rfs K H xs vs → rfs K H1 xs vs
  | [], _, h => h
  | x :: xs, vs, h => by
    unfold rfs at h ⊢
    obtain ⟨v, r, e, a, b⟩ := h
    exact ⟨v, r, e, a.le l, rfs.le l b⟩
theorem rs.le (l : Le K H H1) {τ : Tq} {σ : St} (h : rs K H τ σ) : rs K H1 τ σ := ⟨h.1, fun i x e => by
  obtain ⟨v, e1, r⟩ := h.2 i x e
  exact ⟨v, e1, r.le l⟩⟩
theorem rvs.length : ∀ {xs : List Dv} {vs : List V}, rvs K H xs vs → xs.length = vs.length
  | [], _, h => by unfold rvs at h; subst h; rfl
  | x :: xs, vs, h => by
    unfold rvs at h
    obtain ⟨v, r, e, _, b⟩ := h
    subst e
    rw [List.length_cons, List.length_cons, rvs.length b]
theorem rvs.get : ∀ {xs : List Dv} {vs : List V} {i : Nat} {x : Dv}, rvs K H xs vs → xs[i]? = some x → ∃ v, vs[i]? = some v ∧ rv K H x v
  | [], _, i, x, _, e => by simp at e
  | y :: xs, vs, 0, x, h, e => by
    unfold rvs at h
    obtain ⟨v, r, e1, a, _⟩ := h
    subst e1
    simp at e; subst e
    exact ⟨v, rfl, a⟩
  | y :: xs, vs, i + 1, x, h, e => by
    unfold rvs at h
    obtain ⟨v, r, e1, _, b⟩ := h
    subst e1
    obtain ⟨u, h1, h2⟩ := rvs.get (i := i) b (by simpa using e)
    exact ⟨u, by simpa using h1, h2⟩
theorem rvs.nil : rvs K H [] [] := by unfold rvs; rfl
theorem rvs.cons {x : Dv} {v : V} {xs : List Dv} {vs : List V} (a : rv K H x v) (b : rvs K H xs vs) : rvs K H (x :: xs) (v :: vs) := by
  unfold rvs; exact ⟨v, vs, rfl, a, b⟩
theorem rvs.inv {x : Dv} {xs : List Dv} {vs : List V} (h : rvs K H (x :: xs) vs) : ∃ v r, vs = v :: r ∧ rv K H x v ∧ rvs K H xs r := by
  unfold rvs at h; exact h
theorem rvs.inv0 {vs : List V} (h : rvs K H [] vs) : vs = [] := by unfold rvs at h; exact h
theorem rvs.append : ∀ {xs ys : List Dv} {vs us : List V}, rvs K H xs vs → rvs K H ys us → rvs K H (xs ++ ys) (vs ++ us)
  | [], _, vs, _, h, k => by unfold rvs at h; subst h; exact k
  | x :: xs, _, vs, _, h, k => by
    obtain ⟨v, r, e, a, b⟩ := h.inv
    subst e
    exact rvs.cons a (rvs.append b k)
theorem rvs.take : ∀ (n : Nat) {xs : List Dv} {vs : List V}, rvs K H xs vs → rvs K H (xs.take n) (vs.take n)
  | 0, _, _, _ => by rw [List.take_zero, List.take_zero]; exact rvs.nil
  | n + 1, [], vs, h => by rw [rvs.inv0 h]; exact rvs.nil
  | n + 1, x :: xs, vs, h => by
    obtain ⟨v, r, e, a, b⟩ := h.inv
    subst e
    exact rvs.cons a (rvs.take n b)
theorem rvs.drop : ∀ (n : Nat) {xs : List Dv} {vs : List V}, rvs K H xs vs → rvs K H (xs.drop n) (vs.drop n)
  | 0, _, _, h => h
  | n + 1, [], vs, h => by rw [rvs.inv0 h]; exact rvs.nil
  | n + 1, x :: xs, vs, h => by
    obtain ⟨v, r, e, a, b⟩ := h.inv
    subst e
    exact rvs.drop n b
theorem rvs.reverse : ∀ {xs : List Dv} {vs : List V}, rvs K H xs vs → rvs K H xs.reverse vs.reverse
  | [], vs, h => by rw [rvs.inv0 h]; exact rvs.nil
  | x :: xs, vs, h => by
    obtain ⟨v, r, e, a, b⟩ := h.inv
    subst e
    rw [List.reverse_cons, List.reverse_cons]
    exact rvs.append (rvs.reverse b) (rvs.cons a rvs.nil)
theorem rvs.set {x : Dv} {v : V} (a : rv K H x v) : ∀ (i : Nat) {xs : List Dv} {vs : List V}, rvs K H xs vs → rvs K H (xs.set i x) (vs.set i v)
  | _, [], vs, h => by rw [rvs.inv0 h]; exact rvs.nil
  | 0, y :: xs, vs, h => by
    obtain ⟨u, r, e, _, b⟩ := h.inv
    subst e
    exact rvs.cons a b
  | i + 1, y :: xs, vs, h => by
    obtain ⟨u, r, e, c, b⟩ := h.inv
    subst e
    exact rvs.cons c (rvs.set a i b)
theorem rvs.eraseIdx : ∀ (i : Nat) {xs : List Dv} {vs : List V}, rvs K H xs vs → rvs K H (xs.eraseIdx i) (vs.eraseIdx i)
  | _, [], vs, h => by rw [rvs.inv0 h]; exact rvs.nil
  | 0, y :: xs, vs, h => by
    obtain ⟨u, r, e, _, b⟩ := h.inv
    subst e
    exact b
  | i + 1, y :: xs, vs, h => by
    obtain ⟨u, r, e, c, b⟩ := h.inv
    subst e
    exact rvs.cons c (rvs.eraseIdx i b)
theorem rvs.dropLast : ∀ {xs : List Dv} {vs : List V}, rvs K H xs vs → rvs K H xs.dropLast vs.dropLast
  | [], vs, h => by rw [rvs.inv0 h]; exact rvs.nil
  | [y], vs, h => by
    obtain ⟨u, r, e, c, b⟩ := h.inv
    subst e
    rw [rvs.inv0 b]; exact rvs.nil
  | y :: z :: xs, vs, h => by
    obtain ⟨u, r, e, c, b⟩ := h.inv
    subst e
    obtain ⟨u2, r2, e2, c2, b2⟩ := b.inv
    subst e2
    exact rvs.cons c (rvs.dropLast b)
theorem rfs.lookup {f : Str} : ∀ {xs : List (Str × Dv)} {vs : List (Str × V)}, rfs K H xs vs → (∀ x, xs.lookup f = some x → ∃ v, vs.lookup f = some v ∧ rv K H x v) ∧ (xs.lookup f = none → vs.lookup f = none)
  | [], vs, h => by unfold rfs at h; subst h; exact ⟨fun x e => by simp at e, fun _ => rfl⟩
  | x :: xs, vs, h => by
    unfold rfs at h
    obtain ⟨v, r, e, a, b⟩ := h
    subst e
    obtain ⟨i1, i2⟩ := rfs.lookup (f := f) b
    obtain ⟨k, d⟩ := x
    simp only [List.lookup_cons]
    by_cases e : (f == k) = true
    · simp only [e]
      exact ⟨fun x q => by cases q; exact ⟨v, rfl, a⟩, fun q => by cases q⟩
    · simp only [e]
      exact ⟨i1, i2⟩
theorem rfs.length : ∀ {xs : List (Str × Dv)} {vs : List (Str × V)}, rfs K H xs vs → xs.length = vs.length
  | [], _, h => by unfold rfs at h; subst h; rfl
  | x :: xs, vs, h => by
    unfold rfs at h
    obtain ⟨v, r, e, _, b⟩ := h
    subst e
    rw [List.length_cons, List.length_cons, rfs.length b]

/-! ### heaps -/
def HSub (G G' : Hq) : Prop := ∀ a o, G a = some o → G' a = some o
def TSub (τ τ' : Tq) : Prop := τ.length = τ'.length ∧ ∀ (i : Nat) x, τ[i]? = some (some x) → τ'[i]? = some (some x)
theorem HSub.refl (G : Hq) : HSub G G := fun _ _ h => h
theorem HSub.trans {G G1 G2 : Hq} (h : HSub G G1) (k : HSub G1 G2) : HSub G G2 := fun a o q => k a o (h a o q)
theorem TSub.refl (τ : Tq) : TSub τ τ := ⟨rfl, fun _ _ h => h⟩
theorem TSub.trans {a b c : Tq} (h : TSub a b) (k : TSub b c) : TSub a c := ⟨h.1.trans k.1, fun i x q => k.2 i x (h.2 i x q)⟩
theorem rh.sub {G G' : Hq} (h : HSub G G') (r : rh K G' H) : rh K G H := fun a o e => r a o (h a o e)
theorem rs.sub {τ τ' : Tq} {σ : St} (h : TSub τ τ') (r : rs K H τ' σ) : rs K H τ σ := ⟨h.1.trans r.1, fun i x e => r.2 i x (h.2 i x e)⟩
/-- what else is tracked stays as it was -/
theorem ro.stay {a : Addr} {o : Ob} (l : Le K H H1) (k : ∀ u, H a = some u → H1 a = some u) (kd : ∀ dx, H dx = some (.own a) → H1 dx = some (.own a)) (h : ro K H a o) : ro K H1 a o := by
  cases o with
  | lst xs => obtain ⟨vs, e, r⟩ := h; exact ⟨vs, k _ e, r.le l⟩
  | ins C fs => obtain ⟨dx, vs, e, d, r⟩ := h; exact ⟨dx, vs, k _ e, kd _ d, r.le l⟩
  | dic kvs => obtain ⟨vs, e, r⟩ := h; exact ⟨vs, k _ e, L2.Paired.mapP r fun _ _ q => ⟨q.1, q.2.le l⟩⟩
  | ext o => exact k _ h
theorem ro.some {a : Addr} {o : Ob} (h : ro K H a o) : ∃ u, H a = some u := by
  cases o with
  | lst xs => obtain ⟨vs, e, r⟩ := h; exact ⟨_, e⟩
  | ins C fs => obtain ⟨dx, vs, e, d, r⟩ := h; exact ⟨_, e⟩
  | dic kvs => obtain ⟨vs, e, r⟩ := h; exact ⟨_, e⟩
  | ext o => exact ⟨_, h⟩
theorem rh.fresh {p : Addr} (r : rh K G H) (h : H p = none) : G p = none := by
  cases e : G p with
  | none => rfl
  | some o =>
    obtain ⟨u, q⟩ := (r p o e).some
    rw [h] at q; cases q
/-- all that was tracked stands -/
theorem rh.keep (r : rh K G H) (l : Le K H H1) (k : ∀ b u, H b = some u → H1 b = some u) : rh K G H1 := fun a o e => (r a o e).stay l (fun u => k a u) fun dx => k dx _
theorem rh.new {p : Addr} {u : HO} {o : Ob} (r : rh K G H) (h : H p = none) (n : ro K (upd H p u) p o) : rh K (up G p o) (upd H p u) := fun a o' e => by
  by_cases hb : a = p
  · subst hb; rw [up_same] at e; cases e; exact n
  · rw [up_ne hb] at e
    exact (r a o' e).stay (Le.new h) (fun u q => by rw [upd_ne hb]; exact q) fun dx q => by rw [upd_ne (ne_of_none q h)]; exact q
/-- the object at p is written -/
theorem rh.write {p : Addr} {u u' : HO} {o : Ob} (r : rh K G H) (h : H p = some u) (m : Mut (some u)) (n : ro K (upd H p u') p o) : rh K (up G p o) (upd H p u') := fun a o' e => by
  by_cases hb : a = p
  · subst hb; rw [up_same] at e; cases e; exact n
  · rw [up_ne hb] at e
    refine (r a o' e).stay (Le.mut h m) (fun u q => by rw [upd_ne hb]; exact q) fun dx q => ?_
    have : dx ≠ p := fun z => by subst z; rw [h] at q; cases q; exact m
    rw [upd_ne this]; exact q
end
end J

set_option Elab.async false
set_option linter.all false
set_option maxRecDepth 100000
set_option maxHeartbeats 4000000
/-! J2: the judgements over data (JE, JT, JA, JS ..) and their rules, out of the hand layer's own. -/
namespace J
open PySem L2

abbrev ctOf (X : Cx) : Ct := ⟨X.K, X.w⟩
/-! ### lifts -/
def LR (K : Ct) (H : Hp) (Wc : WX) : JX := fun cls fs τ G => ∀ d σ1 H1, Le K H H1 → rs K H1 τ σ1 → rh K G H1 → xr K H1 fs d → Wc cls d σ1 H1
def LQ {α β : Type} (K : Ct) (rel : Hp → α → β → Prop) (H : Hp) (Q : β → Hp → Prop) : α → Hq → Prop := fun w G => ∀ v H1, Le K H H1 → rel H1 w v → rh K G H1 → Q v H1
abbrev Jt (α : Type) := JX → Tq → Hq → (α → Hq → Prop) → Prop
def RLe (R R' : JX) : Prop := ∀ c f τ G, R c f τ G → R' c f τ G
theorem RLe.refl (R : JX) : RLe R R := fun _ _ _ _ h => h
def Mono {α : Type} (t : Jt α) : Prop := ∀ R R' τ G Q Q', RLe R R' → (∀ w G, Q w G → Q' w G) → t R τ G Q → t R' τ G Q'
def LG {α β : Type} (K : Ct) (rel : Hp → α → β → Prop) (Wc : WX) (t : Jt α) : St → Hp → (β → Hp → Prop) → Prop := fun σ H Q => ∃ τ G, rs K H τ σ ∧ rh K G H ∧ t (LR K H Wc) τ G (LQ K rel H Q)
theorem LR.le {K : Ct} {H H1 : Hp} {Wc : WX} (l : Le K H H1) : RLe (LR K H Wc) (LR K H1 Wc) := fun _ _ _ _ h d σ1 H2 l2 => h d σ1 H2 (l.trans l2)
theorem LQ.le {α β : Type} {K : Ct} {rel : Hp → α → β → Prop} {H H1 : Hp} {Q : β → Hp → Prop} (l : Le K H H1) (w : α) (G : Hq) (h : LQ K rel H Q w G) : LQ K rel H1 Q w G := fun v H2 l2 => h v H2 (l.trans l2)
def eqr {α : Type} : Hp → α → α → Prop := fun _ x y => x = y
/-- one after the other -/
def jb {α β : Type} (t : Jt α) (u : α → Jt β) : Jt β := fun R τ G Q => t R τ G fun x G1 => u x R τ G1 Q
theorem jb.mono {α β : Type} {t : Jt α} {u : α → Jt β} (mt : Mono t) (mu : ∀ x, Mono (u x)) : Mono (jb t u) := fun R R' τ G Q Q' r q h => mt R R' τ G _ _ r (fun x G1 k => mu x R R' τ G1 Q Q' r q k) h
theorem LG.mono {α β : Type} {K : Ct} {rel : Hp → α → β → Prop} {Wc : WX} {t : Jt α} (m : Mono t) {σ : St} {H : Hp} {Q Q' : β → Hp → Prop} (q : ∀ v H, Q v H → Q' v H) (h : LG K rel Wc t σ H Q) : LG K rel Wc t σ H Q' := by
  obtain ⟨τ, G, a, b, c⟩ := h
  exact ⟨τ, G, a, b, m _ _ τ G _ _ (RLe.refl _) (fun w G k v H1 l r g => q v H1 (k v H1 l r g)) c⟩
theorem LG.bind {α β γ δ : Type} {K : Ct} {rel : Hp → α → β → Prop} {rel2 : Hp → γ → δ → Prop} {Wc : WX} {t : Jt α} {u : α → Jt γ} (mt : Mono t) (mu : ∀ x, Mono (u x)) {σ : St} {H : Hp} {Q : δ → Hp → Prop}
    (h : LG K rel2 Wc (jb t u) σ H Q) : LG K rel Wc t σ H fun v H1 => Le K H H1 ∧ ∃ x, rel H1 x v ∧ LG K rel2 Wc (u x) σ H1 Q := by
  obtain ⟨τ, G, a, b, c⟩ := h
  refine ⟨τ, G, a, b, mt _ _ τ G _ _ (RLe.refl _) (fun x G1 k v H1 l r g => ⟨l, x, r, τ, G1, a.le l, g, ?_⟩) c⟩
  exact mu x _ _ τ G1 _ _ (LR.le l) (LQ.le l) k
/-- a primitive -/
def jp {α : Type} (r : Hq → (α → Hq → Prop) → Prop) : Jt α := fun _ _ G Q => r G Q
def Mono0 {α : Type} (r : Hq → (α → Hq → Prop) → Prop) : Prop := ∀ G Q Q', (∀ w G, Q w G → Q' w G) → r G Q → r G Q'
theorem jp.mono {α : Type} {r : Hq → (α → Hq → Prop) → Prop} (m : Mono0 r) : Mono (jp r) := fun _ _ _ G Q Q' _ q h => m G Q Q' q h

/-! ### judgements -/
structure JE (X : Cx) (e : Expr) (t : Jt Dv) : Prop where
  mono : Mono t
  pe : ∀ Wc, Takes X Wc → PE X e (LG (ctOf X) (rv (ctOf X)) Wc t)
structure JT (X : Cx) (e : Expr) (t : Jt Bool) : Prop where
  mono : Mono t
  pt : ∀ Wc, Takes X Wc → PT X e (LG (ctOf X) eqr Wc t)
structure JW (X : Cx) (e : Expr) (t : Jt Bool) : Prop where
  mono : Mono t
  pw : ∀ Wc, Takes X Wc → PW X e (LG (ctOf X) eqr Wc t)
structure JA (X : Cx) (es : List Expr) (t : Jt (List Dv)) : Prop where
  mono : Mono t
  pa : ∀ Wc, Takes X Wc → PA X es (LG (ctOf X) (rvs (ctOf X)) Wc t)
structure JO (X : Cx) (e : Option Expr) (t : Jt (Option Int)) : Prop where
  mono : Mono t
  po : ∀ Wc, Takes X Wc → PO X e (LG (ctOf X) eqr Wc t)

section
variable {X : Cx}
theorem PE.imp {e : Expr} {t t1 : TE} (h : PE X e t) (i : ∀ σ H Q, t1 σ H Q → t σ H Q) : PE X e t1 := ⟨fun pins s σ H Q I hw => h.run pins s σ H Q I (i σ H Q hw)⟩
theorem PT.imp {e : Expr} {t t1 : TT} (h : PT X e t) (i : ∀ σ H Q, t1 σ H Q → t σ H Q) : PT X e t1 := ⟨fun pins s σ H Q I hw => h.run pins s σ H Q I (i σ H Q hw)⟩
theorem PW.imp {e : Expr} {t t1 : TT} (h : PW X e t) (i : ∀ σ H Q, t1 σ H Q → t σ H Q) : PW X e t1 := ⟨fun wh pins s σ H Q I hw => h.run wh pins s σ H Q I (i σ H Q hw)⟩
theorem PA.imp {e : List Expr} {t t1 : TA} (h : PA X e t) (i : ∀ σ H Q, t1 σ H Q → t σ H Q) : PA X e t1 := ⟨fun pos pins s σ H Q I hw => h.run pos pins s σ H Q I (i σ H Q hw)⟩

/-! ### names, constants -/
def jVar (i : Nat) : Jt Dv := fun _ τ G Q => ∃ x, τ[i]? = some (some x) ∧ Q x G
def jC (x : Dv) : Jt Dv := fun _ _ G Q => Q x G
theorem je_var (i : Nat) {x : Str} {pos : Pos} (hN : X.N[i]? = some x := by rfl) (hv : Vis X.env.scope x := by first | exact Or.inl rfl | exact Or.inr (Or.inl rfl) | exact Or.inr (Or.inr rfl)) (hd : (x == ("__debug__" : Str)) = false := by decide)
    (hcd : (x == ("__classdict__" : Str)) = false := by decide) : JE X (.Name x pos) (jVar i) :=
  ⟨fun _ _ _ _ _ _ _ q ⟨x, e, h⟩ => ⟨x, e, q _ _ h⟩, fun Wc _ => PE.imp (pe_var hN hv hd hcd) fun σ H Q ⟨τ, G, a, b, x, e, h⟩ => by
    obtain ⟨v, e1, r⟩ := a.2 i x e
    exact ⟨v, e1, h v H (Le.refl H) r b⟩⟩
theorem jC.mono {x : Dv} : Mono (jC x) := fun _ _ _ _ _ _ _ q h => q _ _ h
theorem je_c {e : Expr} {x : Dv} {v : V} (h : PE X e (tC v)) (r : ∀ H, rv (ctOf X) H x v) : JE X e (jC x) :=
  ⟨jC.mono, fun Wc _ => PE.imp h fun σ H Q ⟨τ, G, a, b, h⟩ => h v H (Le.refl H) (r H) b⟩
theorem je_int {i j pos} : JE X (.Constant (.int i) j pos) (jC (.int i)) := je_c pe_int fun _ => by unfold rv; rfl
theorem je_bl {b j pos} : JE X (.Constant (.bool b) j pos) (jC (.bl b)) := je_c pe_bl fun _ => by unfold rv; rfl
theorem je_non {j pos} : JE X (.Constant .none j pos) (jC .non) := je_c pe_non fun _ => by unfold rv; rfl
theorem je_str {x j pos} : JE X (.Constant (.str x) j pos) (jC (.str x)) := je_c pe_str fun _ => by unfold rv; rfl
/-- a builtin type as a value -/
theorem je_ty {x : Str} {n : String} {pos : Pos} (hg : Gl X x) (hm : X.mg x = none) (hv : bootBuiltins x = some (.type n)) (hn : x ≠ "__name__" := by decide) (hd : (x == ("__debug__" : Str)) = false := by decide) : JE X (.Name x pos) (jC (.ty n)) :=
  je_c (pe_bltn (v := .ty n) hg hm hv rfl hn hd) fun _ => by unfold rv; rfl
/-- a class, a def of the module as a value -/
theorem je_ref {x : Str} {a : Addr} {pos : Pos} (hg : Gl X x) (hm : X.mg x = some (.ref a)) (hd : (x == ("__debug__" : Str)) = false := by decide) : JE X (.Name x pos) (jC (.ad a)) :=
  je_c (pe_glob (v := .ref a) hg hm rfl hd) fun _ => by unfold rv; rfl
/-- the module's constants -/
theorem je_gint {x : Str} {i : Int} {t : Tok} {pos : Pos} (hg : Gl X x) (hm : X.mg x = some (.int i t)) (hd : (x == ("__debug__" : Str)) = false := by decide) : JE X (.Name x pos) (jC (.int i)) :=
  je_c (pe_glob (v := .int i) hg hm ⟨_, rfl⟩ hd) fun _ => by unfold rv; rfl
theorem je_gstr {x : Str} {z : Str} {t : Tok} {pos : Pos} (hg : Gl X x) (hm : X.mg x = some (.str z t)) (hd : (x == ("__debug__" : Str)) = false := by decide) : JE X (.Name x pos) (jC (.str z)) :=
  je_c (pe_glob (v := .str z) hg hm ⟨_, rfl⟩ hd) fun _ => by unfold rv; rfl

/-! ### operators by their rules -/
abbrev Q2 := Dv → Dv → Hq → KQ → Prop
abbrev Q1 := Dv → Hq → KQ → Prop
abbrev QA := List Dv → Hq → KQ → Prop
def Ref2 (K : Ct) (r : R2) (r' : Q2) : Prop := ∀ x y v u G H Q, rv K H x v → rv K H y u → rh K G H → r' x y G (LQ K (rv K) H Q) → r v u H Q
def Ref1 (K : Ct) (r : V → Hp → VK → Prop) (r' : Q1) : Prop := ∀ x v G H Q, rv K H x v → rh K G H → r' x G (LQ K (rv K) H Q) → r v H Q
def RefA (K : Ct) (r : List V → Hp → VK → Prop) (r' : QA) : Prop := ∀ xs vs G H Q, rvs K H xs vs → rh K G H → r' xs G (LQ K (rv K) H Q) → r vs H Q
structure JOp (X : Cx) (f : Value → Value → Sem Value) (r' : Q2) : Prop where
  mono : ∀ x y, Mono0 (r' x y)
  ref : ∃ r, OpR X f r ∧ Ref2 (ctOf X) r r'
structure JUn (X : Cx) (f : Value → Sem Value) (r' : Q1) : Prop where
  mono : ∀ x, Mono0 (r' x)
  ref : ∃ r, UnR X f r ∧ Ref1 (ctOf X) r r'
structure JCl (X : Cx) (f : Value) (r' : QA) : Prop where
  mono : ∀ x, Mono0 (r' x)
  ref : ∃ r, CallR X f r ∧ RefA (ctOf X) r r'
def jOp (r' : Q2) (ta tb : Jt Dv) : Jt Dv := jb ta fun x => jb tb fun y => jp (r' x y)
def jUn (r' : Q1) (ta : Jt Dv) : Jt Dv := jb ta fun x => jp (r' x)
def jCl (r' : QA) (ta : Jt (List Dv)) : Jt Dv := jb ta fun x => jp (r' x)
theorem jOp.mono {r' : Q2} {ta tb : Jt Dv} (m : ∀ x y, Mono0 (r' x y)) (ma : Mono ta) (mb : Mono tb) : Mono (jOp r' ta tb) := jb.mono ma fun _ => jb.mono mb fun _ => jp.mono (m _ _)
theorem lift_op {K : Ct} {Wc : WX} {r : R2} {r' : Q2} {ta tb : Jt Dv} (m : ∀ x y, Mono0 (r' x y)) (ma : Mono ta) (mb : Mono tb) (rf : Ref2 K r r') {σ : St} {H : Hp} {Q : VK} (h : LG K (rv K) Wc (jOp r' ta tb) σ H Q) :
    tOp r (LG K (rv K) Wc ta) (LG K (rv K) Wc tb) σ H Q := by
  have h1 := LG.bind (rel := rv K) ma (fun _ => jb.mono mb fun _ => jp.mono (m _ _)) h
  refine LG.mono ma (fun v H1 ⟨l1, x, rx, k⟩ => ?_) h1
  have h2 := LG.bind (rel := rv K) mb (fun _ => jp.mono (m _ _)) k
  refine LG.mono mb (fun u H2 ⟨l2, y, ry, τ, G, a, b, c⟩ => ?_) h2
  exact rf x y v u G H2 Q (rx.le l2) ry b c
theorem je_op {op : Operator} {a b : Expr} {ta tb : Jt Dv} {pos : Pos} {r' : Q2} (ho : JOp X (binaryOp op) r') (ha : JE X a ta) (hb : JE X b tb) : JE X (.BinOp a op b pos) (jOp r' ta tb) := by
  obtain ⟨m, r, hr, rf⟩ := ho
  exact ⟨jOp.mono m ha.mono hb.mono, fun Wc tk => PE.imp (pe_op hr (ha.pe Wc tk) (hb.pe Wc tk)) fun _ _ _ h => lift_op m ha.mono hb.mono rf h⟩
theorem je_cmp {op : CmpOp} {a b : Expr} {ta tb : Jt Dv} {pos : Pos} {r' : Q2} (ho : JOp X (compareOp op) r') (ha : JE X a ta) (hb : JE X b tb) (hm : behindInMarks op b = false := by rfl) : JE X (.Compare a [op] [b] pos) (jOp r' ta tb) := by
  obtain ⟨m, r, hr, rf⟩ := ho
  exact ⟨jOp.mono m ha.mono hb.mono, fun Wc tk => PE.imp (pe_cmpR hr (ha.pe Wc tk) (hb.pe Wc tk) hm) fun _ _ _ h => lift_op m ha.mono hb.mono rf h⟩
/-- a value as a test -/
def jTest (t : Jt Dv) : Jt Bool := jb t fun x => jp fun G Q => ∃ b, x = .bl b ∧ Q b G
theorem jTest.mono {t : Jt Dv} (m : Mono t) : Mono (jTest t) := jb.mono m fun _ => jp.mono fun _ _ _ q ⟨b, e, h⟩ => ⟨b, e, q _ _ h⟩
theorem lift_test {K : Ct} {Wc : WX} {t : Jt Dv} (m : Mono t) {σ : St} {H : Hp} {Q : Bool → Hp → Prop} (h : LG K eqr Wc (jTest t) σ H Q) : LG K (rv K) Wc t σ H fun x H' => ∃ k, x = .bl k ∧ Q k H' := by
  have h1 := LG.bind (rel := rv K) m (fun _ => jp.mono fun _ _ _ q ⟨b, e, h⟩ => ⟨b, e, q _ _ h⟩) h
  refine LG.mono m (fun v H1 ⟨l1, x, rx, τ, G, a, b, k, e, c⟩ => ?_) h1
  subst e
  unfold rv at rx
  exact ⟨k, rx, c k H1 (Le.refl H1) rfl b⟩
theorem jt_cmp {op : CmpOp} {a b : Expr} {ta tb : Jt Dv} {pos : Pos} {r' : Q2} (ho : JOp X (compareOp op) r') (ha : JE X a ta) (hb : JE X b tb) (hm : behindInMarks op b = false := by rfl) : JT X (.Compare a [op] [b] pos) (jTest (jOp r' ta tb)) := by
  obtain ⟨m, r, hr, rf⟩ := ho
  exact ⟨jTest.mono (jOp.mono m ha.mono hb.mono), fun Wc tk => PT.imp (pt_cmpR hr (ha.pe Wc tk) (hb.pe Wc tk) hm) fun _ _ _ h => lift_op (r' := r') m ha.mono hb.mono rf (lift_test (jOp.mono m ha.mono hb.mono) h)⟩
/-- an expression that gives a bool, as a test -/
theorem jt_val {e : Expr} {t : Jt Dv} (h : JE X e t) (he : ∀ whole, isTrue e X.env whole = (do let v ← whole; standAt e.pos; holding [v] (truthy v)) := by intro _; rfl) : JT X e (jTest t) :=
  ⟨jTest.mono h.mono, fun Wc tk => PT.imp (pt_val (h.pe Wc tk) he) fun _ _ _ q => lift_test h.mono q⟩
/-- a < b < c -/
def jChain (r r' : Q2) (ta tb tc : Jt Dv) : Jt Dv := jb ta fun x => jb tb fun y => jb (jp (r x y)) fun z => fun R τ G Q => ∃ k, z = .bl k ∧ if k = true then jb tc (fun u => jp (r' y u)) R τ G Q else Q (.bl false) G
theorem je_un {op : UnaryOp} {a : Expr} {ta : Jt Dv} {pos : Pos} {r' : Q1} (ho : JUn X (unaryOp op) r') (ha : JE X a ta) : JE X (.UnaryOp op a pos) (jUn r' ta) := by
  obtain ⟨m, r, hr, rf⟩ := ho
  refine ⟨jb.mono ha.mono fun _ => jp.mono (m _), fun Wc tk => PE.imp (pe_un hr (ha.pe Wc tk)) fun σ H Q h => ?_⟩
  refine LG.mono ha.mono (fun v H1 ⟨l1, x, rx, τ, G, a, b, c⟩ => ?_) (LG.bind (rel := rv _) ha.mono (fun _ => jp.mono (m _)) h)
  exact rf x v G H1 Q rx b c

/-! ### tests -/
def jAnd (t u : Jt Bool) : Jt Bool := jb t fun c => fun R τ G Q => if c = true then u R τ G Q else Q false G
def jOr (t u : Jt Bool) : Jt Bool := jb t fun c => fun R τ G Q => if c = true then Q true G else u R τ G Q
def jNot (t : Jt Bool) : Jt Bool := jb t fun c => jp fun G Q => Q (!c) G
theorem jAnd.mono2 {u : Jt Bool} (mu : Mono u) (c : Bool) : Mono (fun R τ G (Q : Bool → Hq → Prop) => if c = true then u R τ G Q else Q false G) := fun R R' τ G Q Q' r q h => by
  cases c with
  | true => rw [if_pos rfl] at h ⊢; exact mu R R' τ G Q Q' r q h
  | false => rw [if_neg Bool.false_ne_true] at h ⊢; exact q _ _ h
theorem jOr.mono2 {u : Jt Bool} (mu : Mono u) (c : Bool) : Mono (fun R τ G (Q : Bool → Hq → Prop) => if c = true then Q true G else u R τ G Q) := fun R R' τ G Q Q' r q h => by
  cases c with
  | false => rw [if_neg Bool.false_ne_true] at h ⊢; exact mu R R' τ G Q Q' r q h
  | true => rw [if_pos rfl] at h ⊢; exact q _ _ h
theorem jw_one {op : BoolOp} {a : Expr} {t : Jt Bool} {pos : Pos} (h : JT X a t) : JW X (.BoolOp .And [a] pos) t := ⟨h.mono, fun Wc tk => pw_and1 (h.pt Wc tk)⟩
theorem jw_and1 {a : Expr} {t : Jt Bool} {pos : Pos} (h : JT X a t) : JW X (.BoolOp .And [a] pos) t := ⟨h.mono, fun Wc tk => pw_and1 (h.pt Wc tk)⟩
theorem jw_or1 {a : Expr} {t : Jt Bool} {pos : Pos} (h : JT X a t) : JW X (.BoolOp .Or [a] pos) t := ⟨h.mono, fun Wc tk => pw_or1 (h.pt Wc tk)⟩
theorem jw_and {a b : Expr} {rest : List Expr} {t u : Jt Bool} {pos : Pos} (ha : JT X a t) (hb : JW X (.BoolOp .And (b :: rest) pos) u) : JW X (.BoolOp .And (a :: b :: rest) pos) (jAnd t u) := by
  refine ⟨jb.mono ha.mono fun c => jAnd.mono2 hb.mono c, fun Wc tk => PW.imp (pw_and (ha.pt Wc tk) (hb.pw Wc tk)) fun σ H Q h => ?_⟩
  refine LG.mono ha.mono (fun v H1 ⟨l1, x, rx, τ, G, a, b, c⟩ => ?_) (LG.bind (rel := eqr) ha.mono (fun c => jAnd.mono2 hb.mono c) h)
  cases (show x = v from rx)
  cases v with
  | true => rw [if_pos rfl] at c ⊢; exact ⟨τ, G, a, b, c⟩
  | false => rw [if_neg Bool.false_ne_true] at c ⊢; exact c false H1 (Le.refl H1) rfl b
theorem jw_or {a b : Expr} {rest : List Expr} {t u : Jt Bool} {pos : Pos} (ha : JT X a t) (hb : JW X (.BoolOp .Or (b :: rest) pos) u) : JW X (.BoolOp .Or (a :: b :: rest) pos) (jOr t u) := by
  refine ⟨jb.mono ha.mono fun c => jOr.mono2 hb.mono c, fun Wc tk => PW.imp (pw_or (ha.pt Wc tk) (hb.pw Wc tk)) fun σ H Q h => ?_⟩
  refine LG.mono ha.mono (fun v H1 ⟨l1, x, rx, τ, G, a, b, c⟩ => ?_) (LG.bind (rel := eqr) ha.mono (fun c => jOr.mono2 hb.mono c) h)
  cases (show x = v from rx)
  cases v with
  | false => rw [if_neg Bool.false_ne_true] at c ⊢; exact ⟨τ, G, a, b, c⟩
  | true => rw [if_pos rfl] at c ⊢; exact c true H1 (Le.refl H1) rfl b
theorem JW.jt {e : Expr} {t : Jt Bool} (h : JW X e t) : JT X e t := ⟨h.mono, fun Wc tk => (h.pw Wc tk).pt⟩
theorem jt_not {a : Expr} {t : Jt Bool} {pos : Pos} (ha : JT X a t) : JT X (.UnaryOp .Not a pos) (jNot t) := by
  have m : ∀ c : Bool, Mono0 (fun G (Q : Bool → Hq → Prop) => Q (!c) G) := fun _ _ _ _ q h => q _ _ h
  refine ⟨jb.mono ha.mono fun _ => jp.mono (m _), fun Wc tk => PT.imp (pt_not (ha.pt Wc tk)) fun σ H Q h => ?_⟩
  refine LG.mono ha.mono (fun v H1 ⟨l1, x, rx, τ, G, a, b, c⟩ => ?_) (LG.bind (rel := eqr) ha.mono (fun _ => jp.mono (m _)) h)
  cases (show x = v from rx)
  exact c (!v) H1 (Le.refl H1) rfl b
/-! as values, all but the last bools -/
def jAndV (ta tb : Jt Dv) : Jt Dv := jb ta fun x => fun R τ G Q => ∃ c, x = .bl c ∧ if c = true then tb R τ G Q else Q (.bl false) G
def jOrV (ta tb : Jt Dv) : Jt Dv := jb ta fun x => fun R τ G Q => ∃ c, x = .bl c ∧ if c = true then Q (.bl true) G else tb R τ G Q
def jNotV (ta : Jt Dv) : Jt Dv := jb ta fun x => jp fun G Q => ∃ c, x = .bl c ∧ Q (.bl (!c)) G
theorem jAndV.mono2 {u : Jt Dv} (mu : Mono u) (x : Dv) : Mono (fun R τ G (Q : KQ) => ∃ c, x = .bl c ∧ if c = true then u R τ G Q else Q (.bl false) G) := fun R R' τ G Q Q' r q ⟨c, e, h⟩ => ⟨c, e, by
  cases c with
  | true => rw [if_pos rfl] at h ⊢; exact mu R R' τ G Q Q' r q h
  | false => rw [if_neg Bool.false_ne_true] at h ⊢; exact q _ _ h⟩
theorem jOrV.mono2 {u : Jt Dv} (mu : Mono u) (x : Dv) : Mono (fun R τ G (Q : KQ) => ∃ c, x = .bl c ∧ if c = true then Q (.bl true) G else u R τ G Q) := fun R R' τ G Q Q' r q ⟨c, e, h⟩ => ⟨c, e, by
  cases c with
  | false => rw [if_neg Bool.false_ne_true] at h ⊢; exact mu R R' τ G Q Q' r q h
  | true => rw [if_pos rfl] at h ⊢; exact q _ _ h⟩
theorem je_one {op : BoolOp} {a : Expr} {t : Jt Dv} {pos : Pos} (h : JE X a t) : JE X (.BoolOp op [a] pos) t := ⟨h.mono, fun Wc tk => pe_one (h.pe Wc tk)⟩
theorem je_and {a b : Expr} {rest : List Expr} {ta tb : Jt Dv} {pos : Pos} (ha : JE X a ta) (hb : JE X (.BoolOp .And (b :: rest) pos) tb) : JE X (.BoolOp .And (a :: b :: rest) pos) (jAndV ta tb) := by
  refine ⟨jb.mono ha.mono fun x => jAndV.mono2 hb.mono x, fun Wc tk => PE.imp (pe_and (ha.pe Wc tk) (hb.pe Wc tk)) fun σ H Q h => ?_⟩
  refine LG.mono ha.mono (fun v H1 ⟨l1, x, rx, τ, G, a, b, c, e, k⟩ => ?_) (LG.bind (rel := rv _) ha.mono (fun x => jAndV.mono2 hb.mono x) h)
  subst e
  unfold rv at rx
  refine ⟨c, rx, ?_⟩
  cases c with
  | true => rw [if_pos rfl] at k ⊢; exact ⟨τ, G, a, b, k⟩
  | false => rw [if_neg Bool.false_ne_true] at k ⊢; exact k (.bl false) H1 (Le.refl H1) (by unfold rv; rfl) b
theorem je_or {a b : Expr} {rest : List Expr} {ta tb : Jt Dv} {pos : Pos} (ha : JE X a ta) (hb : JE X (.BoolOp .Or (b :: rest) pos) tb) : JE X (.BoolOp .Or (a :: b :: rest) pos) (jOrV ta tb) := by
  refine ⟨jb.mono ha.mono fun x => jOrV.mono2 hb.mono x, fun Wc tk => PE.imp (pe_or (ha.pe Wc tk) (hb.pe Wc tk)) fun σ H Q h => ?_⟩
  refine LG.mono ha.mono (fun v H1 ⟨l1, x, rx, τ, G, a, b, c, e, k⟩ => ?_) (LG.bind (rel := rv _) ha.mono (fun x => jOrV.mono2 hb.mono x) h)
  subst e
  unfold rv at rx
  refine ⟨c, rx, ?_⟩
  cases c with
  | false => rw [if_neg Bool.false_ne_true] at k ⊢; exact ⟨τ, G, a, b, k⟩
  | true => rw [if_pos rfl] at k ⊢; exact k (.bl true) H1 (Le.refl H1) (by unfold rv; rfl) b
theorem je_not {a : Expr} {ta : Jt Dv} {pos : Pos} (ha : JE X a ta) : JE X (.UnaryOp .Not a pos) (jNotV ta) := by
  have m : ∀ x : Dv, Mono0 (fun G (Q : KQ) => ∃ c, x = .bl c ∧ Q (.bl (!c)) G) := fun x _ _ _ q ⟨c, e, h⟩ => ⟨c, e, q _ _ h⟩
  refine ⟨jb.mono ha.mono fun x => jp.mono (m x), fun Wc tk => PE.imp (pe_not (ha.pe Wc tk)) fun σ H Q h => ?_⟩
  refine LG.mono ha.mono (fun v H1 ⟨l1, x, rx, τ, G, a, b, c, e, k⟩ => ?_) (LG.bind (rel := rv _) ha.mono (fun x => jp.mono (m x)) h)
  subst e
  unfold rv at rx
  exact ⟨c, rx, k (.bl (!c)) H1 (Le.refl H1) (by unfold rv; rfl) b⟩
def jIf (t : Jt Bool) (ta tb : Jt Dv) : Jt Dv := jb t fun c => fun R τ G Q => if c = true then ta R τ G Q else tb R τ G Q
theorem je_ifExp {c a b : Expr} {t : Jt Bool} {ta tb : Jt Dv} {pos : Pos} (hc : JT X c t) (ha : JE X a ta) (hb : JE X b tb) : JE X (.IfExp c a b pos) (jIf t ta tb) := by
  have m : ∀ c : Bool, Mono (fun R τ G (Q : KQ) => if c = true then ta R τ G Q else tb R τ G Q) := fun c R R' τ G Q Q' r q h => by
    cases c with
    | true => rw [if_pos rfl] at h ⊢; exact ha.mono R R' τ G Q Q' r q h
    | false => rw [if_neg Bool.false_ne_true] at h ⊢; exact hb.mono R R' τ G Q Q' r q h
  refine ⟨jb.mono hc.mono m, fun Wc tk => PE.imp (pe_ifExp (hc.pt Wc tk) (ha.pe Wc tk) (hb.pe Wc tk)) fun σ H Q h => ?_⟩
  refine LG.mono hc.mono (fun v H1 ⟨l1, x, rx, τ, G, a, b, c⟩ => ?_) (LG.bind (rel := eqr) hc.mono m h)
  cases (show x = v from rx)
  cases v with
  | true => rw [if_pos rfl] at c ⊢; exact ⟨τ, G, a, b, c⟩
  | false => rw [if_neg Bool.false_ne_true] at c ⊢; exact ⟨τ, G, a, b, c⟩

/-! ### arguments, displays -/
def jNil : Jt (List Dv) := fun _ _ G Q => Q [] G
def jCons (ta : Jt Dv) (tr : Jt (List Dv)) : Jt (List Dv) := jb ta fun x => jb tr fun xs => jp fun G Q => Q (x :: xs) G
theorem ja_nil : JA X [] jNil := ⟨fun _ _ _ _ _ _ _ q h => q _ _ h, fun Wc tk => PA.imp pa_nil fun σ H Q ⟨τ, G, a, b, h⟩ => h [] H (Le.refl H) rvs.nil b⟩
theorem ja_cons {e : Expr} {es : List Expr} {ta : Jt Dv} {tr : Jt (List Dv)} (ha : JE X e ta) (hr : JA X es tr) (hs : starEach (e :: es) X.env = (false, eval e X.env) :: starEach es X.env := by rfl) : JA X (e :: es) (jCons ta tr) := by
  have m : ∀ (x : Dv) (xs : List Dv), Mono0 (fun G (Q : List Dv → Hq → Prop) => Q (x :: xs) G) := fun _ _ _ _ _ q h => q _ _ h
  refine ⟨jb.mono ha.mono fun _ => jb.mono hr.mono fun _ => jp.mono (m _ _), fun Wc tk => PA.imp (pa_cons (ha.pe Wc tk) (hr.pa Wc tk) hs) fun σ H Q h => ?_⟩
  refine LG.mono ha.mono (fun v H1 ⟨l1, x, rx, k⟩ => ?_) (LG.bind (rel := rv _) ha.mono (fun _ => jb.mono hr.mono fun _ => jp.mono (m _ _)) h)
  refine LG.mono hr.mono (fun vs H2 ⟨l2, xs, rxs, τ, G, a, b, c⟩ => ?_) (LG.bind (rel := rvs _) hr.mono (fun _ => jp.mono (m _ _)) k)
  exact c (v :: vs) H2 (Le.refl H2) (rvs.cons (rx.le l2) rxs) b
def jTup (ta : Jt (List Dv)) : Jt Dv := jb ta fun xs => jp fun G Q => xs.length ≤ sizeLine ∧ Q (.tup xs) G
def qNew (o : Ob) (G : Hq) (Q : KQ) : Prop := ∀ p, G p = none → Q (.ad p) (up G p o)
theorem qNew.mono {o : Ob} : Mono0 (qNew o) := fun _ _ _ q h p e => q _ _ (h p e)
def jLst (ta : Jt (List Dv)) : Jt Dv := jb ta fun xs => jp fun G Q => xs.length ≤ sizeLine ∧ qNew (.lst xs) G Q
theorem je_tup {es : List Expr} {ta : Jt (List Dv)} {x1 : Nat} {pos : Pos} (h : JA X es ta) : JE X (.Tuple es x1 pos) (jTup ta) := by
  have m : ∀ xs : List Dv, Mono0 (fun G (Q : KQ) => xs.length ≤ sizeLine ∧ Q (.tup xs) G) := fun _ _ _ _ q h => ⟨h.1, q _ _ h.2⟩
  refine ⟨jb.mono h.mono fun _ => jp.mono (m _), fun Wc tk => PE.imp (pe_tup (h.pa Wc tk)) fun σ H Q q => ?_⟩
  refine LG.mono h.mono (fun vs H1 ⟨l1, xs, rx, τ, G, a, b, z, c⟩ => ⟨by rw [← rx.length]; exact z, fun p hp => ?_⟩) (LG.bind (rel := rvs _) h.mono (fun _ => jp.mono (m _)) q)
  have l := Le.new (K := ctOf X) (p := p) (o := .tup vs) hp
  refine c (.ref p) _ l ?_ (b.keep l fun b u q => by rw [upd_ne (ne_of_none q hp)]; exact q)
  unfold rv
  exact ⟨p, vs, rfl, .inl (.inl upd_same), rx.le l⟩
theorem new_lst {K : Ct} {H : Hp} {G : Hq} {xs : List Dv} {vs : List V} {Q : VK} (b : rh K G H) (rx : rvs K H xs vs) (c : qNew (.lst xs) G (LQ K (rv K) H Q)) : ∀ p, H p = none → Q (.ref p) (upd H p (.lst vs)) := fun p hp => by
  have l := Le.new (K := K) (p := p) (o := .lst vs) hp
  exact c p (b.fresh hp) (.ref p) _ l (by unfold rv; rfl) (b.new hp ⟨vs, upd_same, rx.le l⟩)
theorem je_lst {es : List Expr} {ta : Jt (List Dv)} {pos : Pos} (h : JA X es ta) : JE X (.List es pos) (jLst ta) := by
  have m : ∀ xs : List Dv, Mono0 (fun G (Q : KQ) => xs.length ≤ sizeLine ∧ qNew (.lst xs) G Q) := fun _ _ _ _ q h => ⟨h.1, qNew.mono _ _ _ q h.2⟩
  refine ⟨jb.mono h.mono fun _ => jp.mono (m _), fun Wc tk => PE.imp (pe_lst (h.pa Wc tk)) fun σ H Q q => ?_⟩
  exact LG.mono h.mono (fun vs H1 ⟨l1, xs, rx, τ, G, a, b, z, c⟩ => ⟨by rw [← rx.length]; exact z, new_lst b rx c⟩) (LG.bind (rel := rvs _) h.mono (fun _ => jp.mono (m _)) q)

/-! ### built-ins by name -/
theorem jCl.mono {r' : QA} {ta : Jt (List Dv)} (m : ∀ x, Mono0 (r' x)) (ma : Mono ta) : Mono (jCl r' ta) := jb.mono ma fun _ => jp.mono (m _)
theorem lift_cl {K : Ct} {Wc : WX} {r : List V → Hp → VK → Prop} {r' : QA} {ta : Jt (List Dv)} (m : ∀ x, Mono0 (r' x)) (ma : Mono ta) (rf : RefA K r r') {σ : St} {H : Hp} {Q : VK} (h : LG K (rv K) Wc (jCl r' ta) σ H Q) :
    tCB r (LG K (rvs K) Wc ta) σ H Q := by
  refine LG.mono ma (fun vs H1 ⟨l1, xs, rx, τ, G, a, b, c⟩ => ?_) (LG.bind (rel := rvs K) ma (fun _ => jp.mono (m _)) h)
  exact rf xs vs G H1 Q rx b c
theorem je_callB {x : Str} {id : String} {r' : QA} {ta : Jt (List Dv)} {e : Expr} {es : List Expr} {p pos : Pos} (hc : JCl X (.builtin id) r') (hg : Gl X x) (hm : X.mg x = none) (hv : bootBuiltins x = some (.builtin id)) (ha : JA X (e :: es) ta) (hn : x ≠ "__name__" := by decide) (hdb : (x == ("__debug__" : Str)) = false := by decide)
    (he : starEach (e :: es) X.env = (false, eval e X.env) :: starEach es X.env := by rfl) (hpl : (backTo pos (starEach es X.env)).any (·.1) = false := by rfl) : JE X (.Call (.Name x p) (e :: es) [] pos) (jCl r' ta) := by
  obtain ⟨m, r, hr, rf⟩ := hc
  exact ⟨jCl.mono m ha.mono, fun Wc tk => PE.imp (pe_callB hr hg hm hv (ha.pa Wc tk) hn hdb he hpl) fun _ _ _ h => lift_cl m ha.mono rf h⟩
theorem je_callTy {x : Str} {T : String} {r' : QA} {ta : Jt (List Dv)} {e : Expr} {es : List Expr} {p pos : Pos} (hc : JCl X (.type T) r') (hg : Gl X x) (hm : X.mg x = none) (hv : bootBuiltins x = some (.type T)) (ha : JA X (e :: es) ta) (hn : x ≠ "__name__" := by decide) (hdb : (x == ("__debug__" : Str)) = false := by decide)
    (he : starEach (e :: es) X.env = (false, eval e X.env) :: starEach es X.env := by rfl) (hpl : (backTo pos (starEach es X.env)).any (·.1) = false := by rfl) : JE X (.Call (.Name x p) (e :: es) [] pos) (jCl r' ta) := by
  obtain ⟨m, r, hr, rf⟩ := hc
  exact ⟨jCl.mono m ha.mono, fun Wc tk => PE.imp (pe_callTy hr hg hm hv (ha.pa Wc tk) hn hdb he hpl) fun _ _ _ h => lift_cl m ha.mono rf h⟩

/-! ### calls of defs -/
abbrev Sq := List Dv → Hq → KQ → XQ → Prop
def XLe (E E' : XQ) : Prop := ∀ c f G, E c f G → E' c f G
def MonoSq (sp : Sq) : Prop := ∀ ws G Q Q' E E', (∀ w G, Q w G → Q' w G) → XLe E E' → sp ws G Q E → sp ws G Q' E'
def LX (K : Ct) (H : Hp) (E : XK) : XQ := fun cls fs G => ∀ d H1, Le K H H1 → rh K G H1 → xr K H1 fs d → E cls d H1
def LSp (K : Ct) (sp : Sq) : Sp := fun vs H Q E => ∃ ws G, rvs K H ws vs ∧ rh K G H ∧ sp ws G (LQ K (rv K) H Q) (LX K H E)
def jCall (sp : Sq) (ta : Jt (List Dv)) : Jt Dv := jb ta fun ws => fun R τ G Q => sp ws G Q fun c f G1 => R c f τ G1
theorem jCall.mono2 {sp : Sq} (m : MonoSq sp) (ws : List Dv) : Mono (fun R τ G (Q : KQ) => sp ws G Q fun c f G1 => R c f τ G1) := fun R R' τ G Q Q' r q h => m ws G Q Q' _ _ q (fun c f G1 k => r c f τ G1 k) h
theorem je_call {k : Nat} {f : Addr} {fd : FuncData} {ps : List Str} {sp : Sq} {x : Str} {ta : Jt (List Dv)} {e : Expr} {es : List Expr} {p pos : Pos} (F : FnOk X.prog X.w X.K X.mg X.base (L2.CX X.prog X.w) k f fd ps (LSp (ctOf X) sp)) (ms : MonoSq sp) (hr : Room k X.A) (hg : Gl X x) (hm : X.mg x = some (.ref f))
    (hk : PySem.W.keepIn X.K (.ref f) = true) (hb : Binds X.K fd ps []) (ha : JA X (e :: es) ta) (hdb : (x == ("__debug__" : Str)) = false := by decide) (he : starEach (e :: es) X.env = (false, eval e X.env) :: starEach es X.env := by rfl) (hpl : (backTo pos (starEach es X.env)).any (·.1) = false := by rfl) :
    JE X (.Call (.Name x p) (e :: es) [] pos) (jCall sp ta) := by
  refine ⟨jb.mono ha.mono fun ws => jCall.mono2 ms ws, fun Wc tk => PE.imp (pe_callS F hr hg hm hk hb (fun σ => passAt tk σ) (ha.pa Wc tk) hdb he hpl) fun σ H Q h => ?_⟩
  refine LG.mono ha.mono (fun vs H1 ⟨l1, ws, rx, τ, G, a, b, c⟩ => ?_) (LG.bind (rel := rvs _) ha.mono (fun ws => jCall.mono2 ms ws) h)
  refine ⟨ws, G, rx, b, ms ws G _ _ _ _ (fun _ _ q => q) (fun c f G1 r d H2 l g z => ?_) c⟩
  exact r d σ H2 l (a.le l) g z
end
end J

set_option Elab.async false
set_option linter.all false
set_option maxRecDepth 100000
set_option maxHeartbeats 4000000
/-! J3: statements, targets, loops, list comprehensions, defs. -/
namespace J
open PySem L2

structure JEnds where
  nx : Tq → Hq → Prop
  rt : KQ
  bk : Tq → Hq → Prop := fun _ _ => False
  ct : Tq → Hq → Prop := fun _ _ => False
abbrev JSt := JX → JEnds → Tq → Hq → Prop
structure DLe (D D' : JEnds) : Prop where
  nx : ∀ τ G, D.nx τ G → D'.nx τ G
  rt : ∀ w G, D.rt w G → D'.rt w G
  bk : ∀ τ G, D.bk τ G → D'.bk τ G
  ct : ∀ τ G, D.ct τ G → D'.ct τ G
theorem DLe.refl (D : JEnds) : DLe D D := ⟨fun _ _ h => h, fun _ _ h => h, fun _ _ h => h, fun _ _ h => h⟩
def MonoS (t : JSt) : Prop := ∀ R R' D D' τ G, RLe R R' → DLe D D' → t R D τ G → t R' D' τ G
def LT1 (K : Ct) (H : Hp) (q : St → Hp → Prop) : Tq → Hq → Prop := fun τ1 G1 => ∀ σ1 H1, Le K H H1 → rs K H1 τ1 σ1 → rh K G1 H1 → q σ1 H1
def LD (K : Ct) (H : Hp) (D : Ends) : JEnds := { nx := LT1 K H D.nx, rt := LQ K (rv K) H D.rt, bk := LT1 K H D.bk, ct := LT1 K H D.ct }
theorem LT1.le {K : Ct} {H H1 : Hp} {q : St → Hp → Prop} (l : Le K H H1) (τ : Tq) (G : Hq) (h : LT1 K H q τ G) : LT1 K H1 q τ G := fun σ H2 l2 => h σ H2 (l.trans l2)
theorem LD.le {K : Ct} {H H1 : Hp} {D : Ends} (l : Le K H H1) : DLe (LD K H D) (LD K H1 D) := ⟨LT1.le l, LQ.le l, LT1.le l, LT1.le l⟩
def LS (K : Ct) (Wc : WX) (t : JSt) : TS := fun D σ H => ∃ τ G, rs K H τ σ ∧ rh K G H ∧ t (LR K H Wc) (LD K H D) τ G
structure JS (X : Cx) (st : Stmt) (t : JSt) : Prop where
  mono : MonoS t
  ps : ∀ Wc, Takes X Wc → PS X st (LS (ctOf X) Wc t)
structure JSs (X : Cx) (st : List Stmt) (t : JSt) : Prop where
  mono : MonoS t
  pss : ∀ Wc, Takes X Wc → PSs X st (LS (ctOf X) Wc t)
theorem LS.at {K : Ct} {Wc : WX} {t : JSt} (m : MonoS t) {D : Ends} {σ : St} {H H0 : Hp} {τ : Tq} {G : Hq} (l : Le K H0 H) (a : rs K H τ σ) (b : rh K G H) (h : t (LR K H0 Wc) (LD K H0 D) τ G) : LS K Wc t D σ H :=
  ⟨τ, G, a, b, m _ _ _ _ τ G (LR.le l) (LD.le l) h⟩

section
variable {X : Cx}
theorem PS.imp {e : Stmt} {t t1 : TS} (h : PS X e t) (i : ∀ D σ H, t1 D σ H → t D σ H) : PS X e t1 := ⟨fun pins s σ H D I hw => h.run pins s σ H D I (i D σ H hw)⟩
theorem PSs.imp {e : List Stmt} {t t1 : TS} (h : PSs X e t) (i : ∀ D σ H, t1 D σ H → t D σ H) : PSs X e t1 := ⟨fun pins s σ H D I hw => h.run pins s σ H D I (i D σ H hw)⟩
def jNext : JSt := fun _ D τ G => D.nx τ G
def jSeq (t u : JSt) : JSt := fun R D τ G => t R { D with nx := u R D } τ G
theorem jSeq.mono {t u : JSt} (mt : MonoS t) (mu : MonoS u) : MonoS (jSeq t u) := fun R R' D D' τ G r d h =>
  mt R R' { D with nx := u R D } { D' with nx := u R' D' } τ G r ⟨fun τ G k => mu R R' D D' τ G r d k, d.rt, d.bk, d.ct⟩ h
theorem jss_nil : JSs X [] jNext := ⟨fun _ _ _ _ _ _ _ d h => d.nx _ _ h, fun Wc tk => PSs.imp pss_nil fun D σ H ⟨τ, G, a, b, h⟩ => h σ H (Le.refl H) a b⟩
theorem jss_one {st : Stmt} {t : JSt} (h : JS X st t) : JSs X [st] t := ⟨h.mono, fun Wc tk => pss_one (h.ps Wc tk)⟩
theorem jss_cons {st : Stmt} {rest : List Stmt} {t u : JSt} (h1 : JS X st t) (h2 : JSs X rest u) : JSs X (st :: rest) (jSeq t u) :=
  ⟨jSeq.mono h1.mono h2.mono, fun Wc tk => PSs.imp (pss_cons (h1.ps Wc tk) (h2.pss Wc tk)) fun D σ H ⟨τ, G, a, b, h⟩ =>
    ⟨τ, G, a, b, h1.mono _ _ { LD (ctOf X) H D with nx := u (LR (ctOf X) H Wc) (LD (ctOf X) H D) } _ τ G (RLe.refl _) ⟨fun τ1 G1 k σ1 H1 l r g => LS.at h2.mono l r g k, fun _ _ h => h, fun _ _ h => h, fun _ _ h => h⟩ h⟩⟩
theorem js_pass {pos} : JS X (.Pass pos) jNext := ⟨fun _ _ _ _ _ _ _ d h => d.nx _ _ h, fun Wc tk => PS.imp ps_pass fun D σ H ⟨τ, G, a, b, h⟩ => h σ H (Le.refl H) a b⟩
def jBreak : JSt := fun _ D τ G => D.bk τ G
def jCont : JSt := fun _ D τ G => D.ct τ G
theorem js_break {pos} : JS X (.Break pos) jBreak := ⟨fun _ _ _ _ _ _ _ d h => d.bk _ _ h, fun Wc tk => PS.imp ps_break fun D σ H ⟨τ, G, a, b, h⟩ => h σ H (Le.refl H) a b⟩
theorem js_continue {pos} : JS X (.Continue pos) jCont := ⟨fun _ _ _ _ _ _ _ d h => d.ct _ _ h, fun Wc tk => PS.imp ps_continue fun D σ H ⟨τ, G, a, b, h⟩ => h σ H (Le.refl H) a b⟩
/-- a statement that is never reached -/
def jNever : JSt := fun _ _ _ _ => False
theorem js_never {st : Stmt} : JS X st jNever := ⟨fun _ _ _ _ _ _ _ _ h => h, fun Wc tk => PS.imp ps_never fun D σ H ⟨τ, G, a, b, h⟩ => h⟩
/-- an expression, then what its value makes -/
def jsE (t : Jt Dv) (u : Dv → JSt) : JSt := fun R D τ G => t R τ G fun x G1 => u x R D τ G1
theorem jsE.mono {t : Jt Dv} {u : Dv → JSt} (mt : Mono t) (mu : ∀ x, MonoS (u x)) : MonoS (jsE t u) := fun R R' D D' τ G r d h => mt R R' τ G _ _ r (fun x G1 k => mu x R R' D D' τ G1 r d k) h
theorem jsE.lift {K : Ct} {Wc : WX} {t : Jt Dv} {u : Dv → JSt} (mt : Mono t) (mu : ∀ x, MonoS (u x)) {D : Ends} {σ : St} {H : Hp} (h : LS K Wc (jsE t u) D σ H) : LG K (rv K) Wc t σ H fun v H1 => Le K H H1 ∧ ∃ x, rv K H1 x v ∧ LS K Wc (u x) D σ H1 := by
  obtain ⟨τ, G, a, b, c⟩ := h
  exact ⟨τ, G, a, b, mt _ _ τ G _ _ (RLe.refl _) (fun x G1 k v H1 l r g => ⟨l, x, r, LS.at (mu x) l (a.le l) g k⟩) c⟩
def jDrop (t : Jt Dv) : JSt := jsE t fun _ => jNext
theorem jNext.mono : MonoS jNext := fun _ _ _ _ _ _ _ d h => d.nx _ _ h
theorem js_expr {e : Expr} {t : Jt Dv} {pos : Pos} (he : JE X e t) (hs : swapsWith e none pos.line X.env = pure false := by rfl) : JS X (.Expr e pos) (jDrop t) :=
  ⟨jsE.mono he.mono fun _ => jNext.mono, fun Wc tk => PS.imp (ps_expr (he.pe Wc tk) hs) fun D σ H h =>
    LG.mono he.mono (fun v H1 ⟨l, x, r, τ, G, a, b, k⟩ => k σ H1 (Le.refl H1) a b) (jsE.lift he.mono (fun _ => jNext.mono) h)⟩
def jRt (x : Dv) : JSt := fun _ D _ G => D.rt x G
theorem jRt.mono {x : Dv} : MonoS (jRt x) := fun _ _ _ _ _ _ _ d h => d.rt _ _ h
def jRet (t : Jt Dv) : JSt := jsE t jRt
theorem js_ret {e : Expr} {t : Jt Dv} {pos : Pos} (he : JE X e t) : JS X (.Return (some e) pos) (jRet t) :=
  ⟨jsE.mono he.mono fun _ => jRt.mono, fun Wc tk => PS.imp (ps_ret (he.pe Wc tk)) fun D σ H h =>
    LG.mono he.mono (fun v H1 ⟨l, x, r, τ, G, a, b, k⟩ => k v H1 (Le.refl H1) r b) (jsE.lift he.mono (fun _ => jRt.mono) h)⟩
theorem js_retN {pos} : JS X (.Return none pos) (jRt .non) := ⟨jRt.mono, fun Wc tk => PS.imp ps_retN fun D σ H ⟨τ, G, a, b, h⟩ => h .non H (Le.refl H) (by unfold rv; rfl) b⟩
def jIfS (c : Jt Bool) (t u : JSt) : JSt := fun R D τ G => c R τ G fun b G1 => if b = true then t R D τ G1 else u R D τ G1
theorem js_if {c : Expr} {a b : List Stmt} {tc : Jt Bool} {t u : JSt} {pos : Pos} (hc : JT X c tc) (ha : JSs X a t) (hb : JSs X b u) : JS X (.If c a b pos) (jIfS tc t u) := by
  refine ⟨fun R R' D D' τ G r d h => hc.mono R R' τ G _ _ r (fun b G1 k => ?_) h, fun Wc tk => PS.imp (ps_if (hc.pt Wc tk) (ha.pss Wc tk) (hb.pss Wc tk)) fun D σ H h => ?_⟩
  · cases b with
    | true => rw [if_pos rfl] at k ⊢; exact ha.mono R R' D D' τ G1 r d k
    | false => rw [if_neg Bool.false_ne_true] at k ⊢; exact hb.mono R R' D D' τ G1 r d k
  · obtain ⟨τ, G, a, b, c⟩ := h
    refine ⟨τ, G, a, b, hc.mono _ _ τ G _ _ (RLe.refl _) (fun b G1 k v H1 l r g => ?_) c⟩
    cases (show b = v from r)
    cases b with
    | true => rw [if_pos rfl] at k ⊢; exact LS.at ha.mono l (a.le l) g k
    | false => rw [if_neg Bool.false_ne_true] at k ⊢; exact LS.at hb.mono l (a.le l) g k

/-! ### targets -/
/-- the slots outside vs stand -/
def Agree (vs : List Nat) (σ σ1 : St) : Prop := σ.length = σ1.length ∧ ∀ i, i ∉ vs → σ1[i]? = σ[i]?
abbrev JGt := JX → Dv → Tq → Hq → (Tq → Hq → Prop) → Prop
abbrev JGts := JX → List Dv → Tq → Hq → (Tq → Hq → Prop) → Prop
def LGt (K : Ct) (Wc : WX) (vs : List Nat) (g : JGt) : TG := fun v σ H Q => ∃ w τ G, rv K H w v ∧ rs K H τ σ ∧ rh K G H ∧ g (LR K H Wc) w τ G fun τ1 G1 => ∀ σ1 H1, Le K H H1 → rs K H1 τ1 σ1 → rh K G1 H1 → Agree vs σ σ1 → Q σ1 H1
def LGts (K : Ct) (Wc : WX) (vs : List Nat) (g : JGts) : TGs := fun v σ H Q => ∃ w τ G, rvs K H w v ∧ rs K H τ σ ∧ rh K G H ∧ g (LR K H Wc) w τ G fun τ1 G1 => ∀ σ1 H1, Le K H H1 → rs K H1 τ1 σ1 → rh K G1 H1 → Agree vs σ σ1 → Q σ1 H1
def MonoG {α : Type} (g : JX → α → Tq → Hq → (Tq → Hq → Prop) → Prop) : Prop := ∀ R R' w τ G Q Q', RLe R R' → (∀ τ G, Q τ G → Q' τ G) → g R w τ G Q → g R' w τ G Q'
structure JG (X : Cx) (tg : Expr) (vs : List Nat) (g : JGt) : Prop where
  mono : MonoG g
  pg : ∀ Wc, Takes X Wc → PG X tg (LGt (ctOf X) Wc vs g)
structure JGs (X : Cx) (tg : List Expr) (vs : List Nat) (g : JGts) : Prop where
  mono : MonoG g
  pgs : ∀ Wc, Takes X Wc → PGs X tg (LGts (ctOf X) Wc vs g)
theorem PG.imp {e : Expr} {t t1 : TG} (h : PG X e t) (i : ∀ v σ H Q, t1 v σ H Q → t v σ H Q) : PG X e t1 := ⟨fun pins s σ H x u Q I r hw => h.run pins s σ H x u Q I r (i x σ H Q hw)⟩
theorem PGs.imp {e : List Expr} {t t1 : TGs} (h : PGs X e t) (i : ∀ v σ H Q, t1 v σ H Q → t v σ H Q) : PGs X e t1 := ⟨fun pins s σ H x u Q I r hw => h.run pins s σ H x u Q I r (i x σ H Q hw)⟩
theorem rs.put {K : Ct} {H : Hp} {τ : Tq} {σ : St} {i : Nat} {w : Dv} {v : V} (r : rv K H w v) (a : rs K H τ σ) : rs K H (τ.set i (some w)) (σ.set i (some v)) := by
  refine ⟨by rw [List.length_set, List.length_set]; exact a.1, fun j x e => ?_⟩
  by_cases hij : i = j
  · subst hij
    by_cases hi : i < τ.length
    · rw [List.getElem?_set_self hi] at e
      cases e
      exact ⟨v, by rw [List.getElem?_set_self (by rw [← a.1]; exact hi)], r⟩
    · rw [List.getElem?_eq_none (by rw [List.length_set]; omega)] at e; cases e
  · rw [List.getElem?_set_ne hij] at e ⊢
    exact a.2 j x e
theorem Agree.put {σ : St} {i : Nat} {v : V} : Agree [i] σ (σ.set i (some v)) := ⟨by rw [List.length_set], fun j hj => by
  rw [List.getElem?_set_ne (fun e => hj (by rw [e]; simp))]⟩
theorem Agree.trans {a b : List Nat} {σ σ1 σ2 : St} (h : Agree a σ σ1) (k : Agree b σ1 σ2) : Agree (a ++ b) σ σ2 := ⟨h.1.trans k.1, fun i hi => by
  rw [List.mem_append, not_or] at hi
  rw [k.2 i hi.2, h.2 i hi.1]⟩
theorem Agree.refl (vs : List Nat) (σ : St) : Agree vs σ σ := ⟨rfl, fun _ _ => rfl⟩
def jgName (i : Nat) : JGt := fun _ w τ G Q => Q (τ.set i (some w)) G
theorem jgName.mono {i : Nat} : MonoG (jgName i) := fun _ _ _ _ _ _ _ _ q h => q _ _ h
theorem jg_name {i : Nat} {x : Str} {pos : Pos} (hN : X.N.Nodup) (hi : X.N[i]? = some x := by rfl) (hx : Loc X.env.scope x := by first | exact .inl rfl | exact .inr rfl) (hf : X.fn x = true ∨ X.env.scope.names.lookup x = some .local := by first | exact .inl rfl | exact .inr rfl | assumption) : JG X (.Name x pos) [i] (jgName i) :=
  ⟨fun _ _ _ _ _ _ _ _ q h => q _ _ h, fun Wc tk => PG.imp (pg_name hN hi hx hf) fun v σ H Q ⟨w, τ, G, r, a, b, h⟩ => h _ H (Le.refl H) (a.put r) b Agree.put⟩
def jgNil : JGts := fun _ ws τ G Q => ws = [] ∧ Q τ G
def jgCons (g : JGt) (u : JGts) : JGts := fun R ws τ G Q => ∃ w r, ws = w :: r ∧ g R w τ G fun τ1 G1 => u R r τ1 G1 Q
theorem jgs_nil : JGs X [] [] jgNil := ⟨fun _ _ _ _ _ _ _ _ q h => ⟨h.1, q _ _ h.2⟩, fun Wc tk => PGs.imp pgs_nil fun v σ H Q ⟨w, τ, G, r, a, b, e, h⟩ => by
  subst e
  exact ⟨r.inv0, h σ H (Le.refl H) a b (Agree.refl _ _)⟩⟩
theorem jgs_cons {e : Expr} {es : List Expr} {vs us : List Nat} {g : JGt} {u : JGts} (h1 : JG X e vs g) (h2 : JGs X es us u) (hs : (assignEach (e :: es) X.env).map (·.2) = assign e X.env :: (assignEach es X.env).map (·.2) := by rfl) : JGs X (e :: es) (vs ++ us) (jgCons g u) := by
  refine ⟨fun R R' ws τ G Q Q' r q ⟨w, ws', e, k⟩ => ⟨w, ws', e, h1.mono R R' w τ G _ _ r (fun τ1 G1 z => h2.mono R R' ws' τ1 G1 Q Q' r q z) k⟩, fun Wc tk => PGs.imp (pgs_cons (h1.pg Wc tk) (h2.pgs Wc tk) hs) fun v σ H Q ⟨ws, τ, G, r, a, b, w, ws', e, k⟩ => ?_⟩
  subst e
  obtain ⟨v0, vr, e1, r1, r2⟩ := r.inv
  subst e1
  refine ⟨v0, vr, rfl, w, τ, G, r1, a, b, h1.mono _ _ w τ G _ _ (RLe.refl _) (fun τ1 G1 z σ1 H1 l a1 b1 ag => ?_) k⟩
  refine ⟨ws', τ1, G1, r2.le l, a1, b1, h2.mono _ _ ws' τ1 G1 _ _ (LR.le l) (fun τ2 G2 y σ2 H2 l2 a2 b2 ag2 => ?_) z⟩
  exact y σ2 H2 (l.trans l2) a2 b2 (ag.trans ag2)
def jgTup (n : Nat) (g : JGts) : JGt := fun R w τ G Q => ∃ ws, w = .tup ws ∧ ws.length = n ∧ g R ws τ G Q
theorem jg_tup {es : List Expr} {vs : List Nat} {g : JGts} {k n : Nat} {pos : Pos} (hc : X.calm = true) (h : JGs X es vs g) (hn : (assignEach es X.env).length = n := by rfl) (hst : (assignEach es X.env).findIdx? (·.1) = none := by rfl) : JG X (.Tuple es k pos) vs (jgTup n g) := by
  refine ⟨fun R R' w τ G Q Q' r q ⟨ws, e, hl, z⟩ => ⟨ws, e, hl, h.mono R R' ws τ G Q Q' r q z⟩, fun Wc tk => PG.imp (pg_tup hc (h.pgs Wc tk) hn hst) fun v σ H Q ⟨w, τ, G, r, a, b, ws, e, hl, z⟩ => ?_⟩
  subst e
  unfold rv at r
  obtain ⟨p, xs, e, s, r⟩ := r
  exact ⟨p, xs, e, s, by rw [← r.length]; exact hl, ws, τ, G, r, a, b, z⟩
/-- target = e -/
def jAsg (t : Jt Dv) (g : JGt) : JSt := jsE t fun x => fun R D τ G => g R x τ G D.nx
theorem jAsg.mono2 {g : JGt} (m : MonoG g) (x : Dv) : MonoS (fun R D τ G => g R x τ G D.nx) := fun R R' D D' τ G r d h => m R R' x τ G _ _ r d.nx h
theorem jAsg.lift {K : Ct} {Wc : WX} {t : Jt Dv} {g : JGt} {vs : List Nat} (mt : Mono t) (mg : MonoG g) {D : Ends} {σ : St} {H : Hp} (h : LS K Wc (jAsg t g) D σ H) : tAsg (LG K (rv K) Wc t) (LGt K Wc vs g) D σ H :=
  LG.mono mt (fun v H1 ⟨l, x, r, τ, G, a, b, k⟩ => ⟨x, τ, G, r, a, b, mg _ _ x τ G _ _ (RLe.refl _) (fun τ1 G1 z σ1 H2 l2 a2 b2 _ => z σ1 H2 l2 a2 b2) k⟩) (jsE.lift mt (fun x => jAsg.mono2 mg x) h)
theorem js_asg {tg e : Expr} {t : Jt Dv} {vs : List Nat} {g : JGt} {pos : Pos} (he : JE X e t) (hg : JG X tg vs g) (hs : swapsWithSole [tg] e pos.line X.env = pure false := by rfl) (hw : swappedStores [tg] e X.env = pure none := by rfl) (h1 : (assignEach [tg] X.env).map (·.2) = [assign tg X.env] := by rfl) :
    JS X (.Assign [tg] e pos) (jAsg t g) := ⟨jsE.mono he.mono fun x => jAsg.mono2 hg.mono x, fun Wc tk => PS.imp (ps_asg (he.pe Wc tk) (hg.pg Wc tk) hs hw h1) fun D σ H h => jAsg.lift he.mono hg.mono h⟩
theorem js_set {i : Nat} {x : Str} {e : Expr} {t : Jt Dv} {pos pos' : Pos} (hN : X.N.Nodup) (he : JE X e t) (hi : X.N[i]? = some x := by rfl) (hx : Loc X.env.scope x := by first | exact .inl rfl | exact .inr rfl) (hs : swapsWith e (some (.Name x pos')) pos.line X.env = pure false := by rfl)
    (hf : X.fn x = true ∨ X.env.scope.names.lookup x = some .local := by first | exact .inl rfl | exact .inr rfl | assumption) : JS X (.Assign [.Name x pos'] e pos) (jAsg t (jgName i)) :=
  ⟨jsE.mono he.mono fun x => jAsg.mono2 jgName.mono x, fun Wc tk => PS.imp (ps_set hN hi hx (he.pe Wc tk) hs hf) fun D σ H h =>
    LG.mono he.mono (fun v H1 ⟨l, x, r, τ, G, a, b, k⟩ => k _ H1 (Le.refl H1) (a.put r) b) (jsE.lift he.mono (fun x => jAsg.mono2 jgName.mono x) h)⟩
/-- two names from two written values -/
def jPar (i j : Nat) (ta : Jt (List Dv)) : JSt := fun R D τ G => ta R τ G fun ws G1 => ∃ a b, ws = [a, b] ∧ D.nx ((τ.set i (some a)).set j (some b)) G1
theorem js_par {i j : Nat} {x y : Str} {a b : Expr} {ta : Jt (List Dv)} {px py pt pos : Pos} {kt k2 pt2} (hc : X.calm = true) (hN : X.N.Nodup) (ha : JA X [a, b] ta) (hi : X.N[i]? = some x := by rfl) (hj : X.N[j]? = some y := by rfl) (hij : i ≠ j := by decide)
    (hx : X.env.scope.names.lookup x = some .local := by rfl) (hy : X.env.scope.names.lookup y = some .local := by rfl) (hw : swappedStores [.Tuple [.Name x px, .Name y py] kt pt] (.Tuple [a, b] k2 pt2) X.env = pure (some [x, y]) := by rfl)
    (hs : swapsWithSole [.Tuple [.Name x px, .Name y py] kt pt] (.Tuple [a, b] k2 pt2) pos.line X.env = pure false := by rfl) : JS X (.Assign [.Tuple [.Name x px, .Name y py] kt pt] (.Tuple [a, b] k2 pt2) pos) (jPar i j ta) := by
  refine ⟨fun R R' D D' τ G r d h => ha.mono R R' τ G _ _ r (fun ws G1 ⟨a, b, e, k⟩ => ⟨a, b, e, d.nx _ _ k⟩) h, fun Wc tk => PS.imp (ps_par hc hN hi hj hij hx hy (ha.pa Wc tk) hw hs) fun D σ H ⟨τ, G, a, b, h⟩ => ?_⟩
  refine ⟨τ, G, a, b, ha.mono _ _ τ G _ _ (RLe.refl _) (fun ws G1 ⟨c, d, e, k⟩ vs H1 l r g => ?_) h⟩
  subst e
  obtain ⟨v, vr, e1, r1, r2⟩ := r.inv
  obtain ⟨u, ur, e2, r3, r4⟩ := r2.inv
  have e3 := r4.inv0
  subst e3; subst e2; subst e1
  exact ⟨v, u, rfl, k _ H1 l ((a.le l).put r1 |>.put r3) g⟩

/-! ### what a loop walks: fixed items xs; S must hold of the heap at every turn -/
structure WalkR (K : Ct) (H0 : Hp) (xs : List Dv) (S : Hq → Prop) (J : It) : Prop where
  goes : ∀ i G H, Le K H0 H → i < xs.length → S G → rh K G H → J.go i H
  stops : ∀ G H, Le K H0 H → S G → rh K G H → J.stop xs.length H
  yields : ∀ i x G H v H', Le K H0 H → xs[i]? = some x → S G → rh K G H → J.yld i H v H' → Le K H H' ∧ rh K G H' ∧ rv K H' x v
abbrev JIt := JX → Tq → Hq → (List Dv → (Hq → Prop) → Hq → Prop) → Prop
def LI (K : Ct) (Wc : WX) (ti : JIt) : TI := fun σ H Rr => ∃ τ G, rs K H τ σ ∧ rh K G H ∧ ti (LR K H Wc) τ G fun xs S G1 => ∀ J H1, Le K H H1 → rh K G1 H1 → WalkR K H1 xs S J → Rr J H1
structure JI (X : Cx) (tg iter : Expr) (ti : JIt) : Prop where
  mono : ∀ R R' τ G Q Q', RLe R R' → (∀ xs S G, Q xs S G → Q' xs S G) → ti R τ G Q → ti R' τ G Q'
  pi : ∀ Wc, Takes X Wc → PI X tg iter (LI (ctOf X) Wc ti)
def Wk (P : Tq → Hq → Prop) : Tq → Hq → Prop := fun τ G => ∃ τ2 G2, TSub τ2 τ ∧ HSub G2 G ∧ P τ2 G2
theorem Wk.of {P : Tq → Hq → Prop} {τ : Tq} {G : Hq} (h : P τ G) : Wk P τ G := ⟨τ, G, TSub.refl _, HSub.refl _, h⟩
def jFor (ti : JIt) (g : JGt) (tb : JSt) : JSt := fun R D τ G => ti R τ G fun xs S G1 => ∃ P : Nat → Tq → Hq → Prop, P 0 τ G1 ∧ (∀ i τ G, i ≤ xs.length → P i τ G → S G) ∧
  (∀ i x τ G, xs[i]? = some x → P i τ G → g R x τ G fun τ1 G1 => tb R { D with nx := Wk (P (i + 1)), ct := Wk (P (i + 1)), bk := D.nx } τ1 G1) ∧ ∀ τ G, P xs.length τ G → D.nx τ G
theorem js_for {tg iter : Expr} {body : List Stmt} {ti : JIt} {vs : List Nat} {g : JGt} {tb : JSt} {pos : Pos} (hp : PassesOwn (model X.prog X.w) X.A X.env X.xe) (hc : X.calm = true) (hi : JI X tg iter ti) (hg : JG X tg vs g) (hb : JSs X body tb)
    (hs : ∀ x, foldedSetIterable iter X.env x = pure x := by intro _; rfl) : JS X (.For tg iter body [] pos) (jFor ti g tb) := by
  refine ⟨fun R R' D D' τ G r d h => hi.mono R R' τ G _ _ r (fun xs S G1 ⟨P, h0, hS, ht, hd⟩ => ⟨P, h0, hS, fun i x τ G e p => hg.mono R R' x τ G _ _ r (fun τ1 G1 k => hb.mono R R' { D with nx := Wk (P (i + 1)), ct := Wk (P (i + 1)), bk := D.nx } _ τ1 G1 r ⟨fun _ _ z => z, d.rt, d.nx, fun _ _ z => z⟩ k) (ht i x τ G e p), fun τ G p => d.nx _ _ (hd τ G p)⟩) h,
    fun Wc tk => PS.imp (ps_for hp hc (hi.pi Wc tk) (hg.pg Wc tk) (hb.pss Wc tk) hs) fun D σ H ⟨τ, G, a, b, h⟩ => ?_⟩
  refine ⟨τ, G, a, b, hi.mono _ _ τ G _ _ (RLe.refl _) (fun xs S G1 ⟨P, h0, hS, ht, hd⟩ J H1 l g1 w => ?_) h⟩
  refine ⟨fun i m σ H => m = xs.length - i ∧ i ≤ xs.length ∧ Le (ctOf X) H1 H ∧ ∃ τ G, rs (ctOf X) H τ σ ∧ rh (ctOf X) G H ∧ P i τ G, ⟨_, rfl, Nat.zero_le _, Le.refl _, τ, G1, a.le l, g1, h0⟩, ?_⟩
  rintro i m σ2 H2 ⟨rfl, hile, l2, τ2, G2, a2, b2, p2⟩
  have s2 := hS i τ2 G2 hile p2
  by_cases hlt : i < xs.length
  · refine .inr ⟨w.goes i G2 H2 l2 hlt s2 b2, fun σ H => Le (ctOf X) H1 H ∧ ∃ τ G, rs (ctOf X) H τ σ ∧ rh (ctOf X) G H ∧ P (i + 1) τ G, fun σ' H' ⟨l', q'⟩ => ⟨_, by omega, rfl, hlt, l', q'⟩, fun v H3 y => ?_⟩
    have e : xs[i]? = some xs[i] := List.getElem?_eq_getElem hlt
    obtain ⟨l3, b3, r3⟩ := w.yields i xs[i] G2 H2 v H3 l2 e s2 b2 y
    refine ⟨xs[i], τ2, G2, r3, a2.le l3, b3, hg.mono _ _ _ τ2 G2 _ _ (LR.le ((l.trans l2).trans l3)) (fun τ4 G4 k σ4 H4 l4 a4 b4 _ => ?_) (ht i _ τ2 G2 e p2)⟩
    have l04 := ((l.trans l2).trans l3).trans l4
    refine ⟨τ4, G4, a4, b4, hb.mono _ _ _ _ τ4 G4 (LR.le l04) ⟨?_, ?_, ?_, ?_⟩ k⟩
    · exact fun τ5 G5 ⟨τ6, G6, t6, g6, p6⟩ σ5 H5 l5 a5 b5 => ⟨((l2.trans l3).trans l4).trans l5, τ6, G6, a5.sub t6, b5.sub g6, p6⟩
    · exact fun w G z => LQ.le l04 w G z
    · exact fun τ G z => LT1.le l04 τ G z
    · exact fun τ5 G5 ⟨τ6, G6, t6, g6, p6⟩ σ5 H5 l5 a5 b5 => ⟨((l2.trans l3).trans l4).trans l5, τ6, G6, a5.sub t6, b5.sub g6, p6⟩
  · have e : i = xs.length := by omega
    subst e
    exact .inl ⟨w.stops G2 H2 l2 s2 b2, hd τ2 G2 p2 σ2 H2 (l.trans l2) a2 b2⟩
def jWhile (c : Jt Bool) (tb : JSt) : JSt := fun R D τ G => ∃ P : Nat → Tq → Hq → Prop, (∃ m, P m τ G) ∧ ∀ m τ G, P m τ G →
  c R τ G fun b G1 => if b = true then tb R { D with nx := Wk fun τ G => ∃ m', m' < m ∧ P m' τ G, ct := Wk fun τ G => ∃ m', m' < m ∧ P m' τ G, bk := D.nx } τ G1 else D.nx τ G1
theorem js_while {c : Expr} {body : List Stmt} {tc : Jt Bool} {tb : JSt} {pos : Pos} (hp : PassesOwn (model X.prog X.w) X.A X.env X.xe) (hc : JT X c tc) (hb : JSs X body tb) : JS X (.While c body [] pos) (jWhile tc tb) := by
  refine ⟨fun R R' D D' τ G r d ⟨P, h0, ht⟩ => ⟨P, h0, fun m τ G p => hc.mono R R' τ G _ _ r (fun b G1 k => ?_) (ht m τ G p)⟩, fun Wc tk => PS.imp (ps_while hp (hc.pt Wc tk) (hb.pss Wc tk)) fun D σ H ⟨τ, G, a, b, P, ⟨m0, h0⟩, ht⟩ => ?_⟩
  · cases b with
    | true => rw [if_pos rfl] at k ⊢; exact hb.mono R R' { D with nx := Wk fun τ G => ∃ m', m' < m ∧ P m' τ G, ct := Wk fun τ G => ∃ m', m' < m ∧ P m' τ G, bk := D.nx } _ τ G1 r ⟨fun _ _ z => z, d.rt, d.nx, fun _ _ z => z⟩ k
    | false => rw [if_neg Bool.false_ne_true] at k ⊢; exact d.nx _ _ k
  · refine ⟨fun m σ H1 => Le (ctOf X) H H1 ∧ ∃ τ G, rs (ctOf X) H1 τ σ ∧ rh (ctOf X) G H1 ∧ P m τ G, ⟨m0, Le.refl _, τ, G, a, b, h0⟩, ?_⟩
    rintro m σ2 H2 ⟨l2, τ2, G2, a2, b2, p2⟩
    refine ⟨τ2, G2, a2, b2, hc.mono _ _ τ2 G2 _ _ (LR.le l2) (fun b G3 k v H3 l3 r3 b3 => ?_) (ht m τ2 G2 p2)⟩
    cases (show b = v from r3)
    cases b with
    | true =>
      rw [if_pos rfl] at k ⊢
      have l03 := l2.trans l3
      refine ⟨fun σ H1 => ∃ m', m' < m ∧ Le (ctOf X) H H1 ∧ ∃ τ G, rs (ctOf X) H1 τ σ ∧ rh (ctOf X) G H1 ∧ P m' τ G, fun σ' H' q => q, τ2, G3, a2.le l3, b3, hb.mono _ _ _ _ τ2 G3 (LR.le l03) ⟨?_, ?_, ?_, ?_⟩ k⟩
      · exact fun τ5 G5 ⟨τ6, G6, t6, g6, m', hm, p6⟩ σ5 H5 l5 a5 b5 => ⟨m', hm, l03.trans l5, τ6, G6, a5.sub t6, b5.sub g6, p6⟩
      · exact fun w G z => LQ.le l03 w G z
      · exact fun τ G z => LT1.le l03 τ G z
      · exact fun τ5 G5 ⟨τ6, G6, t6, g6, m', hm, p6⟩ σ5 H5 l5 a5 b5 => ⟨m', hm, l03.trans l5, τ6, G6, a5.sub t6, b5.sub g6, p6⟩
    | false =>
      rw [if_neg Bool.false_ne_true] at k ⊢
      exact k σ2 H3 (l2.trans l3) (a2.le l3) b3

/-! ### list comprehensions -/
def wipeT (τ : Tq) : List Nat → Tq
  | [] => τ
  | v :: vs => (wipeT τ vs).set v none
theorem rs.wiped {K : Ct} {H : Hp} {τ : Tq} {σ : St} (a : rs K H τ σ) : ∀ vs : List Nat, rs K H (wipeT τ vs) (wipe σ vs)
  | [] => a
  | v :: vs => by
    have h := rs.wiped a vs
    unfold wipeT wipe
    refine ⟨by rw [List.length_set, List.length_set]; exact h.1, fun j x e => ?_⟩
    by_cases hij : v = j
    · subst hij
      by_cases hi : v < (wipeT τ vs).length
      · rw [List.getElem?_set_self hi] at e; cases e
      · rw [List.getElem?_eq_none (by rw [List.length_set]; omega)] at e; cases e
    · rw [List.getElem?_set_ne hij] at e ⊢
      exact h.2 j x e
theorem wipe_in {σ : St} {i : Nat} : ∀ {vs : List Nat}, i ∈ vs → i < σ.length → (wipe σ vs)[i]? = some none
  | v :: vs, h, hl => by
    unfold wipe
    by_cases e : v = i
    · subst e; rw [List.getElem?_set_self (by rw [wipe_length]; exact hl)]
    · rw [List.getElem?_set_ne e]
      exact wipe_in (by rcases List.mem_cons.mp h with z | z; exact absurd z.symm e; exact z) hl
theorem wipe_out {σ : St} {i : Nat} : ∀ {vs : List Nat}, i ∉ vs → (wipe σ vs)[i]? = σ[i]?
  | [], _ => rfl
  | v :: vs, h => by
    rw [List.mem_cons, not_or] at h
    unfold wipe
    rw [List.getElem?_set_ne (fun e => h.1 e.symm)]
    exact wipe_out h.2
theorem wipe_agree {σ σ1 : St} {us vs : List Nat} (h : Agree us (wipe σ vs) σ1) (hu : ∀ i ∈ us, i ∈ vs) : wipe σ1 vs = wipe σ vs := by
  apply List.ext_getElem?
  intro i
  by_cases hi : i ∈ vs
  · by_cases hl : i < σ.length
    · rw [wipe_in hi hl, wipe_in hi (by rw [← h.1, wipe_length]; exact hl)]
    · rw [List.getElem?_eq_none (by rw [wipe_length, ← h.1, wipe_length]; omega), List.getElem?_eq_none (by rw [wipe_length]; omega)]
  · rw [wipe_out hi, h.2 i (fun z => hi (hu i z))]
def R0 : JX := fun _ _ _ _ => False
def WkH (P : Hq → Prop) : Hq → Prop := fun G => ∃ G2, HSub G2 G ∧ P G2
theorem WkH.of {P : Hq → Prop} {G : Hq} (h : P G) : WkH P G := ⟨G, HSub.refl _, h⟩
def jLc (ti : JIt) (g : JGt) (tt : Jt Bool) (te : Jt Dv) (vs : List Nat) : Jt Dv := fun R τ G Q => ti R τ G fun xs S G1 => ∀ p, G1 p = none → ∃ P : Nat → Hq → Prop, P 0 (up G1 p (.lst [])) ∧ (∀ i G, i ≤ xs.length → P i G → S G) ∧
  (∀ i x G, xs[i]? = some x → P i G → g R0 x (wipeT τ vs) G fun τ2 G2 => tt R0 τ2 G2 fun b G3 => if b = true then te R0 τ2 G3 fun y G4 => ∃ acc, G4 p = some (.lst acc) ∧ acc.length < sizeLine ∧ WkH (P (i + 1)) (up G4 p (.lst (acc ++ [y]))) else WkH (P (i + 1)) G3) ∧
  ∀ G, P xs.length G → Q (.ad p) G
structure JTs (X : Cx) (ifs : List Expr) (t : Jt Bool) : Prop where
  mono : Mono t
  pts : ∀ Wc, Takes X Wc → PTs X ifs (LG (ctOf X) eqr Wc t)
def jYes : Jt Bool := fun _ _ G Q => Q true G
theorem PTs.imp {e : List Expr} {t t1 : TT} (h : PTs X e t) (i : ∀ σ H Q, t1 σ H Q → t σ H Q) : PTs X e t1 := ⟨fun pins s σ H Q I hw => h.run pins s σ H Q I (i σ H Q hw)⟩
theorem jts_nil : JTs X [] jYes := ⟨fun _ _ _ _ _ _ _ q h => q _ _ h, fun Wc tk => PTs.imp pts_nil fun σ H Q ⟨τ, G, a, b, h⟩ => h true H (Le.refl H) rfl b⟩
theorem jts_one {c : Expr} {t : Jt Bool} (h : JT X c t) : JTs X [c] t := ⟨h.mono, fun Wc tk => pts_one (h.pt Wc tk)⟩
theorem lift_lc {K : Ct} {Wc : WX} {ti : JIt} {us vs : List Nat} {g : JGt} {tt : Jt Bool} {te : Jt Dv} {σ : St} {H : Hp} {Q : VK}
    (mi : ∀ R R' τ G Q Q', RLe R R' → (∀ xs S G, Q xs S G → Q' xs S G) → ti R τ G Q → ti R' τ G Q') (mg : MonoG g) (mt : Mono tt) (me : Mono te) (hu : ∀ i ∈ us, i ∈ vs) (h : LG K (rv K) Wc (jLc ti g tt te vs) σ H Q) :
    tLc (LI K Wc ti) (LGt K (fun _ _ _ _ => False) us g) (LG K eqr (fun _ _ _ _ => False) tt) (LG K (rv K) (fun _ _ _ _ => False) te) vs σ H Q := by
  obtain ⟨τ, G, a, b, h⟩ := h
  have r0 : ∀ H, RLe R0 (LR K H fun _ _ _ _ => False) := fun H _ _ _ _ z => z.elim
  refine ⟨τ, G, a, b, mi _ _ τ G _ _ (RLe.refl _) (fun xs S G1 k J H1 l g1 w p hp => ?_) h⟩
  obtain ⟨P, h0, hS, ht, hd⟩ := k p (g1.fresh hp)
  have lp := Le.new (K := K) (p := p) (o := .lst []) hp
  refine ⟨fun i m H => m = xs.length - i ∧ i ≤ xs.length ∧ Le K H1 H ∧ ∃ G, rh K G H ∧ P i G, ⟨_, rfl, Nat.zero_le _, lp, _, rh.new (o := .lst []) g1 hp ⟨[], upd_same, rvs.nil⟩, h0⟩, ?_⟩
  rintro i m H2 ⟨rfl, hile, l2, G2, b2, p2⟩
  have s2 := hS i G2 hile p2
  by_cases hlt : i < xs.length
  · refine .inr ⟨w.goes i G2 H2 l2 hlt s2 b2, fun H => Le K H1 H ∧ ∃ G, rh K G H ∧ P (i + 1) G, fun H' ⟨l', q'⟩ => ⟨_, by omega, rfl, hlt, l', q'⟩, fun v H3 y => ?_⟩
    have e : xs[i]? = some xs[i] := List.getElem?_eq_getElem hlt
    obtain ⟨l3, b3, r3⟩ := w.yields i xs[i] G2 H2 v H3 l2 e s2 b2 y
    refine ⟨xs[i], wipeT τ vs, G2, r3, (a.le ((l.trans l2).trans l3)).wiped vs, b3, mg _ _ _ _ G2 _ _ (r0 _) (fun τ4 G4 k σ4 H4 l4 a4 b4 ag => ⟨wipe_agree ag hu, ?_⟩) (ht i _ G2 e p2)⟩
    refine ⟨τ4, G4, a4, b4, mt _ _ τ4 G4 _ _ (r0 _) (fun c G5 k5 v5 H5 l5 r5 b5 => ?_) k⟩
    cases (show c = v5 from r5)
    cases c with
    | true =>
      rw [if_pos rfl] at k5 ⊢
      refine ⟨τ4, G5, a4.le l5, b5, me _ _ τ4 G5 _ _ (r0 _) (fun z G6 ⟨acc, e6, z6, G7, s7, p7⟩ v6 H6 l6 r6 b6 => ?_) k5⟩
      obtain ⟨vacc, ev, racc⟩ := b6 p _ e6
      refine ⟨vacc, ev, by rw [← racc.length]; exact z6, ?_⟩
      have lm := Le.mut (K := K) (p := p) (o := .lst (vacc ++ [v6])) ev trivial
      refine ⟨((((l2.trans l3).trans l4).trans l5).trans l6).trans lm, G7, rh.sub s7 (rh.write (o := .lst (acc ++ [z])) b6 ev trivial ⟨_, upd_same, (racc.le lm).append (rvs.cons (r6.le lm) rvs.nil)⟩), p7⟩
    | false =>
      rw [if_neg Bool.false_ne_true] at k5 ⊢
      obtain ⟨G7, s7, p7⟩ := k5
      exact ⟨((l2.trans l3).trans l4).trans l5, G7, b5.sub s7, p7⟩
  · have e : i = xs.length := by omega
    subst e
    exact .inl ⟨w.stops G2 H2 l2 s2 b2, hd G2 p2 (.ref p) H2 (l.trans l2) (by unfold rv; rfl) b2⟩
theorem jLc.mono {ti : JIt} {g : JGt} {tt : Jt Bool} {te : Jt Dv} {vs : List Nat} (mi : ∀ R R' τ G Q Q', RLe R R' → (∀ xs S G, Q xs S G → Q' xs S G) → ti R τ G Q → ti R' τ G Q') : Mono (jLc ti g tt te vs) := fun R R' τ G Q Q' r q h =>
  mi R R' τ G _ _ r (fun xs S G1 k p hp => by
    obtain ⟨P, h0, hS, ht, hd⟩ := k p hp
    exact ⟨P, h0, hS, ht, fun G p => q _ _ (hd G p)⟩) h
section
variable {elt tg iter : Expr} {ifs : List Expr} {scope : Scope} {own : List (Str × Nat)} {pos : Pos} {ti : JIt} {us : List Nat} {g : JGt} {tt : Jt Bool} {te : Jt Dv}
abbrev blkX (X : Cx) (s : Shared) (H : Hp) (scope : Scope) (C : Addr) (cl : List (Str × Addr)) (fp : List Addr) : Cx := X.blk s H scope (compEnvC scope cl C X.env) fp
theorem je_lc (own : List (Str × Nat)) (hc : X.calm = true) (hN : X.N.Nodup) (hi : JI X tg iter ti) (ok : BlkOk X.N X.env.scope scope own)
    (hg : ∀ s H C cl fp, JG (blkX X s H scope C cl fp) tg us g) (ht : ∀ s H C cl fp, JTs (blkX X s H scope C cl fp) ifs tt) (he : ∀ s H C cl fp, JE (blkX X s H scope C cl fp) elt te) (hu : ∀ i ∈ us, i ∈ own.map (·.2) := by decide)
    (hs : ∀ x, foldedSetIterable iter X.env x = pure x := by intro _; rfl) : JE X (.ListComp elt [⟨tg, iter, ifs, 0⟩] scope pos) (jLc ti g tt te (own.map (·.2))) :=
  ⟨jLc.mono hi.mono, fun Wc tk => PE.imp (pe_lc hc hN (hi.pi Wc tk) ok (fun s H C cl fp => (hg s H C cl fp).pg _ takes0) (fun s H C cl fp => (ht s H C cl fp).pts _ takes0) (fun s H C cl fp => (he s H C cl fp).pe _ takes0) hs) fun σ H Q h =>
    lift_lc hi.mono (hg X.s_0 X.H_0 0 [] []).mono (ht X.s_0 X.H_0 0 [] []).mono (he X.s_0 X.H_0 0 [] []).mono hu h⟩
theorem js_setLc {i : Nat} {y : Str} {py spos : Pos} (own : List (Str × Nat)) (hc : X.calm = true) (hN : X.N.Nodup) (hi : JI X tg iter ti) (ok : BlkOk X.N X.env.scope scope own)
    (hg : ∀ s H C cl fp, JG (blkX X s H scope C cl fp) tg us g) (ht : ∀ s H C cl fp, JTs (blkX X s H scope C cl fp) ifs tt) (he : ∀ s H C cl fp, JE (blkX X s H scope C cl fp) elt te)
    (hsw : swapsWith (.ListComp elt [⟨tg, iter, ifs, 0⟩] scope pos) (some (.Name y py)) spos.line X.env = pure true) (hu : ∀ i ∈ us, i ∈ own.map (·.2) := by decide) (hy : X.N[i]? = some y := by rfl) (hyl : X.env.scope.names.lookup y = some .local := by rfl)
    (hs : ∀ x, foldedSetIterable iter X.env x = pure x := by intro _; rfl) : JS X (.Assign [.Name y py] (.ListComp elt [⟨tg, iter, ifs, 0⟩] scope pos) spos) (jAsg (jLc ti g tt te (own.map (·.2))) (jgName i)) :=
  ⟨jsE.mono (jLc.mono hi.mono) fun x => jAsg.mono2 jgName.mono x, fun Wc tk => PS.imp (ps_setLc hc hN hy hyl hsw (hi.pi Wc tk) ok (fun s H C cl fp => (hg s H C cl fp).pg _ takes0) (fun s H C cl fp => (ht s H C cl fp).pts _ takes0) (fun s H C cl fp => (he s H C cl fp).pe _ takes0) hs) fun D σ H h => by
    have k := jsE.lift (jLc.mono hi.mono) (fun x => jAsg.mono2 (g := jgName i) jgName.mono x) h
    have k2 := LG.mono (Q' := fun v H1 => gName i v σ H1 D.nx) (jLc.mono hi.mono) (fun v H1 ⟨l, x, r, τ, G, a, b, k⟩ => k _ H1 (Le.refl H1) (a.put r) b) k
    exact lift_lc hi.mono (hg X.s_0 X.H_0 0 [] []).mono (ht X.s_0 X.H_0 0 [] []).mono (he X.s_0 X.H_0 0 [] []).mono hu k2⟩
end

/-! ### sources -/
/-- the list at an address, a frozen list, a tuple, by one rule each -/
def jiSeq (t : Jt Dv) : JIt := fun R τ G Q => t R τ G fun x G1 => (∃ p xs, x = .ad p ∧ G1 p = some (.lst xs) ∧ Q xs (fun G => G p = some (.lst xs)) G1)
theorem ji_list {tg e : Expr} {t : Jt Dv} (h : JE X e t) : JI X tg e (jiSeq t) := by
  refine ⟨fun R R' τ G Q Q' r q k => h.mono R R' τ G _ _ r (fun x G1 ⟨p, xs, e, e1, z⟩ => ⟨p, xs, e, e1, q _ _ _ z⟩) k, fun Wc tk => ⟨fun pins s σ H Rr I ⟨τ, G, a, b, k⟩ => (pi_list (h.pe Wc tk)).run pins s σ H Rr I ?_⟩⟩
  refine ⟨τ, G, a, b, h.mono _ _ τ G _ _ (RLe.refl _) (fun x G1 ⟨p, xs, e, e1, z⟩ v H1 l r b1 => ?_) k⟩
  subst e
  unfold rv at r
  obtain ⟨vs, ev, rr⟩ := b1 p _ e1
  refine ⟨p, r, ⟨vs, SqL.of ev⟩, z _ H1 l b1 ⟨fun i G H l2 hi s2 b2 => ?_, fun G H l2 s2 b2 => ?_, fun i x G H v H' l2 e s2 b2 y => ?_⟩⟩
  · obtain ⟨us, eu, ru⟩ := b2 p _ s2
    have hl := ru.length
    exact ⟨us, us[i]'(by omega), SqL.of eu, List.getElem?_eq_getElem _⟩
  · obtain ⟨us, eu, ru⟩ := b2 p _ s2
    exact ⟨us, SqL.of eu, by rw [← ru.length]; exact Nat.le_refl _⟩
  · obtain ⟨us, eu, ru⟩ := b2 p _ s2
    obtain ⟨e3, y⟩ := y
    subst e3
    obtain ⟨u, e4, r4⟩ := ru.get e
    have e5 := y us (SqL.of eu)
    rw [e4] at e5; cases e5
    exact ⟨Le.refl _, b2, r4⟩
end
end J

set_option Elab.async false
set_option linter.all false
set_option maxRecDepth 100000
set_option maxHeartbeats 4000000
/-! J4: a def's promise; operators, built-ins, methods over data. -/
namespace J
open PySem PySem.Spec PyProof.Rows L2

def Up (Q : KQ) : Prop := ∀ w G G', HSub G G' → Q w G → Q w G'
def UpX (E : XQ) : Prop := ∀ c f G G', HSub G G' → E c f G → E c f G'
theorem LQ.up {K : Ct} {H : Hp} {Q : VK} : Up (LQ K (rv K) H Q) := fun w G G' s h v H1 l r g => h v H1 l r (g.sub s)
theorem LX.up {K : Ct} {H : Hp} {E : XK} : UpX (LX K H E) := fun c f G G' s h d H1 l g r => h d H1 l (g.sub s) r
def startT (N : List Str) (ws : List Dv) : Tq := ws.map some ++ List.replicate (N.length - ws.length) none
theorem start_rs {K : Ct} {H : Hp} {N : List Str} {ws : List Dv} {vs : List V} (r : rvs K H ws vs) : rs K H (startT N ws) (L2.start N vs) := by
  have hl := r.length
  unfold startT L2.start
  refine ⟨by simp [hl], fun i x e => ?_⟩
  by_cases hi : i < ws.length
  · rw [List.getElem?_append_left (by simpa using hi), List.getElem?_map] at e
    rw [List.getElem?_append_left (by simpa [← hl] using hi), List.getElem?_map]
    cases e2 : ws[i]? with
    | none => rw [e2] at e; cases e
    | some y =>
      rw [e2] at e
      cases e
      obtain ⟨v, e3, r3⟩ := r.get e2
      exact ⟨v, by rw [e3]; rfl, r3⟩
  · rw [List.getElem?_append_right (by simpa using hi), List.getElem?_replicate] at e
    split at e <;> cases e

section
variable {P : Program} {w : World} {K : PySem.W.Frag} {mg : Str → Option Value} {base : Heap}
/-- the rule of a def: its body's term and what it makes of the promise -/
theorem okJ {x qual : Str} {st : Stmt} {f : Addr} {fd : FuncData} {N ps : List Str} {k : Nat} {sp : Sq} {t : JSt} (F : Fun K x qual st f fd) (S : FnScope N ps (defScope st)) (len : ∀ ws G Q E, sp ws G Q E → ws.length = ps.length)
    (body : ∀ (cdv : Value) (A : Around) (outer : List Env) (s : Shared) (H : Hp) (E : XK), Room k (A.deeper (envOfC qual (defScope st) s.heap.objs.size f cdv)) →
      JSs (cxOf (L2.CX P w) P w K mg base N qual (defScope st) f cdv A outer s H E) (defBody st) t)
    (pure : ∀ ws G Q E, Up Q → UpX E → sp ws G Q E → t (fun c f _ G => E c f G) { nx := fun _ G => Q .non G, rt := Q } (startT N ws) G) :
    FnOk P w K mg base (L2.CX P w) (k + 1) f fd ps (LSp ⟨K, w⟩ sp) := by
  refine F.okX S (fun vs H Q E ⟨ws, G, r, _, h⟩ => ?_) (fun cdv A outer s H vs Q E hr ⟨ws, G, r, g, h⟩ => ?_)
  · rw [← r.length]; exact len _ _ _ _ h
  · have B := body cdv A outer s H E hr
    refine ⟨_, B.pss (fun cls d _ H => E cls d H) (takes_of rfl rfl rfl rfl), startT N ws, G, start_rs r, g, B.mono _ _ _ _ _ _ ?_ ⟨?_, ?_, ?_, ?_⟩ (pure ws G _ _ LQ.up LX.up h)⟩
    · exact fun c f τ G k d σ1 H1 l a g x => k d H1 l g x
    · exact fun τ G k σ1 H1 l a g => k .non H1 l (by unfold rv; rfl) g
    · exact fun _ _ h => h
    · exact fun _ _ h => h.elim
    · exact fun _ _ h => h.elim
end

/-! ### operators -/
section
variable {X : Cx}
theorem JOp.of {f : Value → Value → Sem Value} {r : R2} {r' : Q2} (h : OpR X f r) (m : ∀ x y, Mono0 (r' x y)) (rf : Ref2 (ctOf X) r r') : JOp X f r' := ⟨m, r, h, rf⟩
/-- two rules for one operator -/
theorem JOp.or {f : Value → Value → Sem Value} {r1 r2 : Q2} (h1 : JOp X f r1) (h2 : JOp X f r2) : JOp X f (fun x y G Q => r1 x y G Q ∨ r2 x y G Q) := by
  obtain ⟨m1, q1, o1, f1⟩ := h1
  obtain ⟨m2, q2, o2, f2⟩ := h2
  refine ⟨fun x y G Q Q' q h => h.imp (m1 x y G Q Q' q) (m2 x y G Q Q' q), fun x y H Q => q1 x y H Q ∨ q2 x y H Q, ?_, fun x y v u G H Q a b c h => h.imp (f1 x y v u G H Q a b c) (f2 x y v u G H Q a b c)⟩
  intro pins s σ H x y v u Q I rx ry h
  rcases h with h | h
  · exact o1 pins s σ H x y v u Q I rx ry h
  · exact o2 pins s σ H x y v u Q I rx ry h
theorem JOp.imp {f : Value → Value → Sem Value} {r1 r2 : Q2} (h1 : JOp X f r1) (m : ∀ x y, Mono0 (r2 x y)) (i : ∀ x y G Q, r2 x y G Q → r1 x y G Q) : JOp X f r2 := by
  obtain ⟨m1, q1, o1, f1⟩ := h1
  exact ⟨m, q1, o1, fun x y v u G H Q a b c h => f1 x y v u G H Q a b c (i _ _ _ _ h)⟩
theorem JCl.imp {f : Value} {r1 r2 : QA} (h1 : JCl X f r1) (m : ∀ x, Mono0 (r2 x)) (i : ∀ x G Q, r2 x G Q → r1 x G Q) : JCl X f r2 := by
  obtain ⟨m1, q1, o1, f1⟩ := h1
  exact ⟨m, q1, o1, fun x v G H Q a c h => f1 x v G H Q a c (i _ _ _ h)⟩
theorem JCl.or {f : Value} {r1 r2 : QA} (h1 : JCl X f r1) (h2 : JCl X f r2) : JCl X f (fun x G Q => r1 x G Q ∨ r2 x G Q) := by
  obtain ⟨m1, q1, o1, f1⟩ := h1
  obtain ⟨m2, q2, o2, f2⟩ := h2
  refine ⟨fun x G Q Q' q h => h.imp (m1 x G Q Q' q) (m2 x G Q Q' q), fun x H Q => q1 x H Q ∨ q2 x H Q, ?_, fun x v G H Q a c h => h.imp (f1 x v G H Q a c) (f2 x v G H Q a c)⟩
  intro pins s σ H xs us Q I r h
  rcases h with h | h
  · exact o1 pins s σ H xs us Q I r h
  · exact o2 pins s σ H xs us Q I r h
/-- two ints, under a condition -/
def qI (C : Int → Int → Prop) (g : Int → Int → Dv) : Q2 := fun x y G Q => ∃ i j, x = .int i ∧ y = .int j ∧ C i j ∧ Q (g i j) G
theorem qI.mono {C : Int → Int → Prop} {g : Int → Int → Dv} (x y : Dv) : Mono0 (qI C g x y) := fun _ _ _ q ⟨i, j, a, b, c, h⟩ => ⟨i, j, a, b, c, q _ _ h⟩
theorem jop_I {f : Value → Value → Sem Value} {C : Int → Int → Prop} {g : Int → Int → V} {g' : Int → Int → Dv} (h : OpR X f (rI C g)) (e : ∀ i j H, rv (ctOf X) H (g' i j) (g i j)) : JOp X f (qI C g') :=
  .of h qI.mono fun x y v u G H Q a b c ⟨i, j, e1, e2, k, q⟩ => by
    subst e1; subst e2
    unfold rv at a b
    exact ⟨i, j, a, b, k, q _ H (Le.refl H) (e i j H) c⟩
theorem jop_I0 {f : Value → Value → Sem Value} {g : Int → Int → V} {g' : Int → Int → Dv} (h : OpR X f (rI0 g)) (e : ∀ i j H, rv (ctOf X) H (g' i j) (g i j)) : JOp X f (qI (fun _ _ => True) g') :=
  .of h qI.mono fun x y v u G H Q a b c ⟨i, j, e1, e2, _, q⟩ => by
    subst e1; subst e2
    unfold rv at a b
    exact ⟨i, j, a, b, q _ H (Le.refl H) (e i j H) c⟩
theorem rvI {K : Ct} {H : Hp} {i : Int} : rv K H (.int i) (.int i) := by unfold rv; rfl
theorem rvB {K : Ct} {H : Hp} {b : Bool} : rv K H (.bl b) (.bl b) := by unfold rv; rfl
theorem rvS {K : Ct} {H : Hp} {x : Str} : rv K H (.str x) (.str x) := by unfold rv; rfl
theorem rvA {K : Ct} {H : Hp} {a : Addr} : rv K H (.ad a) (.ref a) := by unfold rv; rfl
theorem rvN {K : Ct} {H : Hp} : rv K H .non .non := by unfold rv; rfl
abbrev TT2 : Int → Int → Prop := fun _ _ => True
theorem jo_sub : JOp X (binaryOp .Sub) (qI TT2 fun i j => .int (i - j)) := jop_I0 op_sub fun _ _ _ => rvI
def CM (i j : Int) : Prop := CMul i j ∨ CMulX i j
theorem jo_mulI : JOp X (binaryOp .Mult) (qI CM fun i j => .int (i * j)) :=
  JOp.imp (.or (jop_I op_mul fun _ _ _ => rvI) (jop_I op_mulX fun _ _ _ => rvI)) qI.mono fun x y G Q ⟨i, j, a, b, c, q⟩ => c.elim (fun c => .inl ⟨i, j, a, b, c, q⟩) fun c => .inr ⟨i, j, a, b, c, q⟩
theorem jo_fdiv : JOp X (binaryOp .FloorDiv) (qI CDivW fun i j => .int (i / j)) := jop_I op_fdivW fun _ _ _ => rvI
theorem jo_mod : JOp X (binaryOp .Mod) (qI (fun _ j => 0 < j) fun i j => .int (i % j)) := jop_I op_mod fun _ _ _ => rvI
theorem jo_pow : JOp X (binaryOp .Pow) (qI CPow fun i j => .int (i ^ j.toNat)) := jop_I op_pow fun _ _ _ => rvI
theorem jo_shl : JOp X (binaryOp .LShift) (qI CShl fun i j => .int (i * 2 ^ j.toNat)) := jop_I op_shlW fun _ _ _ => rvI
theorem jo_shr : JOp X (binaryOp .RShift) (qI (fun _ j => 0 ≤ j) fun i j => .int (i / 2 ^ j.toNat)) := jop_I op_shr fun _ _ _ => rvI
theorem jo_band : JOp X (binaryOp .BitAnd) (qI TT2 fun i j => .int (Builtin.bitAnd i j)) := jop_I0 op_and fun _ _ _ => rvI
theorem jo_bxor : JOp X (binaryOp .BitXor) (qI TT2 fun i j => .int (Builtin.bitXor i j)) := jop_I0 op_xor fun _ _ _ => rvI
/-- + : ints, texts, tuples, lists -/
def qAdd : Q2 := fun x y G Q => match x, y with
  | .int i, .int j => Q (.int (i + j)) G
  | .str a, .str b => a.length + b.length ≤ sizeLine ∧ Q (.str (a ++ b)) G
  | .tup a, .tup b => a.length + b.length ≤ sizeLine ∧ Q (.tup (a ++ b)) G
  | .ad p, .ad q => ∃ xs ys, G p = some (.lst xs) ∧ G q = some (.lst ys) ∧ xs.length + ys.length ≤ sizeLine ∧ qNew (.lst (xs ++ ys)) G Q
  | _, _ => False
theorem qAdd.mono (x y : Dv) : Mono0 (qAdd x y) := fun G Q Q' q h => by
  unfold qAdd at h ⊢
  split at h
  · exact q _ _ h
  · exact ⟨h.1, q _ _ h.2⟩
  · exact ⟨h.1, q _ _ h.2⟩
  · obtain ⟨xs, ys, a, b, c, d⟩ := h
    exact ⟨xs, ys, a, b, c, qNew.mono _ _ _ q d⟩
  · exact h
theorem jo_add : JOp X (binaryOp .Add) qAdd := by
  have h := OpR.or (X := X) op_add (OpR.or op_add_str (OpR.or op_catA op_cat))
  refine .of h qAdd.mono fun x y v u G H Q a b c k => ?_
  unfold qAdd at k
  split at k
  · unfold rv at a b; exact .inl ⟨_, _, a, b, k _ H (Le.refl H) rvI c⟩
  · unfold rv at a b; exact .inr (.inl ⟨_, _, a, b, k.1, k.2 _ H (Le.refl H) rvS c⟩)
  · unfold rv at a b
    obtain ⟨p, vs, rfl, sa, ra⟩ := a
    obtain ⟨q, us, rfl, sb, rb⟩ := b
    refine .inr (.inr (.inl ⟨p, q, vs, us, rfl, rfl, sa, sb, by rw [← ra.length, ← rb.length]; exact k.1, fun e => ?_, fun _ e => ?_, fun _ _ n hn => ?_⟩))
    · subst e
      refine k.2 _ H (Le.refl H) ?_ c
      have e2 := ra.length
      rw [List.length_eq_zero_iff.mp e2]
      unfold rv; exact ⟨q, us, rfl, sb, rb⟩
    · subst e
      refine k.2 _ H (Le.refl H) ?_ c
      have e2 := rb.length
      rw [List.length_eq_zero_iff.mp e2, List.append_nil]
      unfold rv; exact ⟨p, vs, rfl, sa, ra⟩
    · have l := Le.new (K := ctOf X) (p := n) (o := .tup (vs ++ us)) hn
      refine k.2 _ _ l ?_ (c.keep l fun b u q => by rw [upd_ne (ne_of_none q hn)]; exact q)
      unfold rv; exact ⟨n, _, rfl, .inl (.inl upd_same), (ra.le l).append (rb.le l)⟩
  · obtain ⟨xs, ys, e1, e2, z, q⟩ := k
    unfold rv at a b
    obtain ⟨vs, ev, r1⟩ := c _ _ e1
    obtain ⟨us, eu, r2⟩ := c _ _ e2
    exact .inr (.inr (.inr ⟨_, _, vs, us, a, b, ev, eu, by rw [← r1.length, ← r2.length]; exact z, new_lst c (r1.append r2) q⟩))
  · exact k.elim
/-- < <= > >= : ints, texts -/
def qOrd (f : Int → Int → Bool) (g : Str → Str → Bool) : Q2 := fun x y G Q => match x, y with
  | .int i, .int j => Q (.bl (f i j)) G
  | .str a, .str b => Q (.bl (g a b)) G
  | _, _ => False
theorem qOrd.mono {f g} (x y : Dv) : Mono0 (qOrd f g x y) := fun G Q Q' q h => by
  unfold qOrd at h ⊢
  split at h
  · exact q _ _ h
  · exact q _ _ h
  · exact h
theorem jop_ord {op : Value → Value → Sem Value} {f : Int → Int → Bool} {g : Str → Str → Bool} (h1 : OpR X op (rI0 fun i j => .bl (f i j))) (h2 : OpR X op (fun x y H Q => ∃ i j, x = .str i ∧ y = .str j ∧ Q (.bl (g i j)) H)) : JOp X op (qOrd f g) := by
  refine .of (OpR.or h1 h2) qOrd.mono fun x y v u G H Q a b c k => ?_
  unfold qOrd at k
  split at k
  · unfold rv at a b; exact .inl ⟨_, _, a, b, k _ H (Le.refl H) rvB c⟩
  · unfold rv at a b; exact .inr ⟨_, _, a, b, k _ H (Le.refl H) rvB c⟩
  · exact k.elim
def ltS (a b : Str) : Bool := decide (a.cps.toList < b.cps.toList)
theorem jo_lt : JOp X (compareOp .Lt) (qOrd (fun i j => decide (i < j)) ltS) := jop_ord op_lt op_lt_str
theorem jo_le : JOp X (compareOp .LtE) (qOrd (fun i j => decide (i ≤ j)) fun a b => !ltS b a) := jop_ord op_le op_le_str
theorem jo_gt : JOp X (compareOp .Gt) (qOrd (fun i j => decide (j < i)) fun a b => ltS b a) := jop_ord op_gt op_gt_str
theorem jo_ge : JOp X (compareOp .GtE) (qOrd (fun i j => decide (j ≤ i)) fun a b => !ltS a b) := jop_ord op_ge op_ge_str
theorem ju_neg : JUn X (unaryOp .USub) (fun x G Q => ∃ i, x = .int i ∧ Q (.int (-i)) G) :=
  ⟨fun _ _ _ _ q ⟨i, e, h⟩ => ⟨i, e, q _ _ h⟩, _, un_neg, fun x v G H Q a c ⟨i, e, q⟩ => by
    subst e; unfold rv at a; exact ⟨i, a, q _ H (Le.refl H) rvI c⟩⟩

/-! ### data as the library's data -/
mutual
inductive PR (G : Hq) : Dv → PyData → Prop
  | non : PR G .non .none
  | bl (b : Bool) : PR G (.bl b) (.bool b)
  | int (i : Int) : PR G (.int i) (.int i)
  | str (x : Str) : PR G (.str x) (.str x)
  | tup {xs ds} : PRs G xs ds → PR G (.tup xs) (.tuple ds)
  | fl {xs ds} : PRs G xs ds → PR G (.fl xs) (.list ds)
  | lst {a xs ds} : G a = some (.lst xs) → PRs G xs ds → PR G (.ad a) (.list ds)
inductive PRs (G : Hq) : List Dv → List PyData → Prop
  | nil : PRs G [] []
  | cons {x d xs ds} : PR G x d → PRs G xs ds → PRs G (x :: xs) (d :: ds)
end
theorem FzL.sq {K : Ct} {H : Hp} {a : Addr} {vs : List V} (h : FzL K H a vs) : SqL K.K H a vs := by
  rcases h with ⟨o, h⟩ | h
  · exact .inl (.inr ⟨o, h⟩)
  · exact .inr h
mutual
theorem PR.dp {K : Ct} {G : Hq} {H : Hp} (g : rh K G H) : ∀ {x : Dv} {d : PyData} {v : V}, PR G x d → rv K H x v → Dp K.K H v d
  | _, _, _, .non, r => by unfold rv at r; subst r; exact .non
  | _, _, _, .bl b, r => by unfold rv at r; subst r; exact .bl b
  | _, _, _, .int i, r => by unfold rv at r; subst r; exact .int i
  | _, _, _, .str x, r => by unfold rv at r; subst r; exact .str x
  | _, _, _, .tup h, r => by
    unfold rv at r
    obtain ⟨a, vs, e, s, r⟩ := r
    subst e
    exact .tup s (PRs.dp g h r)
  | _, _, _, .fl h, r => by
    unfold rv at r
    obtain ⟨a, vs, e, s, r⟩ := r
    subst e
    exact .lst s.sq (PRs.dp g h r)
  | _, _, _, .lst e h, r => by
    unfold rv at r
    subst r
    obtain ⟨vs, ev, r⟩ := g _ _ e
    exact .lst (SqL.of ev) (PRs.dp g h r)
theorem PRs.dp {K : Ct} {G : Hq} {H : Hp} (g : rh K G H) : ∀ {xs : List Dv} {ds : List PyData} {vs : List V}, PRs G xs ds → rvs K H xs vs → DpAll K.K H vs ds
  | _, _, _, .nil, r => by rw [r.inv0]; exact .nil
  | _, _, _, .cons h t, r => by
    obtain ⟨v, vr, e, r1, r2⟩ := r.inv
    subst e
    exact .cons (PR.dp g h r1) (PRs.dp g t r2)
end
def Shd (d : PyData) : Prop := SeqAt.shaped d = true
/-- == and != of data -/
def qEq (neg : Bool) : Q2 := fun x y G Q => ∃ d e, PR G x d ∧ PR G y e ∧ Shd d ∧ Shd e ∧ Q (.bl (xor neg (PyData.eqv d e))) G
theorem qEq.mono {n : Bool} (x y : Dv) : Mono0 (qEq n x y) := fun _ _ _ q ⟨d, e, a, b, c, f, h⟩ => ⟨d, e, a, b, c, f, q _ _ h⟩
theorem jo_eq (hu : X.A.units + 64 < cLine) : JOp X (compareOp .Eq) (qEq false) := .of (op_eqD hu) qEq.mono fun x y v u G H Q a b c ⟨d, e, p1, p2, s1, s2, q⟩ =>
  ⟨d, e, p1.dp c a, p2.dp c b, s1, s2, by have := q (.bl (PyData.eqv d e)) H (Le.refl H) (by rw [Bool.false_xor]; exact rvB) c; exact this⟩
theorem jo_ne (hu : X.A.units + 64 < cLine) : JOp X (compareOp .NotEq) (qEq true) := .of (op_neD hu) qEq.mono fun x y v u G H Q a b c ⟨d, e, p1, p2, s1, s2, q⟩ =>
  ⟨d, e, p1.dp c a, p2.dp c b, s1, s2, by have := q (.bl (!PyData.eqv d e)) H (Le.refl H) (by rw [Bool.true_xor]; exact rvB) c; exact this⟩
/-! ### in, not in: a list or a tuple of data; a sign of a text -/
def rInU (K : PySem.W.Frag) (neg : Bool) : R2 := fun x y H Q => ∃ d ds, Dp K H x d ∧ Dp K H y (.tuple ds) ∧ SeqAt.shaped d = true ∧ SeqAt.shaped (.tuple ds) = true ∧ Q (.bl (xor neg (ds.any fun z => PyData.eqv z d))) H
theorem op_inU (hu : X.A.units + 65 < cLine) : OpR X (compareOp .In) (rInU X.K false) := fun pins s σ H x y v u Q I rx ry ⟨d, ds, hd, he, sd, se, q⟩ => by
  obtain ⟨as, r1⟩ := Dp.reads I d x v hd rx
  obtain ⟨bs, r2⟩ := Dp.reads I (.tuple ds) y u he ry
  exact SeqAt.in_tuple_reads r2 r1 (SeqAt.canLay_of_shaped se) (SeqAt.canLay_of_shaped sd) (room_in_shaped sd hu) ⟨.bl _, H, I, rfl, by rw [Bool.false_xor] at q; exact q⟩
theorem op_notInU (hu : X.A.units + 65 < cLine) : OpR X (compareOp .NotIn) (rInU X.K true) := fun pins s σ H x y v u Q I rx ry ⟨d, ds, hd, he, sd, se, q⟩ => by
  obtain ⟨as, r1⟩ := Dp.reads I d x v hd rx
  obtain ⟨bs, r2⟩ := Dp.reads I (.tuple ds) y u he ry
  exact SeqAt.notIn_tuple_reads r2 r1 (SeqAt.canLay_of_shaped se) (SeqAt.canLay_of_shaped sd) (room_in_shaped sd hu) ⟨.bl _, H, I, rfl, by rw [Bool.true_xor] at q; exact q⟩
def qIn (neg : Bool) : Q2 := fun x y G Q => (∃ d ds, PR G x d ∧ (PR G y (.list ds) ∧ Shd (.list ds) ∨ PR G y (.tuple ds) ∧ Shd (.tuple ds)) ∧ Shd d ∧ Q (.bl (xor neg (ds.any fun z => PyData.eqv z d))) G) ∨
  ∃ c z, x = .str ⟨#[c]⟩ ∧ y = .str z ∧ Q (.bl (xor neg (decide (c ∈ z.cps.toList)))) G
theorem qIn.mono {n : Bool} (x y : Dv) : Mono0 (qIn n x y) := fun _ _ _ q h => h.imp (fun ⟨d, e, a, b, c, h⟩ => ⟨d, e, a, b, c, q _ _ h⟩) fun ⟨c, z, a, b, h⟩ => ⟨c, z, a, b, q _ _ h⟩
theorem jo_in (hu : X.A.units + 65 < cLine) : JOp X (compareOp .In) (qIn false) := by
  refine .of (OpR.or (op_inD hu) (OpR.or (op_inU hu) op_in_sign)) qIn.mono fun x y v u G H Q a b c h => ?_
  rcases h with ⟨d, ds, p1, ⟨p2, s2⟩ | ⟨p2, s2⟩, s1, q⟩ | ⟨k, z, e1, e2, q⟩
  · exact .inl ⟨d, ds, p1.dp c a, p2.dp c b, s1, s2, q _ H (Le.refl H) (by rw [Bool.false_xor]; exact rvB) c⟩
  · exact .inr (.inl ⟨d, ds, p1.dp c a, p2.dp c b, s1, s2, q _ H (Le.refl H) rvB c⟩)
  · subst e1; subst e2
    unfold rv at a b
    exact .inr (.inr ⟨k, z, a, b, q _ H (Le.refl H) (by rw [Bool.false_xor]; exact rvB) c⟩)
theorem jo_notIn (hu : X.A.units + 65 < cLine) : JOp X (compareOp .NotIn) (qIn true) := by
  refine .of (OpR.or (op_notInD hu) (OpR.or (op_notInU hu) op_notIn_sign)) qIn.mono fun x y v u G H Q a b c h => ?_
  rcases h with ⟨d, ds, p1, ⟨p2, s2⟩ | ⟨p2, s2⟩, s1, q⟩ | ⟨k, z, e1, e2, q⟩
  · exact .inl ⟨d, ds, p1.dp c a, p2.dp c b, s1, s2, q _ H (Le.refl H) (by rw [Bool.true_xor]; exact rvB) c⟩
  · exact .inr (.inl ⟨d, ds, p1.dp c a, p2.dp c b, s1, s2, q _ H (Le.refl H) rvB c⟩)
  · subst e1; subst e2
    unfold rv at a b
    exact .inr (.inr ⟨k, z, a, b, q _ H (Le.refl H) (by rw [Bool.true_xor]; exact rvB) c⟩)
end
end J

set_option Elab.async false
set_option linter.all false
set_option maxRecDepth 100000
set_option maxHeartbeats 4000000
/-! J5: places, slices, built-ins by name, methods of lists, attributes, new objects, sources of loops. -/
namespace J
open PySem PySem.Spec PyProof.Rows L2
section
variable {X : Cx}

/-! ### a[i] -/
structure JIx (X : Cx) (r' : Q2) : Prop where
  mono : ∀ x y, Mono0 (r' x y)
  ref : ∃ r, IxR X r ∧ Ref2 (ctOf X) r r'
theorem je_ix {a b : Expr} {ta tb : Jt Dv} {pos : Pos} {r' : Q2} (ho : JIx X r') (ha : JE X a ta) (hb : JE X b tb) (hs : PlainIx b := by exact fun _ _ => rfl) : JE X (.Subscript a b pos) (jOp r' ta tb) := by
  obtain ⟨m, r, hr, rf⟩ := ho
  exact ⟨jOp.mono m ha.mono hb.mono, fun Wc tk => PE.imp (pe_ix hr (ha.pe Wc tk) (hb.pe Wc tk) hs) fun _ _ _ h => lift_op m ha.mono hb.mono rf h⟩
/-- a list's, tuple's, text's item -/
def qIx : Q2 := fun x y G Q => match x, y with
  | .tup xs, .int i => ∃ v, atI xs i = some v ∧ Q v G
  | .fl xs, .int i => ∃ v, atI xs i = some v ∧ Q v G
  | .str z, .int i => z.length ≤ sizeLine ∧ ∃ c, atI z.cps.toList i = some c ∧ Q (.str ⟨#[c]⟩) G
  | .ad p, .int i => ∃ xs v, G p = some (.lst xs) ∧ atI xs i = some v ∧ Q v G
  | _, _ => False
theorem qIx.mono (x y : Dv) : Mono0 (qIx x y) := fun G Q Q' q h => by
  unfold qIx at h ⊢
  split at h
  · obtain ⟨v, a, b⟩ := h; exact ⟨v, a, q _ _ b⟩
  · obtain ⟨v, a, b⟩ := h; exact ⟨v, a, q _ _ b⟩
  · obtain ⟨z, v, a, b⟩ := h; exact ⟨z, v, a, q _ _ b⟩
  · obtain ⟨xs, v, e, a, b⟩ := h; exact ⟨xs, v, e, a, q _ _ b⟩
  · exact h
theorem rvs.atI {K : Ct} {H : Hp} {xs : List Dv} {vs : List V} {i : Int} {x : Dv} (r : rvs K H xs vs) (h : L2.atI xs i = some x) : ∃ v, L2.atI vs i = some v ∧ rv K H x v := by
  unfold L2.atI at h ⊢
  rw [← r.length]
  cases e : ixN xs.length i with
  | none => rw [e] at h; cases h
  | some j =>
    rw [e] at h
    exact r.get h
theorem ji_ix : JIx X qIx := by
  refine ⟨qIx.mono, _, IxR.or ix_list (IxR.or ix_tup ix_str), fun x y v u G H Q a b c k => ?_⟩
  unfold qIx at k
  split at k
  · obtain ⟨w, e, q⟩ := k
    unfold rv at a b
    obtain ⟨p, vs, ev, s, r⟩ := a
    obtain ⟨z, e2, r2⟩ := r.atI e
    exact .inr (.inl ⟨p, vs, _, z, ev, b, s, e2, q z H (Le.refl H) r2 c⟩)
  · obtain ⟨w, e, q⟩ := k
    unfold rv at a b
    obtain ⟨p, vs, ev, s, r⟩ := a
    obtain ⟨z, e2, r2⟩ := r.atI e
    exact .inl ⟨p, vs, _, z, ev, b, s.sq, e2, q z H (Le.refl H) r2 c⟩
  · obtain ⟨z, w, e, q⟩ := k
    unfold rv at a b
    exact .inr (.inr ⟨_, _, w, a, b, z, e, q _ H (Le.refl H) rvS c⟩)
  · obtain ⟨xs, w, e1, e, q⟩ := k
    unfold rv at a b
    obtain ⟨vs, ev, r⟩ := c _ _ e1
    obtain ⟨z, e2, r2⟩ := r.atI e
    exact .inl ⟨_, vs, _, z, a, b, SqL.of ev, e2, q z H (Le.refl H) r2 c⟩
  · exact k.elim

/-! ### a[lo:hi] -/
def cutL {α : Type} (xs : List α) (lo hi : Option Int) : List α := (xs.drop (HT.sIx xs.length 0 lo)).take (HT.sIx xs.length xs.length hi - HT.sIx xs.length 0 lo)
theorem rvs.cut {K : Ct} {H : Hp} {xs : List Dv} {vs : List V} {lo hi : Option Int} (r : rvs K H xs vs) : rvs K H (cutL xs lo hi) (cutV vs lo hi) := by
  unfold cutL cutV
  rw [← r.length]
  exact (r.drop _).take _
def qSl (x : Dv) (lo hi : Option Int) (G : Hq) (Q : KQ) : Prop := match x with
  | .tup xs => Q (.tup (cutL xs lo hi)) G
  | .fl xs => qNew (.lst (cutL xs lo hi)) G Q
  | .str z => z.length ≤ sizeLine ∧ Q (.str (cutS z lo hi)) G
  | .ad p => ∃ xs, G p = some (.lst xs) ∧ qNew (.lst (cutL xs lo hi)) G Q
  | _ => False
theorem qSl.mono (x : Dv) (lo hi : Option Int) : Mono0 (qSl x lo hi) := fun G Q Q' q h => by
  unfold qSl at h ⊢
  split at h
  · exact q _ _ h
  · exact qNew.mono _ _ _ q h
  · exact ⟨h.1, q _ _ h.2⟩
  · obtain ⟨xs, e, a⟩ := h; exact ⟨xs, e, qNew.mono _ _ _ q a⟩
  · exact h
def jNoPart : Jt (Option Int) := fun _ _ G Q => Q none G
def jPart (t : Jt Dv) : Jt (Option Int) := jb t fun x => jp fun G Q => ∃ i, x = .int i ∧ Q (some i) G
theorem PO.imp {e : Option Expr} {t t1 : TO} (h : PO X e t) (i : ∀ σ H Q, t1 σ H Q → t σ H Q) : PO X e t1 := ⟨fun pins s σ H Q I hw => h.run pins s σ H Q I (i σ H Q hw)⟩
theorem jo_none : JO X none jNoPart := ⟨fun _ _ _ _ _ _ _ q h => q _ _ h, fun Wc tk => PO.imp po_none fun σ H Q ⟨τ, G, a, b, h⟩ => h none H (Le.refl H) rfl b⟩
theorem jo_some {e : Expr} {t : Jt Dv} (he : JE X e t) : JO X (some e) (jPart t) := by
  have m : ∀ x : Dv, Mono0 (fun G (Q : Option Int → Hq → Prop) => ∃ i, x = .int i ∧ Q (some i) G) := fun _ _ _ _ q ⟨i, e, h⟩ => ⟨i, e, q _ _ h⟩
  refine ⟨jb.mono he.mono fun x => jp.mono (m x), fun Wc tk => PO.imp (po_some (he.pe Wc tk)) fun σ H Q h => ?_⟩
  refine LG.mono he.mono (fun v H1 ⟨l1, x, rx, τ, G, a, b, i, e, k⟩ => ?_) (LG.bind (rel := rv _) he.mono (fun x => jp.mono (m x)) h)
  subst e
  unfold rv at rx
  exact ⟨i, rx, k (some i) H1 (Le.refl H1) rfl b⟩
def jSl (te : Jt Dv) (tl th : Jt (Option Int)) : Jt Dv := jb te fun x => jb tl fun l => jb th fun u => jp (qSl x l u)
theorem je_slice {e : Expr} {lo hi : Option Expr} {te : Jt Dv} {tl th : Jt (Option Int)} {p2 pos : Pos} (he : JE X e te) (hl : JO X lo tl) (hu : JO X hi th) : JE X (.Subscript e (.Slice lo hi none p2) pos) (jSl te tl th) := by
  have m3 : ∀ x l u, Mono (jp (qSl x l u)) := fun x l u => jp.mono (qSl.mono x l u)
  have m2 : ∀ x l, Mono (jb th fun u => jp (qSl x l u)) := fun x l => jb.mono hu.mono fun u => m3 x l u
  have m1 : ∀ x, Mono (jb tl fun l => jb th fun u => jp (qSl x l u)) := fun x => jb.mono hl.mono fun l => m2 x l
  refine ⟨jb.mono he.mono m1, fun Wc tk => PE.imp (pe_slice (SlR.or sl_list (SlR.or sl_tupA sl_str)) (he.pe Wc tk) (hl.po Wc tk) (hu.po Wc tk)) fun σ H Q h => ?_⟩
  refine LG.mono he.mono (fun v H1 ⟨l1, x, rx, k1⟩ => ?_) (LG.bind (rel := rv _) he.mono m1 h)
  refine LG.mono hl.mono (fun vl H2 ⟨l2, l, rl, k2⟩ => ?_) (LG.bind (rel := eqr) hl.mono (m2 x) k1)
  refine LG.mono hu.mono (fun vu H3 ⟨l3, u, ru, τ, G, a, b, k⟩ => ?_) (LG.bind (rel := eqr) hu.mono (m3 x l) k2)
  cases (show l = vl from rl)
  cases (show u = vu from ru)
  have rx := (rx.le l2).le l3
  replace k : qSl x vl vu G (LQ (ctOf X) (rv (ctOf X)) H3 Q) := k
  unfold qSl at k
  split at k
  · unfold rv at rx
    obtain ⟨p, vs, ev, s, r⟩ := rx
    refine .inr (.inl ⟨p, vs, ev, s, fun ⟨h1, h2⟩ => ?_, fun _ n hn => ?_⟩)
    · refine k _ H3 (Le.refl _) ?_ b
      unfold rv
      refine ⟨p, vs, rfl, s, ?_⟩
      have r2 := r.cut (lo := vl) (hi := vu)
      have e3 : cutV vs vl vu = vs := by
        unfold cutV
        rw [h1, h2, List.drop_zero, Nat.sub_zero, List.take_length]
      rw [e3] at r2
      exact r2
    · have l := Le.new (K := ctOf X) (p := n) (o := .tup (cutV vs vl vu)) hn
      refine k _ _ l ?_ (b.keep l fun b u q => by rw [upd_ne (ne_of_none q hn)]; exact q)
      unfold rv
      exact ⟨n, _, rfl, .inl (.inl upd_same), r.cut.le l⟩
  · unfold rv at rx
    obtain ⟨p, vs, ev, s, r⟩ := rx
    exact .inl ⟨p, vs, ev, s.sq, new_lst b r.cut k⟩
  · unfold rv at rx
    exact .inr (.inr ⟨_, rx, k.1, k.2 _ H3 (Le.refl _) rvS b⟩)
  · obtain ⟨xs, e1, q⟩ := k
    unfold rv at rx
    obtain ⟨vs, ev, r⟩ := b _ _ e1
    exact .inl ⟨_, vs, rx, SqL.of ev, new_lst b r.cut q⟩
  · exact k.elim

/-! ### built-ins by name -/
theorem rvs1 {K : Ct} {H : Hp} {x : Dv} {vs : List V} (r : rvs K H [x] vs) : ∃ v, vs = [v] ∧ rv K H x v := by
  obtain ⟨v, q, e, a, b⟩ := r.inv
  have := b.inv0
  subst this
  exact ⟨v, e, a⟩
theorem rvs2 {K : Ct} {H : Hp} {x y : Dv} {vs : List V} (r : rvs K H [x, y] vs) : ∃ v u, vs = [v, u] ∧ rv K H x v ∧ rv K H y u := by
  obtain ⟨v, q, e, a, b⟩ := r.inv
  obtain ⟨u, e2, c⟩ := rvs1 b
  subst e2
  exact ⟨v, u, e, a, c⟩
def qLen : QA := fun ws G Q => match ws with
  | [.tup xs] => Q (.int xs.length) G
  | [.fl xs] => Q (.int xs.length) G
  | [.str z] => z.length ≤ sizeLine ∧ Q (.int z.length) G
  | [.ad p] => ∃ xs, G p = some (.lst xs) ∧ Q (.int xs.length) G
  | _ => False
theorem qLen.mono (x : List Dv) : Mono0 (qLen x) := fun G Q Q' q h => by
  unfold qLen at h ⊢
  split at h
  · exact q _ _ h
  · exact q _ _ h
  · exact ⟨h.1, q _ _ h.2⟩
  · obtain ⟨xs, e, a⟩ := h; exact ⟨xs, e, q _ _ a⟩
  · exact h
theorem jc_len : JCl X (.builtin "len") qLen := by
  refine ⟨qLen.mono, _, CallR.or call_len_seq call_len_str, fun ws vs G H Q r c k => ?_⟩
  unfold qLen at k
  split at k
  · obtain ⟨v, e, a⟩ := rvs1 r
    unfold rv at a
    obtain ⟨p, us, ev, s, r⟩ := a
    subst ev
    exact .inl ⟨p, us, e, .inr s, k _ H (Le.refl _) (by rw [r.length]; exact rvI) c⟩
  · obtain ⟨v, e, a⟩ := rvs1 r
    unfold rv at a
    obtain ⟨p, us, ev, s, r⟩ := a
    subst ev
    exact .inl ⟨p, us, e, .inl s.sq, k _ H (Le.refl _) (by rw [r.length]; exact rvI) c⟩
  · obtain ⟨v, e, a⟩ := rvs1 r
    unfold rv at a
    subst a
    exact .inr ⟨_, e, k.1, k.2 _ H (Le.refl _) rvI c⟩
  · obtain ⟨v, e, a⟩ := rvs1 r
    obtain ⟨xs, e1, q⟩ := k
    unfold rv at a
    subst a
    obtain ⟨us, ev, r⟩ := c _ _ e1
    exact .inl ⟨_, us, e, .inl (SqL.of ev), q _ H (Le.refl _) (by rw [r.length]; exact rvI) c⟩
  · exact k.elim
/-- list(x) of a list or a tuple; tuple(x) -/
def qList : QA := fun ws G Q => match ws with
  | [.tup xs] => qNew (.lst xs) G Q
  | [.fl xs] => qNew (.lst xs) G Q
  | [.ad p] => ∃ xs, G p = some (.lst xs) ∧ qNew (.lst xs) G Q
  | _ => False
theorem qList.mono (x : List Dv) : Mono0 (qList x) := fun G Q Q' q h => by
  unfold qList at h ⊢
  split at h
  · exact qNew.mono _ _ _ q h
  · exact qNew.mono _ _ _ q h
  · obtain ⟨xs, e, a⟩ := h; exact ⟨xs, e, qNew.mono _ _ _ q a⟩
  · exact h
theorem jc_list : JCl X (.type "list") qList := by
  refine ⟨qList.mono, _, call_list_of, fun ws vs G H Q r c k => ?_⟩
  unfold qList at k
  split at k
  · obtain ⟨v, e, a⟩ := rvs1 r
    unfold rv at a
    obtain ⟨p, us, ev, s, r⟩ := a
    subst ev
    exact ⟨p, us, e, .inr s, new_lst c r k⟩
  · obtain ⟨v, e, a⟩ := rvs1 r
    unfold rv at a
    obtain ⟨p, us, ev, s, r⟩ := a
    subst ev
    exact ⟨p, us, e, .inl s.sq, new_lst c r k⟩
  · obtain ⟨v, e, a⟩ := rvs1 r
    obtain ⟨xs, e1, q⟩ := k
    unfold rv at a
    subst a
    obtain ⟨us, ev, r⟩ := c _ _ e1
    exact ⟨_, us, e, .inl (SqL.of ev), new_lst c r q⟩
  · exact k.elim
def qTuple : QA := fun ws G Q => match ws with
  | [.tup xs] => Q (.tup xs) G
  | [.ad p] => ∃ xs, G p = some (.lst xs) ∧ Q (.tup xs) G
  | _ => False
theorem qTuple.mono (x : List Dv) : Mono0 (qTuple x) := fun G Q Q' q h => by
  unfold qTuple at h ⊢
  split at h
  · exact q _ _ h
  · obtain ⟨xs, e, a⟩ := h; exact ⟨xs, e, q _ _ a⟩
  · exact h
theorem new_tup {K : Ct} {H : Hp} {G : Hq} {xs : List Dv} {vs : List V} {Q : VK} (c : rh K G H) (r : rvs K H xs vs) (q : LQ K (rv K) H Q (.tup xs) G) : ∀ p, H p = none → Q (.ref p) (upd H p (.tup vs)) := fun n hn => by
  have l := Le.new (K := K) (p := n) (o := .tup vs) hn
  refine q _ _ l ?_ (c.keep l fun b u q => by rw [upd_ne (ne_of_none q hn)]; exact q)
  unfold rv; exact ⟨n, _, rfl, .inl (.inl upd_same), r.le l⟩
theorem jc_tuple : JCl X (.type "tuple") qTuple := by
  refine ⟨qTuple.mono, _, call_tuple_of, fun ws vs G H Q r c k => ?_⟩
  unfold qTuple at k
  split at k
  · obtain ⟨v, e, a⟩ := rvs1 r
    have a2 := a
    unfold rv at a
    obtain ⟨p, us, ev, s, r⟩ := a
    subst ev
    exact ⟨p, us, e, .inr ⟨s, k _ H (Le.refl _) a2 c⟩⟩
  · obtain ⟨v, e, a⟩ := rvs1 r
    obtain ⟨xs, e1, q⟩ := k
    unfold rv at a
    subst a
    obtain ⟨us, ev, r⟩ := c _ _ e1
    exact ⟨_, us, e, .inl ⟨SqL.of ev, new_tup c r q⟩⟩
  · exact k.elim
def qInt : QA := fun ws G Q => match ws with
  | [.int i] => Q (.int i) G
  | [.bl b] => Q (.int (if b then 1 else 0)) G
  | _ => False
theorem qInt.mono (x : List Dv) : Mono0 (qInt x) := fun G Q Q' q h => by
  unfold qInt at h ⊢
  split at h
  · exact q _ _ h
  · exact q _ _ h
  · exact h
theorem jc_int : JCl X (.type "int") qInt := by
  refine ⟨qInt.mono, _, call_int1, fun ws vs G H Q r c k => ?_⟩
  unfold qInt at k
  split at k
  · obtain ⟨v, e, a⟩ := rvs1 r
    unfold rv at a; subst a
    exact .inl ⟨_, e, k _ H (Le.refl _) rvI c⟩
  · obtain ⟨v, e, a⟩ := rvs1 r
    unfold rv at a; subst a
    exact .inr ⟨_, e, k _ H (Le.refl _) rvI c⟩
  · exact k.elim
theorem jc_abs : JCl X (.builtin "abs") (fun ws G Q => ∃ i, ws = [.int i] ∧ Q (.int (if i < 0 then -i else i)) G) :=
  ⟨fun _ _ _ _ q ⟨i, e, h⟩ => ⟨i, e, q _ _ h⟩, _, call_abs, fun ws vs G H Q r c ⟨i, e, q⟩ => by
    subst e
    obtain ⟨v, e, a⟩ := rvs1 r
    unfold rv at a; subst a
    exact ⟨i, e, q _ H (Le.refl _) rvI c⟩⟩
/-- all(xs), any(xs) of a list of bools -/
theorem rvs_bl {K : Ct} {H : Hp} : ∀ {bs : List Bool} {vs : List V}, rvs K H (bs.map Dv.bl) vs → vs = bs.map V.bl
  | [], vs, r => r.inv0
  | b :: bs, vs, r => by
    obtain ⟨v, q, e, a, t⟩ := rvs.inv (show rvs K H (Dv.bl b :: bs.map Dv.bl) vs from r)
    unfold rv at a
    subst e; subst a
    rw [rvs_bl t]; rfl
theorem rvs_int {K : Ct} {H : Hp} : ∀ {bs : List Int} {vs : List V}, rvs K H (bs.map Dv.int) vs → vs = bs.map V.int
  | [], vs, r => r.inv0
  | b :: bs, vs, r => by
    obtain ⟨v, q, e, a, t⟩ := rvs.inv (show rvs K H (Dv.int b :: bs.map Dv.int) vs from r)
    unfold rv at a
    subst e; subst a
    rw [rvs_int t]; rfl
def qAll (f : List Bool → Bool) : QA := fun ws G Q => ∃ p bs, ws = [.ad p] ∧ G p = some (.lst (bs.map Dv.bl)) ∧ Q (.bl (f bs)) G
theorem qAll.mono {f : List Bool → Bool} (x : List Dv) : Mono0 (qAll f x) := fun _ _ _ q ⟨p, bs, a, b, h⟩ => ⟨p, bs, a, b, q _ _ h⟩
theorem jc_all (hc : X.calm = true) : JCl X (.builtin "all") (qAll fun bs => bs.all id) := ⟨qAll.mono, _, cr_all hc, fun ws vs G H Q r c ⟨p, bs, e, e1, q⟩ => by
  subst e
  obtain ⟨v, e, a⟩ := rvs1 r
  unfold rv at a; subst a
  obtain ⟨us, ev, r⟩ := c _ _ e1
  rw [rvs_bl r] at ev
  exact ⟨p, bs, e, SqL.of ev, q _ H (Le.refl _) rvB c⟩⟩
theorem jc_any (hc : X.calm = true) : JCl X (.builtin "any") (qAll fun bs => bs.any id) := ⟨qAll.mono, _, cr_any hc, fun ws vs G H Q r c ⟨p, bs, e, e1, q⟩ => by
  subst e
  obtain ⟨v, e, a⟩ := rvs1 r
  unfold rv at a; subst a
  obtain ⟨us, ev, r⟩ := c _ _ e1
  rw [rvs_bl r] at ev
  exact ⟨p, bs, e, SqL.of ev, q _ H (Le.refl _) rvB c⟩⟩

/-! ### isinstance -/
/-- the class of a value -/
inductive TyD (K : PySem.W.Frag) (G : Hq) : Dv → Value → Prop
  | non : TyD K G .non (.type "NoneType")
  | bl (b : Bool) : TyD K G (.bl b) (.type "bool")
  | int (i : Int) : TyD K G (.int i) (.type "int")
  | str (x : Str) : TyD K G (.str x) (.type "str")
  | tup (xs : List Dv) : TyD K G (.tup xs) (.type "tuple")
  | fl (xs : List Dv) : TyD K G (.fl xs) (.type "list")
  | lst {a : Addr} {xs : List Dv} (e : G a = some (.lst xs)) : TyD K G (.ad a) (.type "list")
  | ins {a C : Addr} {fs : List (Str × Dv)} (e : G a = some (.ins C fs)) (cl : Cls K C) (ha : PySem.W.findIn K (.ref C) "__class__" = some (some (.builtin "object.__class__")))
      (hn : PySem.W.specialIn K (.builtin "object.__class__") "__get__" = some (some (.builtin "getset_descriptor.__get__"))) (htk : PySem.W.takesIn K (.builtin "object.__class__") = some true)
      (hm : PySem.W.mroIn K C (.type "object") = some true) : TyD K G (.ad a) (.ref C)
theorem TyD.tyX {K : Ct} {G : Hq} {H : Hp} {x : Dv} {v : V} {t : Value} (g : rh K G H) (h : TyD K.K G x t) (r : rv K H x v) : TyX K.K H v t := by
  cases h with
  | non => unfold rv at r; subst r; exact .base .non
  | bl b => unfold rv at r; subst r; exact .base (.bl b)
  | int i => unfold rv at r; subst r; exact .base (.int i)
  | str x => unfold rv at r; subst r; exact .base (.str x)
  | tup xs =>
    unfold rv at r
    obtain ⟨a, vs, e, s, _⟩ := r
    subst e
    rcases s with (s | ⟨o, s⟩) | ⟨o, its, n, s, c, _⟩
    · exact .base (.tup s)
    · exact .fTuple s
    · exact .kTuple s c
  | fl xs =>
    unfold rv at r
    obtain ⟨a, vs, e, s, _⟩ := r
    subst e
    rcases s with ⟨o, s⟩ | ⟨o, its, n, s, c, _⟩
    · exact .base (.frz s)
    · exact .kList s c
  | lst e =>
    unfold rv at r; subst r
    obtain ⟨vs, ev, _⟩ := g _ _ e
    exact .base (.lst ev)
  | ins e cl ha hn htk hm =>
    unfold rv at r; subst r
    obtain ⟨dx, vs, ev, _, _⟩ := g _ _ e
    exact .base (.ins ev cl ha hn htk hm)
inductive ClsD : Dv → Value → Prop where
  | ty (n : String) : ClsD (.ty n) (.type n)
  | own (C : Addr) : ClsD (.ad C) (.ref C)
def qIsi (K : PySem.W.Frag) : QA := fun ws G Q => ∃ x c t u b, ws = [x, c] ∧ ClsD c u ∧ TyD K G x t ∧ PySem.W.kitOne K t u = some b ∧ Q (.bl b) G
theorem qIsi.mono {K : PySem.W.Frag} (x : List Dv) : Mono0 (qIsi K x) := fun _ _ _ q ⟨x, c, t, u, b, e1, e2, e3, e4, h⟩ => ⟨x, c, t, u, b, e1, e2, e3, e4, q _ _ h⟩
theorem jc_isi : JCl X (.builtin "isinstance") (qIsi X.K) := ⟨qIsi.mono, _, call_isi, fun ws vs G H Q r c ⟨x, cl, t, u, b, e, k, ty, kb, q⟩ => by
  subst e
  obtain ⟨v, z, e, r1, r2⟩ := rvs2 r
  refine ⟨v, z, t, u, b, e, ?_, ty.tyX c r1, kb, q _ H (Le.refl _) rvB c⟩
  cases k with
  | ty n => unfold rv at r2; subst r2; exact .ty n
  | own C => unfold rv at r2; subst r2; exact .own C⟩
/-- isinstance(x, (T1, T2)) for built-in types -/
def qIsiT (K : PySem.W.Frag) : QA := fun ws G Q => ∃ (x : Dv) (ns : List String) (t : Value) (b : Bool), ws = [x, .tup (ns.map Dv.ty)] ∧ TyD K G x t ∧ PySem.W.kitAny K t (ns.map Value.type) = some b ∧ Q (.bl b) G
theorem qIsiT.mono {K : PySem.W.Frag} (x : List Dv) : Mono0 (qIsiT K x) := fun _ _ _ q ⟨x, c, t, b, e1, e3, e4, h⟩ => ⟨x, c, t, b, e1, e3, e4, q _ _ h⟩
theorem rvs_ty {K : Ct} {H : Hp} : ∀ {ns : List String} {vs : List V}, rvs K H (ns.map Dv.ty) vs → vs = ns.map V.ty ∧ Paired ClsV vs (ns.map Value.type)
  | [], vs, r => by rw [r.inv0]; exact ⟨rfl, .nil⟩
  | b :: bs, vs, r => by
    obtain ⟨v, q, e, a, t⟩ := rvs.inv (show rvs K H (Dv.ty b :: bs.map Dv.ty) vs from r)
    unfold rv at a
    subst e; subst a
    obtain ⟨h1, h2⟩ := rvs_ty t
    exact ⟨by rw [h1]; rfl, .cons (.ty b) h2⟩
end
end J

set_option Elab.async false
set_option linter.all false
set_option maxRecDepth 100000
set_option maxHeartbeats 4000000
/-! J6: isinstance with a tuple, methods of lists, attributes, new objects, sources of loops. -/
namespace J
open PySem PySem.Spec PyProof.Rows L2
section
variable {X : Cx}
def rIsiS (K : PySem.W.Frag) : List V → Hp → VK → Prop := fun xs H Q => ∃ (x : V) (tp : Addr) (cs : List V) (t : Value) (us : List Value) (b : Bool), xs = [x, .ref tp] ∧ SqT K H tp cs ∧ Paired ClsV cs us ∧ TyX K H x t ∧ PySem.W.kitAny K t us = some b ∧ Q (.bl b) H
theorem call_isiS : CallR X (.builtin "isinstance") (rIsiS X.K) := fun pins s σ H xs us Q I r ⟨x, tp, cs, t, ws, b, e0, hT, k, ty, e, q⟩ => by
  subst e0
  obtain ⟨u1, u2, e1, r1, r2⟩ := Vals.two r
  subst e1
  cases (show u2 = Value.ref tp from r2)
  obtain ⟨P, Z, p, hx⟩ := kit_of I r1 ty
  obtain ⟨its, rv, ⟨o, h1, h2, n, h3⟩, _⟩ := I.tuple hT
  have e3 := ClsV.all k rv
  subst e3
  cases o with
  | mk oc od dt sl =>
    simp only at h2 h3
    subst h2 h3
    exact PySem.W.kia_tup Z I.kIn p h1 e hx fun tk => ⟨V.bl b, H, I.tok tk, rfl, q⟩
theorem jc_isiT : JCl X (.builtin "isinstance") (qIsiT X.K) := ⟨qIsiT.mono, _, call_isiS, fun ws vs G H Q r c ⟨x, ns, t, b, e, ty, kb, q⟩ => by
  subst e
  obtain ⟨v, z, e, r1, r2⟩ := rvs2 r
  unfold rv at r2
  obtain ⟨a, us, e2, s, r2⟩ := r2
  subst e2
  exact ⟨v, a, us, t, _, b, e, s, (rvs_ty r2).2, ty.tyX c r1, kb, q _ H (Le.refl _) rvB c⟩⟩

/-! ### methods of a list -/
abbrev QM := Dv → List Dv → Hq → KQ → Prop
structure JMt (X : Cx) (id : String) (r' : QM) : Prop where
  mono : ∀ x ws, Mono0 (r' x ws)
  ref : ∃ r, MtR X id r ∧ ∀ x ws v vs G H Q, rv (ctOf X) H x v → rvs (ctOf X) H ws vs → rh (ctOf X) G H → r' x ws G (LQ (ctOf X) (rv (ctOf X)) H Q) → r v vs H Q
def isLs (x : Dv) (G : Hq) : Prop := ∃ p xs, x = .ad p ∧ G p = some (.lst xs)
def jML (r' : QM) (to : Jt Dv) (ta : Jt (List Dv)) : Jt Dv := jb to fun x => fun R τ G Q => isLs x G ∧ jb ta (fun ws => jp (r' x ws)) R τ G Q
def jML0 (r' : QM) (to : Jt Dv) : Jt Dv := jb to fun x => fun R τ G Q => isLs x G ∧ r' x [] G Q
theorem je_ml {id : String} {name : Str} {o e : Expr} {es : List Expr} {to : Jt Dv} {ta : Jt (List Dv)} {apos cpos : Pos} {r' : QM} (pa : PlainAttrs "list") (slot : Slot "list" name id) (hty : typeOf (.builtin id) = pure (.type "method_descriptor")) (hm : JMt X id r') (ho : JE X o to) (ha : JA X (e :: es) ta)
    (hbase : attributeBase o name X.env (eval o X.env) = eval o X.env := by rfl)
    (hfew : ((backTo cpos (starEach (e :: es) X.env)).all (fun x => !x.1) && (backToKw cpos (keywordEach [] X.env)).all (fun x => x.1.isSome)
      && decide ((e :: es).length + ([] : List Keyword).length + (if ([] : List Keyword).isEmpty then 0 else 1) < 30)) = true := by rfl)
    (hline : (apos.endLine == cpos.line) = true := by rfl) (hs : starEach (e :: es) X.env = (false, eval e X.env) :: starEach es X.env := by rfl) (hplain : (backTo cpos (starEach es X.env)).any (·.1) = false := by rfl) :
    JE X (.Call (.Attribute o name apos) (e :: es) [] cpos) (jML r' to ta) := by
  obtain ⟨m, r, hr, rf⟩ := hm
  have m1 : ∀ x, Mono (fun R τ G (Q : KQ) => isLs x G ∧ jb ta (fun ws => jp (r' x ws)) R τ G Q) := fun x R R' τ G Q Q' r q h => ⟨h.1, jb.mono ha.mono (fun ws => jp.mono (m x ws)) R R' τ G Q Q' r q h.2⟩
  refine ⟨jb.mono ho.mono m1, fun Wc tk => PE.imp (pe_bm pa slot hty hr (ho.pe Wc tk) (ha.pa Wc tk) hbase hfew hline hs hplain) fun σ H Q h => ?_⟩
  refine LG.mono ho.mono (fun v H1 ⟨l1, x, rx, τ, G, a, b, ⟨p, xs, e1, e2⟩, k⟩ => ?_) (LG.bind (rel := rv _) ho.mono m1 h)
  subst e1
  have rx' := rx
  unfold rv at rx'
  subst rx'
  obtain ⟨vs, ev, _⟩ := b _ _ e2
  refine ⟨.inl ⟨rfl, vs, SqL.of ev⟩, ?_⟩
  refine LG.mono ha.mono (fun us H2 ⟨l2, ws, rws, τ2, G2, a2, b2, k2⟩ => ?_) (LG.bind (rel := rvs _) (rel2 := rv _) (Q := Q) ha.mono (fun ws => jp.mono (m (.ad p) ws)) ⟨τ, G, a, b, k⟩)
  exact rf _ ws _ us G2 H2 Q (rx.le l2) rws b2 k2
theorem je_ml0 {id : String} {name : Str} {o : Expr} {to : Jt Dv} {apos cpos : Pos} {r' : QM} (pa : PlainAttrs "list") (slot : Slot "list" name id) (hty : typeOf (.builtin id) = pure (.type "method_descriptor")) (hm : JMt X id r') (ho : JE X o to)
    (hbase : attributeBase o name X.env (eval o X.env) = eval o X.env := by rfl) (hline : (apos.endLine == cpos.line) = true := by rfl) : JE X (.Call (.Attribute o name apos) [] [] cpos) (jML0 r' to) := by
  obtain ⟨m, r, hr, rf⟩ := hm
  have m1 : ∀ x, Mono (fun R τ G (Q : KQ) => isLs x G ∧ r' x [] G Q) := fun x R R' τ G Q Q' r q h => ⟨h.1, m x [] G Q Q' q h.2⟩
  refine ⟨jb.mono ho.mono m1, fun Wc tk => PE.imp (pe_bm0 pa slot hty hr (ho.pe Wc tk) hbase hline) fun σ H Q h => ?_⟩
  refine LG.mono ho.mono (fun v H1 ⟨l1, x, rx, τ, G, a, b, ⟨p, xs, e1, e2⟩, k⟩ => ?_) (LG.bind (rel := rv _) ho.mono m1 h)
  subst e1
  have rx' := rx
  unfold rv at rx'
  subst rx'
  obtain ⟨vs, ev, _⟩ := b _ _ e2
  exact ⟨.inl ⟨rfl, vs, SqL.of ev⟩, rf _ [] _ [] G H1 Q rx rvs.nil b k⟩
/-- the list at p is rewritten -/
theorem put_lst {K : Ct} {H : Hp} {G : Hq} {p : Addr} {xs ys : List Dv} {vs us : List V} (b : rh K G H) (e : H p = some (.lst vs)) (r : rvs K H ys us) : Le K H (upd H p (.lst us)) ∧ rh K (up G p (.lst ys)) (upd H p (.lst us)) := by
  have l := Le.mut (K := K) (p := p) (o := .lst us) e trivial
  exact ⟨l, rh.write (o := .lst ys) b e trivial ⟨us, upd_same, r.le l⟩⟩
def qAppend : QM := fun x ws G Q => ∃ p xs y, x = .ad p ∧ ws = [y] ∧ G p = some (.lst xs) ∧ xs.length < sizeLine ∧ Q .non (up G p (.lst (xs ++ [y])))
theorem jm_append : JMt X "list.append" qAppend := ⟨fun _ _ _ _ _ q ⟨p, xs, y, a, b, c, d, h⟩ => ⟨p, xs, y, a, b, c, d, q _ _ h⟩, _, mt_append, fun x ws v vs G H Q rx rw g ⟨p, xs, y, a, b, c, d, h⟩ => by
  subst a; subst b
  unfold rv at rx; subst rx
  obtain ⟨u, e, ru⟩ := rvs1 rw
  obtain ⟨us, ev, r⟩ := g _ _ c
  have z := put_lst (xs := xs) g ev (r.append (rvs.cons ru rvs.nil))
  exact ⟨p, us, u, rfl, e, ev, by rw [← r.length]; exact d, h _ _ z.1 rvN z.2⟩⟩
def qExtend : QM := fun x ws G Q => ∃ p b xs ys, x = .ad p ∧ ws = [.ad b] ∧ G p = some (.lst xs) ∧ G b = some (.lst ys) ∧ xs.length + ys.length ≤ sizeLine ∧ Q .non (up G p (.lst (xs ++ ys)))
theorem jm_extend : JMt X "list.extend" qExtend := ⟨fun _ _ _ _ _ q ⟨p, o, xs, y, a, b, c, d, e, h⟩ => ⟨p, o, xs, y, a, b, c, d, e, q _ _ h⟩, _, mt_extend, fun x ws v vs G H Q rx rw g ⟨p, o, xs, ys, a, b, c, d, e, h⟩ => by
  subst a; subst b
  unfold rv at rx; subst rx
  obtain ⟨u, e1, ru⟩ := rvs1 rw
  unfold rv at ru; subst ru
  obtain ⟨us, ev, r⟩ := g _ _ c
  obtain ⟨zs, ez, r2⟩ := g _ _ d
  have z := put_lst (xs := xs) g ev (r.append r2)
  exact ⟨p, o, us, zs, rfl, e1, ev, ez, by rw [← r.length, ← r2.length]; exact e, h _ _ z.1 rvN z.2⟩⟩
def qPop0 : QM := fun x ws G Q => ∃ p xs y, x = .ad p ∧ ws = [] ∧ G p = some (.lst xs) ∧ xs[xs.length - 1]? = some y ∧ Q y (up G p (.lst xs.dropLast))
theorem jm_pop0 : JMt X "list.pop" qPop0 := ⟨fun _ _ _ _ _ q ⟨p, xs, y, a, b, c, d, h⟩ => ⟨p, xs, y, a, b, c, d, q _ _ h⟩, _, mt_pop, fun x ws v vs G H Q rx rw g ⟨p, xs, y, a, b, c, d, h⟩ => by
  subst a; subst b
  unfold rv at rx; subst rx
  obtain ⟨us, ev, r⟩ := g _ _ c
  obtain ⟨u, eu, ru⟩ := r.get d
  have z := put_lst (xs := xs) g ev r.dropLast
  exact ⟨p, us, u, rfl, rw.inv0, ev, by rw [← r.length]; exact eu, h _ _ z.1 (ru.le z.1) z.2⟩⟩
def qPopAt : QM := fun x ws G Q => ∃ p xs i k y, x = .ad p ∧ ws = [.int i] ∧ G p = some (.lst xs) ∧ -(2 ^ 63) ≤ i ∧ i < 2 ^ 63 ∧ seqIndex? i xs.length = some k ∧ xs[k]? = some y ∧ Q y (up G p (.lst (xs.eraseIdx k)))
theorem jm_popAt : JMt X "list.pop" qPopAt := ⟨fun _ _ _ _ _ q ⟨p, xs, i, k, y, a, b, c, d, e, f, g, h⟩ => ⟨p, xs, i, k, y, a, b, c, d, e, f, g, q _ _ h⟩, _, mt_popAt, fun x ws v vs G H Q rx rw g ⟨p, xs, i, k, y, a, b, c, d, e, f, j, h⟩ => by
  subst a; subst b
  unfold rv at rx; subst rx
  obtain ⟨u0, e1, r1⟩ := rvs1 rw
  unfold rv at r1; subst r1
  obtain ⟨us, ev, r⟩ := g _ _ c
  obtain ⟨u, eu, ru⟩ := r.get j
  have z := put_lst (xs := xs) g ev (r.eraseIdx k)
  exact ⟨p, us, i, k, u, rfl, e1, ev, d, e, by rw [← r.length]; exact f, eu, h _ _ z.1 (ru.le z.1) z.2⟩⟩
def qReverse : QM := fun x ws G Q => ∃ p xs, x = .ad p ∧ ws = [] ∧ G p = some (.lst xs) ∧ Q .non (up G p (.lst xs.reverse))
theorem jm_reverse : JMt X "list.reverse" qReverse := ⟨fun _ _ _ _ _ q ⟨p, xs, a, b, c, h⟩ => ⟨p, xs, a, b, c, q _ _ h⟩, _, mt_reverse, fun x ws v vs G H Q rx rw g ⟨p, xs, a, b, c, h⟩ => by
  subst a; subst b
  unfold rv at rx; subst rx
  obtain ⟨us, ev, r⟩ := g _ _ c
  have z := put_lst (xs := xs) g ev r.reverse
  exact ⟨p, us, rfl, rw.inv0, ev, h _ _ z.1 rvN z.2⟩⟩
def qClear : QM := fun x ws G Q => ∃ p xs, x = .ad p ∧ ws = [] ∧ G p = some (.lst xs) ∧ Q .non (up G p (.lst []))
theorem jm_clear : JMt X "list.clear" qClear := ⟨fun _ _ _ _ _ q ⟨p, xs, a, b, c, h⟩ => ⟨p, xs, a, b, c, q _ _ h⟩, _, mt_clear, fun x ws v vs G H Q rx rw g ⟨p, xs, a, b, c, h⟩ => by
  subst a; subst b
  unfold rv at rx; subst rx
  obtain ⟨us, ev, r⟩ := g _ _ c
  have z := put_lst (xs := xs) (ys := []) g ev rvs.nil
  exact ⟨p, us, rfl, rw.inv0, ev, h _ _ z.1 rvN z.2⟩⟩

/-! ### xs[i] = e -/
def jgSetL (to ti : Jt Dv) : JGt := fun R w τ G Q => to R τ G fun x G1 => ti R τ G1 fun y G2 => ∃ p xs k j, x = .ad p ∧ y = .int k ∧ G2 p = some (.lst xs) ∧ ixN xs.length k = some j ∧ Q τ (up G2 p (.lst (xs.set j w)))
theorem jg_setL {o i : Expr} {to ti : Jt Dv} {pos : Pos} (ho : JE X o to) (hi : JE X i ti)
    (ha : ∀ v, assign (.Subscript o i pos) X.env v = (do
      let ov ← holding [v] (eval o X.env); let iv ← holding [v, ov] (eval i X.env); standAt pos
      holding [v, ov, iv] (setItem ov iv v); release [v, ov, iv] []) := by intro _; rfl) : JG X (.Subscript o i pos) [] (jgSetL to ti) := by
  refine ⟨fun R R' w τ G Q Q' r q h => ho.mono R R' τ G _ _ r (fun x G1 k => hi.mono R R' τ G1 _ _ r (fun y G2 ⟨p, xs, k, j, a, b, c, d, z⟩ => ⟨p, xs, k, j, a, b, c, d, q _ _ z⟩) k) h, fun Wc tk => PG.imp (pg_sub (ho.pe Wc tk) (hi.pe Wc tk) set_list ha) fun v σ H Q ⟨w, τ, G, rw, a, b, h⟩ => ?_⟩
  refine ⟨τ, G, a, b, ho.mono _ _ τ G _ _ (RLe.refl _) (fun x G1 kk u H1 l1 rx g1 => ?_) h⟩
  refine ⟨τ, G1, a.le l1, g1, hi.mono _ _ τ G1 _ _ (LR.le l1) (fun y G2 ⟨p, xs, k, j, e1, e2, e3, e4, z⟩ t H2 l2 ry g2 => ?_) kk⟩
  subst e1; subst e2
  unfold rv at rx ry
  subst rx; subst ry
  obtain ⟨us, ev, r⟩ := g2 _ _ e3
  have q := put_lst (xs := xs) g2 ev (rvs.set (rw.le (l1.trans l2)) j r)
  exact ⟨p, us, k, j, rfl, rfl, ev, by rw [← r.length]; exact e4, z σ _ ((l1.trans l2).trans q.1) (a.le ((l1.trans l2).trans q.1)) q.2 (Agree.refl _ _)⟩

/-! ### attributes -/
def jFld (C : Addr) (f : Str) (t : Jt Dv) : Jt Dv := jb t fun x => jp fun G Q => ∃ a fs y, x = .ad a ∧ G a = some (.ins C fs) ∧ fs.lookup f = some y ∧ Q y G
theorem je_fld {C : Addr} {e : Expr} {f : Str} {t : Jt Dv} {pos : Pos} (c : Cls X.K C) (n : NoAttr X.K C f) (he : JE X e t) (hb : attributeBase e f X.env (eval e X.env) = eval e X.env := by rfl) : JE X (.Attribute e f pos) (jFld C f t) := by
  have m : ∀ x : Dv, Mono0 (fun G (Q : KQ) => ∃ a fs y, x = .ad a ∧ G a = some (.ins C fs) ∧ fs.lookup f = some y ∧ Q y G) := fun _ _ _ _ q ⟨a, fs, y, e1, e2, e3, h⟩ => ⟨a, fs, y, e1, e2, e3, q _ _ h⟩
  refine ⟨jb.mono he.mono fun x => jp.mono (m x), fun Wc tk => PE.imp (pe_fld (he.pe Wc tk) hb) fun σ H Q h => ?_⟩
  refine LG.mono he.mono (fun v H1 ⟨l1, x, rx, τ, G, a, b, p, fs, y, e1, e2, e3, k⟩ => ?_) (LG.bind (rel := rv _) he.mono (fun x => jp.mono (m x)) h)
  subst e1
  unfold rv at rx; subst rx
  obtain ⟨dx, vs, ev, _, r⟩ := b _ _ e2
  obtain ⟨u, eu, ru⟩ := (r.lookup).1 y e3
  exact ⟨p, C, dx, vs, u, rfl, ev, c, n, eu, k u H1 (Le.refl _) ru b⟩
def putD (f : Str) (v : Dv) : List (Str × Dv) → List (Str × Dv)
  | [] => [(f, v)]
  | (g, x) :: r => if g = f then (g, v) :: r else (g, x) :: putD f v r
theorem rfs.put {K : Ct} {H : Hp} {f : Str} {y : Dv} {v : V} (ry : rv K H y v) : ∀ {fs : List (Str × Dv)} {vs : List (Str × V)}, rfs K H fs vs → rfs K H (putD f y fs) (putF f v vs)
  | [], vs, h => by unfold rfs at h; subst h; unfold putD putF rfs; exact ⟨v, [], rfl, ry, rfl⟩
  | (g, x) :: r, vs, h => by
    unfold rfs at h
    obtain ⟨u, q, e, a, b⟩ := h
    subst e
    unfold putD putF
    by_cases e : g = f
    · rw [if_pos e, if_pos e]; unfold rfs; exact ⟨v, q, rfl, ry, b⟩
    · rw [if_neg e, if_neg e]; unfold rfs; exact ⟨u, _, rfl, a, rfs.put ry b⟩
def jsFld (C : Addr) (f : Str) (to tv : Jt Dv) : JSt := jsE tv fun y => jsE to fun x => fun _ D τ G => ∃ a fs, x = .ad a ∧ G a = some (.ins C fs) ∧ fs.length < 1000 ∧ D.nx τ (up G a (.ins C (putD f y fs)))
theorem js_fld {C : Addr} {o value : Expr} {f : Str} {to tv : Jt Dv} {pos pos' : Pos} (c : Cls X.K C) (n : NoAttr X.K C f) (ho : JE X o to) (hv : JE X value tv) (hs : swapsWith value (some (.Attribute o f pos')) pos.line X.env = pure false := by rfl) : JS X (.Assign [.Attribute o f pos'] value pos) (jsFld C f to tv) := by
  have m2 : ∀ y x : Dv, MonoS (fun _ D τ G => ∃ a fs, x = .ad a ∧ G a = some (.ins C fs) ∧ fs.length < 1000 ∧ D.nx τ (up G a (.ins C (putD f y fs)))) := fun y x R R' D D' τ G r d ⟨a, fs, e1, e2, e3, h⟩ => ⟨a, fs, e1, e2, e3, d.nx _ _ h⟩
  refine ⟨jsE.mono hv.mono fun y => jsE.mono ho.mono (m2 y), fun Wc tk => PS.imp (ps_fld (ho.pe Wc tk) (hv.pe Wc tk) hs) fun D σ H h => ?_⟩
  refine LG.mono hv.mono (fun v H1 ⟨l1, y, ry, k⟩ => ?_) (jsE.lift hv.mono (fun y => jsE.mono ho.mono (m2 y)) h)
  refine LG.mono ho.mono (fun u H2 ⟨l2, x, rx, τ, G, a, b, p, fs, e1, e2, e3, k⟩ => ?_) (jsE.lift ho.mono (m2 y) k)
  subst e1
  unfold rv at rx; subst rx
  obtain ⟨dx, vs, ev, ed, r⟩ := b _ _ e2
  have l := Le.mut (K := ctOf X) (p := p) (o := .ins C dx (putF f v vs)) ev trivial
  have hne : dx ≠ p := fun z => by rw [z, ev] at ed; cases ed
  exact ⟨p, C, dx, vs, rfl, ev, c, n, by rw [← r.length]; exact e3, k σ _ l (a.le l) (rh.write (o := .ins C (putD f y fs)) b ev trivial ⟨dx, _, upd_same, by rw [upd_ne hne]; exact ed, (rfs.put (ry.le l2) r).le l⟩)⟩

/-! ### new objects -/
def jMake (C : Addr) (sp : Sq) (ta : Jt (List Dv)) : Jt Dv := jb ta fun ws => fun R τ G Q => ∀ x, G x = none → sp (.ad x :: ws) (up G x (.ins C [])) (fun v G2 => v = .non ∧ Q (.ad x) G2) fun c f G2 => R c f τ G2
/-- what an __init__ lets out is wished for at the caller's slots -/
theorem run_mk {CX : CXT} {k : Nat} {f C : Addr} {fd : FuncData} {ps : List Str} {sp : Sp} {E : XK} {pins : List (Addr × Obj)} {σ : L2.St} {H : Hp} {s : Shared} {Q : VK} {us : List Value} {vs : List V} (M : Mk X.K C f) (F : FnOk X.prog X.w X.K X.mg X.base CX k f fd ps sp) (hr : Room (k + 1) X.A) (hb : Binds X.K fd ps [])
    (hx : PassesAt CX X σ E) (I : Inv X pins σ H s) (r : Vals vs us) (h : ∀ x dx, H x = none → H dx = none → dx ≠ x → sp (.ref x :: vs) (upd (upd H dx (.own x)) x (.ins C dx [])) (fun v H2 => v = .non ∧ Q (.ref x) H2) E) :
    wpAny (model X.prog X.w) X.A (call (.ref C) us) (EP X pins σ Q) X.xe s := by
  let d := s.heap.objs.size
  let a := d + 1
  have ha := I.hok.fresh (Nat.le_succ d)
  have hd := I.hok.fresh (Nat.le_refl d)
  have go := h a d ha hd (Nat.ne_of_lt (Nat.lt_succ_self d))
  have J2 := Inv.made (C := C) I
  have rr : Vals (V.ref a :: vs) (Value.ref a :: us) := .cons rfl r
  have ll : (Value.ref a :: us).length = ps.length := rr.length.symm.trans (F.len _ _ _ _ go)
  have bb := hb _ (Value.ref a :: us) J2.kIn (by rw [List.append_nil]; exact ll)
  rw [List.append_nil] at bb
  have run := F.run _ X.stack _ _ ⟨Value.ref a :: us, []⟩ (Value.ref a :: us) _ _ E (hr.make C us []) (J2.env0.make C us []) bb rr go
  refine wpAny_call (make_map (f := f) I.kIn M.makes M.init (beq_iff_eq.mp M.fn) (codeAny_mono run fun rr s' z => ?_))
  match rr, z with
  | .error e, z => exact hx pins _ _ e s' J2 z
  | .ok (.ret u), z =>
    obtain ⟨v, H', K', rv', hv, qq⟩ := J2.after z
    subst hv
    exact ⟨rv', V.ref a, H', K', rfl, qq⟩
theorem je_make {k : Nat} {f C : Addr} {fd : FuncData} {ps : List Str} {sp : Sq} {x : Str} {ta : Jt (List Dv)} {e : Expr} {es : List Expr} {p pos : Pos} (M : Mk X.K C f) (F : FnOk X.prog X.w X.K X.mg X.base (L2.CX X.prog X.w) k f fd ps (LSp (ctOf X) sp)) (ms : MonoSq sp) (hr : Room (k + 1) X.A) (hg : Gl X x) (hm : X.mg x = some (.ref C))
    (hb : Binds X.K fd ps []) (ha : JA X (e :: es) ta) (hdb : (x == ("__debug__" : Str)) = false := by decide) (he : starEach (e :: es) X.env = (false, eval e X.env) :: starEach es X.env := by rfl) (hpl : (backTo pos (starEach es X.env)).any (·.1) = false := by rfl) :
    JE X (.Call (.Name x p) (e :: es) [] pos) (jMake C sp ta) := by
  have m1 : ∀ ws, Mono (fun R τ G (Q : KQ) => ∀ x, G x = none → sp (.ad x :: ws) (up G x (.ins C [])) (fun v G2 => v = .non ∧ Q (.ad x) G2) fun c f G2 => R c f τ G2) := fun ws R R' τ G Q Q' r q h x hx =>
    ms _ _ _ _ _ _ (fun w G k => ⟨k.1, q _ _ k.2⟩) (fun c f G k => r c f τ G k) (h x hx)
  refine ⟨jb.mono ha.mono m1, fun Wc tk => ⟨fun pins s σ H Q I h => ?_⟩⟩
  refine wpAny_Call_Name_kw (ld_glob I hg hm ?_ hdb)
  have h2 := LG.bind (rel := rvs (ctOf X)) (rel2 := rv (ctOf X)) ha.mono m1 h
  refine PySem.W.callWith_K (h₀ := X.base) I.ok.mod.kin M.kp (thn ((ha.pa Wc tk).run pos pins s σ H _ I h2) fun us s1 ⟨vs, H1, I1, r, l1, ws, rw, τ, G, a, b, q⟩ => ⟨I1.kIn, ?_⟩) he hpl
  refine run_mk M F hr hb (passAt tk σ) I1 r fun x dx hx hdx hne => ?_
  have le : Le (ctOf X) H1 (upd (upd H1 dx (.own x)) x (.ins C dx [])) := (Le.new hdx).trans (Le.new (by rw [upd_ne (Ne.symm hne)]; exact hx))
  have g1 : rh (ctOf X) (up G x (.ins C [])) (upd (upd H1 dx (.own x)) x (.ins C dx [])) := by
    refine rh.new (o := .ins C []) (b.keep (Le.new hdx) fun b u q => by rw [upd_ne (ne_of_none q hdx)]; exact q) (by rw [upd_ne (Ne.symm hne)]; exact hx) ⟨dx, [], upd_same, by rw [upd_ne hne, upd_same], by unfold rfs; rfl⟩
  refine ⟨.ad x :: ws, up G x (.ins C []), rvs.cons rvA (rw.le le), g1, ms _ _ _ _ _ _ ?_ ?_ (q x (b.fresh hx))⟩
  · rintro v G2 ⟨e1, k⟩ u H2 l2 ru g2
    subst e1
    unfold rv at ru
    exact ⟨ru, k (.ref x) H2 (le.trans l2) rvA g2⟩
  · intro c f G2 k d H2 l2 g2 z
    exact k d σ H2 (le.trans l2) (a.le (le.trans l2)) g2 z
end
end J

set_option Elab.async false
set_option linter.all false
set_option maxRecDepth 100000
set_option maxHeartbeats 4000000
/-! J7: what loops walk (lists, tuples, texts, ranges, enumerate, zip); chains of comparisons; op= . -/
namespace J
open PySem PySem.Spec PyProof.Rows L2 RZ
section
variable {X : Cx} {tg : Expr}
/-- two rules for one source -/
theorem PI.or {e : Expr} {w1 w2 : TI} (h1 : PI X tg e w1) (h2 : PI X tg e w2) : PI X tg e (fun σ H R => w1 σ H R ∨ w2 σ H R) :=
  ⟨fun pins s σ H R I h => h.elim (h1.run pins s σ H R I) (h2.run pins s σ H R I)⟩
theorem PI.imp {e : Expr} {w1 w2 : TI} (h : PI X tg e w1) (i : ∀ σ H R, w2 σ H R → w1 σ H R) : PI X tg e w2 := ⟨fun pins s σ H R I k => h.run pins s σ H R I (i σ H R k)⟩
/-- the items of a text -/
def signs (z : Str) : List Dv := z.cps.toList.map fun c => .str ⟨#[c]⟩
def qSeq (x : Dv) (G : Hq) (Q : List Dv → (Hq → Prop) → Hq → Prop) : Prop := match x with
  | .ad p => ∃ xs, G p = some (.lst xs) ∧ Q xs (fun G => G p = some (.lst xs)) G
  | .tup xs => Q xs (fun _ => True) G
  | .fl xs => Q xs (fun _ => True) G
  | .str z => Q (signs z) (fun _ => True) G
  | _ => False
def jiAny (t : Jt Dv) : JIt := fun R τ G Q => t R τ G fun x G1 => qSeq x G1 Q
theorem jiAny.mono {t : Jt Dv} (m : Mono t) : ∀ R R' τ G (Q Q' : List Dv → (Hq → Prop) → Hq → Prop), RLe R R' → (∀ xs S G, Q xs S G → Q' xs S G) → jiAny t R τ G Q → jiAny t R' τ G Q' := fun R R' τ G Q Q' r q k =>
  m R R' τ G _ _ r (fun x G1 h => by
    unfold qSeq at h ⊢
    split at h
    · obtain ⟨xs, a, b⟩ := h; exact ⟨xs, a, q _ _ _ b⟩
    · exact q _ _ _ h
    · exact q _ _ _ h
    · exact q _ _ _ h
    · exact h) k
theorem walk_l {K : Ct} {H1 : Hp} {a : Addr} {xs : List Dv} (S : Hq → Prop) (h : ∀ G H, Le K H1 H → S G → rh K G H → ∃ vs, SqL K.K H a vs ∧ rvs K H xs vs) : WalkR K H1 xs S (Itl K.K a) := by
  refine ⟨fun i G H l2 hi s2 b2 => ?_, fun G H l2 s2 b2 => ?_, fun i x G H v H' l2 e s2 b2 y => ?_⟩
  · obtain ⟨us, eu, ru⟩ := h G H l2 s2 b2
    have hl := ru.length
    exact ⟨us, us[i]'(by omega), eu, List.getElem?_eq_getElem _⟩
  · obtain ⟨us, eu, ru⟩ := h G H l2 s2 b2
    exact ⟨us, eu, by rw [← ru.length]; exact Nat.le_refl _⟩
  · obtain ⟨us, eu, ru⟩ := h G H l2 s2 b2
    obtain ⟨e3, y⟩ := y
    subst e3
    obtain ⟨u, e4, r4⟩ := ru.get e
    have e5 := y us eu
    rw [e4] at e5; cases e5
    exact ⟨Le.refl _, b2, r4⟩
theorem walk_t {K : Ct} {H1 : Hp} {a : Addr} {xs : List Dv} {vs : List V} (s : SqT K.K H1 a vs) (r : rvs K H1 xs vs) : WalkR K H1 xs (fun _ => True) (Itt K.K a) := by
  refine ⟨fun i G H l2 hi s2 b2 => ?_, fun G H l2 s2 b2 => ?_, fun i x G H v H' l2 e s2 b2 y => ?_⟩
  · have hl := r.length
    exact ⟨vs, vs[i]'(by omega), (l2 _ _).1 s, List.getElem?_eq_getElem _⟩
  · exact ⟨vs, (l2 _ _).1 s, by rw [← r.length]; exact Nat.le_refl _⟩
  · obtain ⟨e3, y⟩ := y
    subst e3
    obtain ⟨u, e4, r4⟩ := (r.le l2).get e
    have e5 := y vs ((l2 _ _).1 s)
    rw [e4] at e5; cases e5
    exact ⟨Le.refl _, b2, r4⟩
theorem walk_s {K : Ct} {H1 : Hp} (z : Str) : WalkR K H1 (signs z) (fun _ => True) (Its z) := by
  have hl : (signs z).length = z.cps.size := by unfold signs; rw [List.length_map, Array.length_toList]
  refine ⟨fun i G H l2 hi s2 b2 => by rw [hl] at hi; exact hi, fun G H l2 s2 b2 => by show z.cps.size ≤ _; rw [hl]; exact Nat.le_refl _, fun i x G H v H' l2 e s2 b2 y => ?_⟩
  obtain ⟨e3, c, e4, e5⟩ := y
  subst e3; subst e5
  unfold signs at e
  rw [List.getElem?_map, Array.getElem?_toList, e4] at e
  cases e
  exact ⟨Le.refl _, b2, rvS⟩
/-- a list, a tuple, a text: which of them is told by the value -/
def iAny (K : PySem.W.Frag) (te : TE) : TI := fun σ H R => te σ H fun v H1 => (∃ a, v = .ref a ∧ (∃ xs, SqL K H1 a xs) ∧ R (Itl K a) H1) ∨ (∃ a, v = .ref a ∧ (∃ xs, SqT K H1 a xs) ∧ R (Itt K a) H1) ∨ ∃ z, v = .str z ∧ R (Its z) H1
theorem pi_any {e : Expr} {te : TE} (he : PE X e te) : PI X tg e (iAny X.K te) := ⟨fun pins s σ H R I h => thn (he.run pins s σ H _ I h) fun v s1 ⟨y, H1, I1, r1, q⟩ => by
  rcases q with ⟨a, ey, ⟨xs, hq⟩, q⟩ | ⟨a, ey, ⟨xs, hq⟩, q⟩ | ⟨z, ey, q⟩
  · subst ey; cases r1
    obtain ⟨its, _, p, _⟩ := I1.list hq
    exact wpAny_pyIter_list p.isList (pi_one (tk := s1.toks) I1 _ (turn_list a _) ⟨_, Heap.get?_push_size _ rfl, rfl, rfl⟩ q)
  · subst ey; cases r1
    obtain ⟨its, _, p, _⟩ := I1.tuple hq
    exact wpAny_pyIter_tuple (show s1.heap.IsTuple a its.toArray from p) (pi_one (tk := s1.toks) I1 _ (turn_tuple a _) ⟨_, Heap.get?_push_size _ rfl, rfl, rfl⟩ q)
  · subst ey
    obtain ⟨t, rfl⟩ := r1
    cases ha : z.cps.all (· < 128) with
    | false => exact wpAny_pyIter_wide ha (pi_one (tk := s1.toks) I1 _ (turn_str _ z t "str_iterator" (.inr rfl)) ⟨_, Heap.get?_push_size _ rfl, rfl, rfl⟩ q)
    | true => exact wpAny_pyIter_ascii ha (pi_one (tk := s1.toks) I1 _ (turn_str _ z t "str_ascii_iterator" (.inl rfl)) ⟨_, Heap.get?_push_size _ rfl, rfl, rfl⟩ q)⟩
theorem ji_any {e : Expr} {t : Jt Dv} (h : JE X e t) : JI X tg e (jiAny t) := by
  refine ⟨jiAny.mono h.mono, fun Wc tk => PI.imp (pi_any (h.pe Wc tk)) fun σ H Rr k => ?_⟩
  obtain ⟨τ, G, a, b, k⟩ := k
  refine ⟨τ, G, a, b, h.mono _ _ τ G _ _ (RLe.refl _) (fun x G1 q v H1 l r b1 => ?_) k⟩
  unfold qSeq at q
  split at q
  · obtain ⟨xs, e1, q⟩ := q
    unfold rv at r; subst r
    obtain ⟨vs, ev, rr⟩ := b1 _ _ e1
    exact .inl ⟨_, rfl, ⟨vs, SqL.of ev⟩, q _ H1 l b1 (walk_l _ fun G H l2 s2 b2 => by
      obtain ⟨us, eu, ru⟩ := b2 _ _ s2
      exact ⟨us, SqL.of eu, ru⟩)⟩
  · unfold rv at r
    obtain ⟨p, vs, e, s, rr⟩ := r
    exact .inr (.inl ⟨p, e, ⟨vs, s⟩, q _ H1 l b1 (walk_t s rr)⟩)
  · unfold rv at r
    obtain ⟨p, vs, e, s, rr⟩ := r
    exact .inl ⟨p, e, ⟨vs, s.sq⟩, q _ H1 l b1 (walk_l _ fun G H l2 s2 b2 => ⟨vs, ((l2 _ _).2 s).sq, rr.le l2⟩)⟩
  · unfold rv at r
    exact .inr (.inr ⟨_, r, q _ H1 l b1 (walk_s _)⟩)
  · exact q.elim
/-! ### range -/
def rangeD (lo : Int) (n : Nat) : List Dv := (List.range n).map fun i => .int (lo + (i : Nat))
theorem walk_r {K : Ct} {H1 : Hp} (lo : Int) (n : Nat) : WalkR K H1 (rangeD lo n) (fun _ => True) (Itr lo n) := by
  have hl : (rangeD lo n).length = n := by unfold rangeD; rw [List.length_map, List.length_range]
  refine ⟨fun i G H l2 hi s2 b2 => by rw [hl] at hi; exact hi, fun G H l2 s2 b2 => by show n ≤ _; rw [hl]; exact Nat.le_refl _, fun i x G H v H' l2 e s2 b2 y => ?_⟩
  obtain ⟨e3, e5⟩ := y
  subst e3; subst e5
  unfold rangeD at e
  rw [List.getElem?_map] at e
  cases e2 : (List.range n)[i]? with
  | none => rw [e2] at e; cases e
  | some j =>
    rw [e2] at e
    cases e
    obtain ⟨h1, h2⟩ := List.getElem?_eq_some_iff.mp e2
    rw [List.getElem_range] at h2
    subst h2
    exact ⟨Le.refl _, b2, rvI⟩
def jiR1 (ta : Jt (List Dv)) : JIt := fun R τ G Q => ta R τ G fun ws G1 => ∃ j : Int, ws = [.int j] ∧ -(2 ^ 62) ≤ j ∧ j < 2 ^ 62 ∧ Q (rangeD 0 j.toNat) (fun _ => True) G1
def jiR2 (ta : Jt (List Dv)) : JIt := fun R τ G Q => ta R τ G fun ws G1 => ∃ i j : Int, ws = [.int i, .int j] ∧ (-(2 ^ 62) ≤ i ∧ i < 2 ^ 62 ∧ -(2 ^ 62) ≤ j ∧ j < 2 ^ 62) ∧ Q (rangeD i (j - i).toNat) (fun _ => True) G1
theorem ji_range1 {a : Expr} {ta : Jt (List Dv)} {p pos : Pos} (hg : Gl X "range") (hm : X.mg "range" = none) (ha : JA X [a] ta) (hs : starEach [a] X.env = [(false, eval a X.env)] := by rfl) : JI X tg (.Call (.Name "range" p) [a] [] pos) (jiR1 ta) := by
  refine ⟨fun R R' τ G Q Q' r q k => ha.mono R R' τ G _ _ r (fun ws G1 ⟨j, e, h1, h2, z⟩ => ⟨j, e, h1, h2, q _ _ _ z⟩) k, fun Wc tk => PI.imp (pi_range1 hg hm (ha.pa Wc tk) hs) fun σ H Rr ⟨τ, G, a, b, k⟩ => ?_⟩
  refine ⟨τ, G, a, b, ha.mono _ _ τ G _ _ (RLe.refl _) (fun ws G1 ⟨j, e, h1, h2, z⟩ v H1 l r b1 => ?_) k⟩
  subst e
  obtain ⟨u, e, ru⟩ := rvs1 r
  unfold rv at ru; subst ru
  exact ⟨j, e, h1, h2, z _ H1 l b1 (walk_r 0 _)⟩
theorem ji_range2 {a a2 : Expr} {ta : Jt (List Dv)} {p pos : Pos} (hg : Gl X "range") (hm : X.mg "range" = none) (ha : JA X [a, a2] ta) (hs : starEach [a, a2] X.env = [(false, eval a X.env), (false, eval a2 X.env)] := by rfl) (hs2 : starEach [a2] X.env = [(false, eval a2 X.env)] := by rfl) : JI X tg (.Call (.Name "range" p) [a, a2] [] pos) (jiR2 ta) := by
  refine ⟨fun R R' τ G Q Q' r q k => ha.mono R R' τ G _ _ r (fun ws G1 ⟨i, j, e, h1, z⟩ => ⟨i, j, e, h1, q _ _ _ z⟩) k, fun Wc tk => PI.imp (pi_range2 hg hm (ha.pa Wc tk) hs hs2) fun σ H Rr ⟨τ, G, a, b, k⟩ => ?_⟩
  refine ⟨τ, G, a, b, ha.mono _ _ τ G _ _ (RLe.refl _) (fun ws G1 ⟨i, j, e, h1, z⟩ v H1 l r b1 => ?_) k⟩
  subst e
  obtain ⟨u, u2, e, ru, ru2⟩ := rvs2 r
  unfold rv at ru ru2; subst ru; subst ru2
  exact ⟨i, j, e, h1, z _ H1 l b1 (walk_r i _)⟩
/-! ### enumerate of a list; zip of two lists or two tuples -/
def enumD (xs : List Dv) : List Dv := xs.mapIdx fun i x => .tup [.int (i : Nat), x]
def jiEnum (ta : Jt (List Dv)) : JIt := fun R τ G Q => ta R τ G fun ws G1 => ∃ p xs, ws = [.ad p] ∧ G1 p = some (.lst xs) ∧ Q (enumD xs) (fun G => G p = some (.lst xs)) G1
theorem walk_e {K : Ct} {H1 : Hp} {a : Addr} {xs : List Dv} : WalkR K H1 (enumD xs) (fun G => G a = some (.lst xs)) (Ite K.K a) := by
  have hl : (enumD xs).length = xs.length := by unfold enumD; rw [List.length_mapIdx]
  refine ⟨fun i G H l2 hi s2 b2 => ?_, fun G H l2 s2 b2 => ?_, fun i x G H v H' l2 e s2 b2 y => ?_⟩
  · obtain ⟨us, eu, ru⟩ := b2 _ _ s2
    have h2 := ru.length
    exact ⟨us, us[i]'(by omega), SqL.of eu, List.getElem?_eq_getElem _⟩
  · obtain ⟨us, eu, ru⟩ := b2 _ _ s2
    exact ⟨us, SqL.of eu, by rw [← ru.length, hl]; exact Nat.le_refl _⟩
  · obtain ⟨us, eu, ru⟩ := b2 _ _ s2
    obtain ⟨T, z, e3, n, e4, y⟩ := y
    subst e3; subst e4
    unfold enumD at e
    rw [List.getElem?_mapIdx] at e
    cases e2 : xs[i]? with
    | none => rw [e2] at e; cases e
    | some w =>
      rw [e2] at e
      cases e
      obtain ⟨u, e4, r4⟩ := ru.get e2
      have e5 := y us (SqL.of eu)
      rw [e4] at e5; cases e5
      have l := Le.new (K := K) (p := T) (o := .tup [.int (i : Nat), z]) n
      refine ⟨l, b2.keep l fun b u' q => by rw [upd_ne (ne_of_none q n)]; exact q, ?_⟩
      unfold rv
      exact ⟨T, _, rfl, .inl (.inl upd_same), rvs.cons rvI (rvs.cons (r4.le l) rvs.nil)⟩
theorem ji_enum {e : Expr} {ta : Jt (List Dv)} {p pos tpos : Pos} {elts : List Expr} {kk : Nat} (hg : Gl X "enumerate") (hm : X.mg "enumerate" = none) (ha : JA X [e] ta) (hs : starEach [e] X.env = [(false, eval e X.env)] := by rfl) : JI X (.Tuple elts kk tpos) (.Call (.Name "enumerate" p) [e] [] pos) (jiEnum ta) := by
  refine ⟨fun R R' τ G Q Q' r q k => ha.mono R R' τ G _ _ r (fun ws G1 ⟨p, xs, e, h1, z⟩ => ⟨p, xs, e, h1, q _ _ _ z⟩) k, fun Wc tk => PI.imp (pi_enum hg hm (ha.pa Wc tk) hs) fun σ H Rr ⟨τ, G, a, b, k⟩ => ?_⟩
  refine ⟨τ, G, a, b, ha.mono _ _ τ G _ _ (RLe.refl _) (fun ws G1 ⟨p, xs, e, h1, z⟩ v H1 l r b1 => ?_) k⟩
  subst e
  obtain ⟨u, e, ru⟩ := rvs1 r
  unfold rv at ru; subst ru
  obtain ⟨us, eu, rr⟩ := b1 _ _ h1
  exact ⟨p, us, e, SqL.of eu, z _ H1 l b1 walk_e⟩
def zipD (xs ys : List Dv) : List Dv := (xs.zip ys).map fun p => .tup [p.1, p.2]
theorem zipD_get {xs ys : List Dv} {i : Nat} {z : Dv} (h : (zipD xs ys)[i]? = some z) : ∃ x y, xs[i]? = some x ∧ ys[i]? = some y ∧ z = .tup [x, y] := by
  unfold zipD at h
  rw [List.getElem?_map] at h
  cases e2 : (xs.zip ys)[i]? with
  | none => rw [e2] at h; cases h
  | some w =>
    rw [e2] at h
    cases h
    obtain ⟨h1, h2⟩ := List.getElem?_zip_eq_some.mp e2
    exact ⟨_, _, h1, h2, rfl⟩
theorem zipD_length (xs ys : List Dv) : (zipD xs ys).length = min xs.length ys.length := by unfold zipD; rw [List.length_map, List.length_zip]
def jiZip (ta : Jt (List Dv)) : JIt := fun R τ G Q => ta R τ G fun ws G1 => (∃ p q xs ys, ws = [.ad p, .ad q] ∧ G1 p = some (.lst xs) ∧ G1 q = some (.lst ys) ∧ Q (zipD xs ys) (fun G => G p = some (.lst xs) ∧ G q = some (.lst ys)) G1) ∨
  ∃ xs ys, ws = [.tup xs, .tup ys] ∧ Q (zipD xs ys) (fun _ => True) G1
theorem walk_zl {K : Ct} {H1 : Hp} {a b : Addr} {xs ys : List Dv} : WalkR K H1 (zipD xs ys) (fun G => G a = some (.lst xs) ∧ G b = some (.lst ys)) (Itz K.K a b) := by
  have hl := zipD_length xs ys
  refine ⟨fun i G H l2 hi s2 b2 => ?_, fun G H l2 s2 b2 => ?_, fun i x G H v H' l2 e s2 b2 y => ?_⟩
  · obtain ⟨us, eu, ru⟩ := b2 _ _ s2.1
    obtain ⟨vs, ev, rv'⟩ := b2 _ _ s2.2
    have h2 := ru.length
    have h3 := rv'.length
    exact ⟨us, vs, us[i]'(by omega), vs[i]'(by omega), SqL.of eu, SqL.of ev, List.getElem?_eq_getElem _, List.getElem?_eq_getElem _⟩
  · obtain ⟨us, eu, ru⟩ := b2 _ _ s2.1
    obtain ⟨vs, ev, rv'⟩ := b2 _ _ s2.2
    have h2 := ru.length
    have h3 := rv'.length
    exact ⟨us, vs, SqL.of eu, SqL.of ev, by omega⟩
  · obtain ⟨us, eu, ru⟩ := b2 _ _ s2.1
    obtain ⟨vs, ev, rv'⟩ := b2 _ _ s2.2
    obtain ⟨T, z1, z2, e3, n, e4, y1, y2⟩ := y
    subst e3; subst e4
    obtain ⟨w1, w2, h1, h2, e5⟩ := zipD_get e
    subst e5
    obtain ⟨u1, e6, r6⟩ := ru.get h1
    obtain ⟨u2, e7, r7⟩ := rv'.get h2
    have e8 := y1 us (SqL.of eu)
    rw [e6] at e8; cases e8
    have e9 := y2 vs (SqL.of ev)
    rw [e7] at e9; cases e9
    have l := Le.new (K := K) (p := T) (o := .tup [z1, z2]) n
    refine ⟨l, b2.keep l fun b u q => by rw [upd_ne (ne_of_none q n)]; exact q, ?_⟩
    unfold rv
    exact ⟨T, _, rfl, .inl (.inl upd_same), rvs.cons (r6.le l) (rvs.cons (r7.le l) rvs.nil)⟩
theorem walk_zt {K : Ct} {H1 : Hp} {a b : Addr} {xs ys : List Dv} {us vs : List V} (s1 : SqT K.K H1 a us) (s2 : SqT K.K H1 b vs) (ru : rvs K H1 xs us) (rv' : rvs K H1 ys vs) : WalkR K H1 (zipD xs ys) (fun _ => True) (ItzT K.K a b) := by
  have hl := zipD_length xs ys
  have h2 := ru.length
  have h3 := rv'.length
  refine ⟨fun i G H l2 hi _ b2 => ?_, fun G H l2 _ b2 => ?_, fun i x G H v H' l2 e _ b2 y => ?_⟩
  · exact ⟨us, vs, us[i]'(by omega), vs[i]'(by omega), (l2 _ _).1 s1, (l2 _ _).1 s2, List.getElem?_eq_getElem _, List.getElem?_eq_getElem _⟩
  · exact ⟨us, vs, (l2 _ _).1 s1, (l2 _ _).1 s2, by omega⟩
  · obtain ⟨T, z1, z2, e3, n, e4, y1, y2⟩ := y
    subst e3; subst e4
    obtain ⟨w1, w2, h1, h2, e5⟩ := zipD_get e
    subst e5
    obtain ⟨u1, e6, r6⟩ := (ru.le l2).get h1
    obtain ⟨u2, e7, r7⟩ := (rv'.le l2).get h2
    have e8 := y1 us ((l2 _ _).1 s1)
    rw [e6] at e8; cases e8
    have e9 := y2 vs ((l2 _ _).1 s2)
    rw [e7] at e9; cases e9
    have l := Le.new (K := K) (p := T) (o := .tup [z1, z2]) n
    refine ⟨l, b2.keep l fun b u q => by rw [upd_ne (ne_of_none q n)]; exact q, ?_⟩
    unfold rv
    exact ⟨T, _, rfl, .inl (.inl upd_same), rvs.cons (r6.le l) (rvs.cons (r7.le l) rvs.nil)⟩
theorem ji_zip {e e2 : Expr} {ta : Jt (List Dv)} {p pos tpos : Pos} {elts : List Expr} {kk : Nat} (hg : Gl X "zip") (hm : X.mg "zip" = none) (ha : JA X [e, e2] ta) (hs : starEach [e, e2] X.env = (false, eval e X.env) :: starEach [e2] X.env := by rfl)
    (hpl : (backTo pos (starEach [e2] X.env)).any (·.1) = false := by rfl) : JI X (.Tuple elts kk tpos) (.Call (.Name "zip" p) [e, e2] [] pos) (jiZip ta) := by
  refine ⟨fun R R' τ G Q Q' r q k => ha.mono R R' τ G _ _ r (fun ws G1 h => h.imp (fun ⟨p, o, xs, ys, e, h1, h2, z⟩ => ⟨p, o, xs, ys, e, h1, h2, q _ _ _ z⟩) fun ⟨xs, ys, e, z⟩ => ⟨xs, ys, e, q _ _ _ z⟩) k, fun Wc tk => PI.imp (pi_zipA hg hm (ha.pa Wc tk) hs hpl) fun σ H Rr ⟨τ, G, a, b, k⟩ => ?_⟩
  refine ⟨τ, G, a, b, ha.mono _ _ τ G _ _ (RLe.refl _) (fun ws G1 h v H1 l r b1 => ?_) k⟩
  rcases h with ⟨p, q, xs, ys, e, h1, h2, z⟩ | ⟨xs, ys, e, z⟩
  · subst e
    obtain ⟨u, u2, e, ru, ru2⟩ := rvs2 r
    unfold rv at ru ru2; subst ru; subst ru2
    obtain ⟨us, eu, rr⟩ := b1 _ _ h1
    obtain ⟨vs, ev, rr2⟩ := b1 _ _ h2
    exact ⟨p, q, us, vs, e, .inl ⟨SqL.of eu, SqL.of ev, z _ H1 l b1 walk_zl⟩⟩
  · subst e
    obtain ⟨u, u2, e, ru, ru2⟩ := rvs2 r
    unfold rv at ru ru2
    obtain ⟨a1, us, e1, s1, r1⟩ := ru
    obtain ⟨a2, vs, e2, s2, r2⟩ := ru2
    subst e1; subst e2
    exact ⟨a1, a2, us, vs, e, .inr ⟨s1, s2, z _ H1 l b1 (walk_zt s1 s2 r1 r2)⟩⟩
end
section
variable {X : Cx}
/-! ### a < b < c -/
def jChn (r r' : Q2) (ta tb tc : Jt Dv) : Jt Dv := jb ta fun x => jb tb fun y => fun R τ G Q => r x y G fun z G1 => ∃ k, z = .bl k ∧ if k = true then jb tc (fun u => jp (r' y u)) R τ G1 Q else Q (.bl false) G1
theorem jChn.mono2 {r r' : Q2} {tc : Jt Dv} (m1 : ∀ x y, Mono0 (r x y)) (m2 : ∀ x y, Mono0 (r' x y)) (mc : Mono tc) (x y : Dv) : Mono (fun R τ G (Q : KQ) => r x y G fun z G1 => ∃ k, z = .bl k ∧ if k = true then jb tc (fun u => jp (r' y u)) R τ G1 Q else Q (.bl false) G1) :=
  fun R R' τ G Q Q' rr q h => m1 x y G _ _ (fun z G1 ⟨k, e, h⟩ => ⟨k, e, by
    cases k with
    | true => rw [if_pos rfl] at h ⊢; exact jb.mono mc (fun u => jp.mono (m2 y u)) R R' τ G1 Q Q' rr q h
    | false => rw [if_neg Bool.false_ne_true] at h ⊢; exact q _ _ h⟩) h
theorem lift_chn {K : Ct} {Wc : WX} {r r' : R2} {q q' : Q2} {ta tb tc : Jt Dv} (m1 : ∀ x y, Mono0 (q x y)) (m2 : ∀ x y, Mono0 (q' x y)) (ma : Mono ta) (mb : Mono tb) (mc : Mono tc) (f1 : Ref2 K r q) (f2 : Ref2 K r' q') {σ : L2.St} {H : Hp} {Q : VK} (h : LG K (rv K) Wc (jChn q q' ta tb tc) σ H Q) :
    tChain r r' (LG K (rv K) Wc ta) (LG K (rv K) Wc tb) (LG K (rv K) Wc tc) σ H Q := by
  have mm := jChn.mono2 m1 m2 mc
  refine LG.mono ma (fun v H1 ⟨l1, x, rx, k⟩ => ?_) (LG.bind (rel := rv K) ma (fun x => jb.mono mb fun y => mm x y) h)
  refine LG.mono mb (fun u H2 ⟨l2, y, ry, τ, G, a, b, c⟩ => ?_) (LG.bind (rel := rv K) mb (fun y => mm x y) k)
  refine f1 x y v u G H2 _ (rx.le l2) ry b (m1 x y G _ _ (fun z G1 ⟨k, e, h⟩ t H3 l3 rt g3 => ?_) c)
  subst e
  unfold rv at rt
  refine ⟨k, rt, ?_⟩
  cases k with
  | true =>
    rw [if_pos rfl] at h ⊢
    have h2 : LG K (rv K) Wc (jb tc fun u => jp (q' y u)) σ H3 Q := ⟨τ, G1, a.le l3, g3, jb.mono mc (fun u => jp.mono (m2 y u)) _ _ τ G1 _ _ (LR.le l3) (LQ.le l3) h⟩
    refine LG.mono mc (fun w H4 ⟨l4, z, rz, τ2, G2, a2, b2, c2⟩ => ?_) (LG.bind (rel := rv K) mc (fun u => jp.mono (m2 y u)) h2)
    exact f2 y z u w G2 H4 Q ((ry.le l3).le l4) rz b2 c2
  | false =>
    rw [if_neg Bool.false_ne_true] at h ⊢
    exact h (.bl false) H3 l3 rvB g3
theorem je_chain {op op' : CmpOp} {a b c : Expr} {ta tb tc : Jt Dv} {pos : Pos} {q q' : Q2} (ho : JOp X (compareOp op) q) (ho' : JOp X (compareOp op') q') (ha : JE X a ta) (hb : JE X b tb) (hc : JE X c tc) (hm : lastMarks [op, op'] [b, c] = false := by with_unfolding_all rfl) :
    JE X (.Compare a [op, op'] [b, c] pos) (jChn q q' ta tb tc) := by
  obtain ⟨m1, r, hr, f1⟩ := ho
  obtain ⟨m2, r', hr', f2⟩ := ho'
  exact ⟨jb.mono ha.mono fun x => jb.mono hb.mono fun y => jChn.mono2 m1 m2 hc.mono x y, fun Wc tk => PE.imp (pe_chain hr hr' (ha.pe Wc tk) (hb.pe Wc tk) (hc.pe Wc tk) hm) fun _ _ _ h => lift_chn m1 m2 ha.mono hb.mono hc.mono f1 f2 h⟩
theorem jt_chain {op op' : CmpOp} {a b c : Expr} {ta tb tc : Jt Dv} {pos : Pos} {q q' : Q2} (ho : JOp X (compareOp op) q) (ho' : JOp X (compareOp op') q') (ha : JE X a ta) (hb : JE X b tb) (hc : JE X c tc) (hm : lastMarks [op, op'] [b, c] = false := by with_unfolding_all rfl) :
    JT X (.Compare a [op, op'] [b, c] pos) (jTest (jChn q q' ta tb tc)) := by
  obtain ⟨m1, r, hr, f1⟩ := ho
  obtain ⟨m2, r', hr', f2⟩ := ho'
  have mm : Mono (jChn q q' ta tb tc) := jb.mono ha.mono fun x => jb.mono hb.mono fun y => jChn.mono2 m1 m2 hc.mono x y
  exact ⟨jTest.mono mm, fun Wc tk => PT.imp (pt_chain hr hr' (ha.pe Wc tk) (hb.pe Wc tk) (hc.pe Wc tk) hm) fun _ _ _ h => lift_chn m1 m2 ha.mono hb.mono hc.mono f1 f2 (lift_test mm h)⟩
/-! ### x op= e, ints -/
def jAug (i : Nat) (t : Jt Dv) (f : Int → Int → Int) : JSt := fun R D τ G => ∃ x, τ[i]? = some (some (.int x)) ∧ t R τ G fun y G1 => ∃ j, y = .int j ∧ D.nx (τ.set i (some (.int (f x j)))) G1
theorem js_aug {i : Nat} {x : Str} {e : Expr} {t : Jt Dv} {op : Operator} {f : Int → Int → Int} {pos pos' : Pos} (hN : X.N.Nodup) (he : JE X e t) (ho : PIp X op (ipI f)) (hi : X.N[i]? = some x := by rfl) (hx : Loc X.env.scope x := by first | exact .inl rfl | exact .inr rfl)
    (hf : X.fn x = true ∨ X.env.scope.names.lookup x = some .local := by first | exact .inl rfl | exact .inr rfl | assumption) : JS X (.AugAssign (.Name x pos') op e pos) (jAug i t f) := by
  refine ⟨fun R R' D D' τ G r d ⟨x, e1, h⟩ => ⟨x, e1, he.mono R R' τ G _ _ r (fun y G1 ⟨j, e, k⟩ => ⟨j, e, d.nx _ _ k⟩) h⟩, fun Wc tk => PS.imp (ps_aug hN hi hx (he.pe Wc tk) ho hf) fun D σ H ⟨τ, G, a, b, x, e1, h⟩ => ?_⟩
  obtain ⟨v, e2, rx⟩ := a.2 i _ e1
  unfold rv at rx; subst rx
  refine ⟨_, e2, τ, G, a, b, he.mono _ _ τ G _ _ (RLe.refl _) (fun y G1 ⟨j, e, k⟩ u H1 l r g => ?_) h⟩
  subst e
  unfold rv at r; subst r
  exact ⟨x, j, rfl, rfl, k _ H1 l ((a.le l).put rvI) g⟩
theorem ip_xor : PIp X .BitXor (ipI fun i j => Builtin.bitXor i j) := by
  intro pins s σ H x y v u Q I r1 r2 ⟨i, j, e1, e2, q⟩
  subst e1; subst e2
  obtain ⟨t, e3⟩ := (show ∃ t, v = Value.int i t from r1)
  obtain ⟨t', e4⟩ := (show ∃ t, u = Value.int j t from r2)
  subst e3; subst e4
  exact ixor_int ⟨V.int _, H, I.tok _, ⟨_, rfl⟩, q⟩
end
end J

set_option Elab.async false
set_option linter.all false
set_option maxRecDepth 100000
set_option maxHeartbeats 4000000
/-! S1: sets whose members are nested tuples of numbers and texts. -/
namespace S
open PySem PySem.Spec PyProof.Rows L2

section
variable {P : Program} {w : World} {A : Around} {E : Value → Shared → Prop} {s : Shared}
theorem mem_depth : ∀ {ks : List NestedKey} {k : NestedKey}, k ∈ ks → k.depth ≤ NestedKey.depthAll ks
  | k' :: ks, k, h => by
    simp only [NestedKey.depthAll]
    rcases List.mem_cons.mp h with e | h
    · subst e; omega
    · have := mem_depth h; omega
theorem all_mem {h : Heap} : ∀ {ks : List NestedKey} {vs : List Value}, NestedAll h ks vs → ∀ v ∈ vs, ∃ k ∈ ks, NestedIs h k v
  | _, _, .nil, v, hv => by cases hv
  | _, _, .cons a t, v, hv => by
    rcases List.mem_cons.mp hv with e | hv
    · subst e; exact ⟨_, List.mem_cons_self, a⟩
    · obtain ⟨k, hk, z⟩ := all_mem t v hv
      exact ⟨k, List.mem_cons_of_mem _ hk, z⟩
/-- no member is of a class statement -/
theorem ofCls : ∀ (n : Nat) (k : NestedKey) (v : Value), NestedIs s.heap k v → k.depth ≤ n → ∀ Q : Bool → Shared → Prop, Q false s → wpAny (model P w) A (ofAClassStatement n v) Q E s := by
  intro n
  induction n with
  | zero =>
    intro k v hk hd Q q
    cases hk with
    | none => exact wpAny_pure q
    | bool _ => exact wpAny_pure q
    | int _ _ => exact wpAny_pure q
    | text _ _ => exact wpAny_pure q
    | tup _ _ _ _ => simp [NestedKey.depth] at hd
  | succ n ih =>
    intro k v hk hd Q q
    cases hk with
    | none => exact wpAny_pure q
    | bool _ => exact wpAny_pure q
    | int _ _ => exact wpAny_pure q
    | text _ _ => exact wpAny_pure q
    | @tup b o vs m ks ho hc hdat hall =>
      have hT : s.TypeIs (.ref b) "tuple" := ⟨o, ho, hc⟩
      unfold ofAClassStatement
      refine wpAny_bind (wpAny_typeOf hT ?_)
      dsimp only
      simp only [show (("tuple" : String) == "tuple") = true from by decide, if_true]
      refine wpAny_bind (wpAny_pure ?_)
      simp only [Bool.not_true, Bool.false_eq_true, if_false]
      show wpAny _ _ (seqItems? (.ref b) >>= _) _ _ s
      refine wpAny_bind (wpAny_seqItems ho hdat ?_)
      dsimp only
      refine wpAny_bind ?_
      show wpAny _ _ (forIn vs _ _) _ _ s
      rw [← Array.forIn_toList]
      have hd' : NestedKey.depthAll ks ≤ n := by simp only [NestedKey.depth] at hd; omega
      refine wpAny_forIn_list _ (fun rest r s' => r.1 = none ∧ s' = s ∧ ∀ v ∈ rest, ∃ k, NestedIs s.heap k v ∧ k.depth ≤ n) _ ?_ ?_ _ _ ⟨rfl, rfl, fun v hv => ?_⟩
      · rintro v rest r s' ⟨hr, rfl, hh⟩
        obtain ⟨k, hk, hkd⟩ := hh v List.mem_cons_self
        refine wpAny_bind (ih k v hk hkd _ ?_)
        simp only [Bool.false_eq_true, if_false]
        exact wpAny_pure ⟨rfl, rfl, fun u hu => hh u (List.mem_cons_of_mem _ hu)⟩
      · rintro ⟨r1, r2⟩ s' ⟨hr, rfl, _⟩
        simp only at hr
        subst hr
        exact wpAny_pure q
      · obtain ⟨k, hk, z⟩ := all_mem hall v hv
        exact ⟨k, z, Nat.le_trans (mem_depth hk) hd'⟩
theorem hashBy : ∀ (n : Nat) (k : NestedKey) (v : Value), NestedIs s.heap k v → ∀ Q : Bool → Shared → Prop, (∀ b, Q b s) → wpAny (model P w) A (hashByValue n v) Q E s := by
  intro n
  induction n with
  | zero =>
    intro k v hk Q q
    cases hk with
    | none => exact wpAny_pure (q _)
    | bool _ => exact wpAny_pure (q _)
    | int _ _ => exact wpAny_pure (q _)
    | text _ _ => exact wpAny_pure (q _)
    | tup _ _ _ _ => exact wpAny_pure (q _)
  | succ n ih =>
    intro k v hk Q q
    cases hk with
    | none => exact wpAny_pure (q _)
    | bool _ => exact wpAny_pure (q _)
    | int _ _ => exact wpAny_pure (q _)
    | text _ _ => exact wpAny_pure (q _)
    | @tup b o vs m ks ho hc hdat hall =>
      have hT : s.TypeIs (.ref b) "tuple" := ⟨o, ho, hc⟩
      unfold hashByValue
      refine wpAny_bind (wpAny_specialOf hT F.slot_tuple_hash.lookup ?_)
      show wpAny _ _ (seqItems? (.ref b) >>= _) _ _ s
      refine wpAny_bind (wpAny_seqItems ho hdat ?_)
      refine wpAny_bind ?_
      show wpAny _ _ (forIn vs _ _) _ _ s
      rw [← Array.forIn_toList]
      refine wpAny_forIn_list _ (fun rest r s' => s' = s ∧ ∀ v ∈ rest, ∃ k, NestedIs s.heap k v) _ ?_ ?_ _ _ ⟨rfl, fun v hv => ?_⟩
      · rintro v rest r s' ⟨rfl, hh⟩
        obtain ⟨k, hk⟩ := hh v List.mem_cons_self
        refine wpAny_bind (ih k v hk _ fun b => ?_)
        cases b with
        | true =>
          simp only [Bool.not_true, Bool.false_eq_true, if_false]
          exact wpAny_pure ⟨rfl, fun u hu => hh u (List.mem_cons_of_mem _ hu)⟩
        | false =>
          simp only [Bool.not_false, if_true]
          exact wpAny_pure (by
            first
              | exact wpAny_pure (q _)
              | exact ⟨rfl, fun u hu => hh u (List.mem_cons_of_mem _ hu)⟩
              | exact q _)
      · rintro ⟨r1, r2⟩ s' ⟨rfl, _⟩
        cases r1 with
        | none => exact wpAny_pure (q _)
        | some z => exact wpAny_pure (q _)
      · obtain ⟨k, hk, z⟩ := all_mem hall v hv
        exact ⟨k, z⟩
abbrev IsN (P : Program) (w : World) (h : Heap) (k : NestedKey) (a : Addr) : Prop := (nestedKind P w).is h k a
abbrev KA := Addr × NestedKey
/-- a search among such members shows nothing -/
theorem unseen {k : NestedKey} {b : Addr} {Q : Bool → Shared → Prop} (hk : IsN P w s.heap k b) {ys : List Value} (hy : ∀ y ∈ ys, ∃ k' c, y = Value.ref c ∧ IsN P w s.heap k' c) (h : Q false s) :
    wpAny (model P w) A (searchCouldBeSeen (.ref b) ys) Q E s := by
  unfold searchCouldBeSeen
  refine wpAny_bind (wpAny_forIn_list _ (fun rest r s' => r.1 = none ∧ s' = s ∧ ∀ y ∈ rest, ∃ k' c, y = Value.ref c ∧ IsN P w s.heap k' c) _ ?_ ?_ _ _ ⟨rfl, rfl, hy⟩)
  · rintro v rest r s' ⟨hr, e, hall⟩
    subst e
    obtain ⟨k', c, rfl, hc⟩ := hall v List.mem_cons_self
    have more := fun u (hu : u ∈ rest) => hall u (List.mem_cons_of_mem _ hu)
    dsimp only
    by_cases hv : (b == c || (carriedByValue (.ref b) && carriedByValue (.ref c))) = true
    · exact wp_if_pos hv (wpAny_pure ⟨rfl, rfl, more⟩)
    · refine wp_if_neg hv (wpAny_bind ((nestedKind P w).quiet hk ?_))
      simp only [Bool.not_true, Bool.false_eq_true, if_false]
      refine wpAny_bind ((nestedKind P w).quiet hc ?_)
      simp only [Bool.not_true, Bool.false_eq_true, if_false]
      refine wpAny_bind (ofCls 8 k _ hk.1 hk.2 _ ?_)
      simp only [Bool.false_eq_true, if_false]
      refine wpAny_bind (ofCls 8 k' _ hc.1 hc.2 _ ?_)
      simp only [Bool.false_eq_true, if_false]
      exact wpAny_pure ⟨rfl, rfl, more⟩
  · rintro ⟨r1, r2⟩ s' ⟨hr, e, _⟩
    subst e
    simp only at hr
    subst hr
    exact wpAny_pure h

/-! ### the set: L its members in the table's order -/
def rowsN (w : World) (L : List KA) : List (Int × Value) := L.map fun p => (p.2.hash w, Value.ref p.1)
theorem rowsN_length (L : List KA) : (rowsN w L).length = L.length := List.length_map _
structure SetN (P : Program) (w : World) (h : Heap) (a : Addr) (L : List KA) (es : Array (Int × Value)) (ep : Nat) (t : SetTable) : Prop where
  ob : ∃ o, h.get? a = some o ∧ o.ExactSet ∧ o.data = .set es ep t
  rows : es.toList = rowsN w L
  tab : TabOk t (L.map fun p => p.2.hash w)
  nd : (L.map (·.2)).Nodup
  keys : ∀ p ∈ L, IsN P w h p.2 p.1
  led : w.params.followText "set-order" = true ∨ t.led = true
  room : L.length * 5 < t.mask * 3
  few : L.length < 64
variable {a : Addr} {L : List KA} {es : Array (Int × Value)} {ep : Nat} {t : SetTable}
theorem size_of (h : es.toList = rowsN w L) : es.size = L.length := by
  rw [← rowsN_length (w := w), ← h, Array.length_toList]
theorem SetN.size (R : SetN P w s.heap a L es ep t) : es.size = L.length := size_of R.rows
theorem fits_of {hs : List Int} (T : TabOk t hs) (he : es.size = hs.length) (hr : hs.length ≤ t.mask) : t.fits es.size = true := by
  have h1 := T.sz
  unfold SetTable.fits SetTable.fill
  rw [T.dm, Bool.and_eq_true, beq_iff_eq, decide_eq_true_eq]
  show t.place.size = es.size ∧ t.place.size + 0 ≤ t.mask
  omega
theorem SetN.fits (R : SetN P w s.heap a L es ep t) : t.fits es.size = true := by
  have hr := R.room
  exact fits_of R.tab (by rw [R.size, List.length_map]) (by rw [List.length_map]; omega)
theorem SetN.entry (R : SetN P w s.heap a L es ep t) {i : Nat} {p : KA} (h : L[i]? = some p) : es[i]? = some (p.2.hash w, Value.ref p.1) := by
  rw [← Array.getElem?_toList, R.rows, rowsN, List.getElem?_map, h]
  rfl
theorem SetN.noGw (R : SetN P w s.heap a L es ep t) : ¬ t.gaveWay = true := by
  unfold SetTable.gaveWay
  rw [mask_odd R.tab.mok]
  decide
abbrev begins (t : SetTable) (h : Int) : SetTable.Probe := runAt t.mask (SetTable.bits h % (t.mask + 1)) (SetTable.bits h)
theorem no_dummy (m : Nat) : ∀ (n : Nat) (p : SetTable.Probe), p.dummy = none → (nth m p n).dummy = none
  | 0, p, h => h
  | n + 1, p, h => no_dummy m n (adv m p) (by unfold adv; split <;> exact h)
/-- the search, from the c-th step of the way on -/
theorem search_on (R : SetN P w s.heap a L es ep t) {x : Addr} {k : NestedKey} (hx : IsN P w s.heap k x) (hu : A.units + 8 < cLine) {n : Nat} (hn : n < 10 * SetTable.turns t.mask)
    (free : way t.mask (k.hash w) n ∉ t.place.toList) (full : ∀ c, c < n → way t.mask (k.hash w) c ∈ t.place.toList) {Q : SetFound → Shared → Prop}
    (hin : k ∈ L.map (·.2) → Q (.there none) s) (hout : k ∉ L.map (·.2) → Q (.free (way t.mask (k.hash w) n) false) s) :
    ∀ (f c : Nat) (stand : Option SetTable.Probe), stand.getD (t.probeStart (k.hash w)) = nth t.mask (begins t (k.hash w)) c → c ≤ n → n - c < f →
      (∀ (i : Nat) p, L[i]? = some p → p.2 = k → ∃ c', c ≤ c' ∧ c' < n ∧ t.place.toList[i]? = some (way t.mask (k.hash w) c')) →
      wpAny (model P w) A (setSearchFrom a (.ref x) (k.hash w) true f stand) Q E s := by
  obtain ⟨o, ho, hex, hd⟩ := R.ob
  intro f
  induction f with
  | zero => exact fun c stand _ _ h => absurd h (Nat.not_lt_zero _)
  | succ f ih =>
    intro c stand hst hc hf ahead
    rw [setSearchFrom_succ]
    refine wpAny_bind (wpAny_setState_of ho hd R.fits ?_)
    dsimp only
    refine wp_if_neg R.noGw ?_
    try refine wpAny_bind (wpAny_pure ?_)
    have sh : ∀ q, nth t.mask (nth t.mask (begins t (k.hash w)) c) q = nth t.mask (begins t (k.hash w)) (c + q) := fun q => (nth_add t.mask c (begins t (k.hash w)) q).symm
    have place : ∀ q, (nth t.mask (nth t.mask (begins t (k.hash w)) c) q).j = way t.mask (k.hash w) (c + q) := fun q => congrArg SetTable.Probe.j (sh q)
    have toN : c + (n - c) = n := by omega
    have spec := go_spec t R.tab.ris R.tab.dm (fun i => (es[i]?.map (·.1)).getD 0) (k.hash w) (10 * SetTable.turns t.mask) (n - c) _ (no_dummy _ c _ rfl) (by omega)
      (fun q hq => by rw [place]; exact full _ (by omega)) (by rw [place, toN]; exact free)
    have hashOf : ∀ (i : Nat) p, L[i]? = some p → p.2 = k → (fun i => (es[i]?.map (·.1)).getD 0) i = k.hash w := fun i p hp hk => by
      show (es[i]?.map (·.1)).getD 0 = _
      rw [R.entry hp, ← hk]
      rfl
    rcases spec with ⟨q, i, hq, hi, hh, hno, go⟩ | ⟨hno, go⟩
    · have hpr : t.probe (fun i => (es[i]?.map (·.1)).getD 0) (k.hash w) (stand.getD (t.probeStart (k.hash w))) = some (.candidate (way t.mask (k.hash w) (c + q)) i (nth t.mask (begins t (k.hash w)) (c + (q + 1)))) := by
        rw [hst, ← place, ← sh]
        exact go
      rw [hpr]
      dsimp only
      rw [place] at hi
      have hil : i < L.length := by
        have h1 := (List.getElem?_eq_some_iff.mp hi).1
        rw [Array.length_toList, R.tab.sz, List.length_map] at h1
        exact h1
      obtain ⟨p, hp⟩ : ∃ p, L[i]? = some p := ⟨_, List.getElem?_eq_getElem hil⟩
      have hmem := List.mem_of_getElem? hp
      have hslot : t.slot (way t.mask (k.hash w) (c + q)) = .live i := slot_live R.tab.ris hi
      have rest : wpAny (model P w) A (searchRest a (.ref x) (k.hash w) true f es t (way t.mask (k.hash w) (c + q)) i (nth t.mask (begins t (k.hash w)) (c + (q + 1)))) Q E s := by
        unfold searchRest
        rw [R.entry hp]
        dsimp only
        refine wpAny_bind (wpAny_holding ((nestedKind P w).eqBool hu (R.keys p hmem) hx ?_))
        refine wpAny_bind (wpAny_setState_of ho hd R.fits ?_)
        dsimp only
        by_cases hkk : p.2 = k
        · exact wp_if_pos (by simp [hkk]) (wpAny_pure (hin (List.mem_map.mpr ⟨p, hmem, hkk⟩)))
        · refine wp_if_neg (by simp [hkk]) ?_
          try refine wpAny_bind (wpAny_pure ?_)
          rw [sameMem]
          dsimp only
          simp only [if_true, hslot, R.entry hp]
          refine wpAny_bind (wpAny_isSame_ref_self (wpAny_bind (wpAny_pure ?_)))
          simp only [if_true]
          refine wp_if_neg (by simp [hkk]) ?_
          refine ih (c + (q + 1)) (some (nth t.mask (begins t (k.hash w)) (c + (q + 1)))) rfl (by omega) (by omega) fun i0 p0 h0 hk0 => ?_
          obtain ⟨c', a1, a2, a3⟩ := ahead i0 p0 h0 hk0
          refine ⟨c', ?_, a2, a3⟩
          rcases Nat.lt_trichotomy c' (c + q) with z | z | z
          · exact absurd (hashOf i0 p0 h0 hk0) (hno (c' - c) i0 (by omega) (by rw [place, show c + (c' - c) = c' by omega]; exact a3))
          · exfalso
            rw [z] at a3
            have s0 := slot_live R.tab.ris a3
            rw [hslot] at s0
            injection s0 with s0
            rw [← s0, hp] at h0
            exact hkk ((congrArg Prod.snd (Option.some.inj h0)).trans hk0)
          · omega
      by_cases hl : t.led = true
      · refine wp_if_neg (by simp [hl]) ?_
        try refine wpAny_bind (wpAny_pure ?_)
        exact rest
      · refine wp_if_pos (by simp [hl]) (wpAny_bind (unseen hx (fun y hy => ?_) ?_))
        · obtain ⟨e, he, ee⟩ := List.mem_map.mp hy
          have he1 : e ∈ es ∧ e.1 = k.hash w := by simpa using he
          have he2 : e ∈ es.toList := by simpa using he1.1
          rw [R.rows] at he2
          obtain ⟨p2, hp2, e2⟩ := List.mem_map.mp he2
          exact ⟨p2.2, p2.1, by rw [← ee, ← e2], R.keys p2 hp2⟩
        · refine wp_if_neg (by decide) ?_
          try refine wpAny_bind (wpAny_pure ?_)
          exact rest
    · have hpr : t.probe (fun i => (es[i]?.map (·.1)).getD 0) (k.hash w) (stand.getD (t.probeStart (k.hash w))) = some (.empty (way t.mask (k.hash w) n) none) := by
        have e2 : way t.mask (k.hash w) n = (nth t.mask (nth t.mask (begins t (k.hash w)) c) (n - c)).j := by rw [place, toN]
        rw [hst, e2]
        exact go
      rw [hpr]
      dsimp only
      refine wpAny_pure (hout fun hm => ?_)
      obtain ⟨p0, h0, hk0⟩ := List.mem_map.mp hm
      obtain ⟨i0, hi0⟩ := List.mem_iff_getElem?.mp h0
      obtain ⟨c', a1, a2, a3⟩ := ahead i0 p0 hi0 hk0
      exact absurd (hashOf i0 p0 hi0 hk0) (hno (c' - c) i0 (by omega) (by rw [place, show c + (c' - c) = c' by omega]; exact a3))
theorem turns_few {m : Nat} (h : MaskOk m) : 10 * SetTable.turns m < 100000 := by
  rcases h with e | e | e <;> subst e <;> decide
theorem search (R : SetN P w s.heap a L es ep t) {x : Addr} {k : NestedKey} (hx : IsN P w s.heap k x) (hu : A.units + 8 < cLine) {Q : SetFound → Shared → Prop} (hin : k ∈ L.map (·.2) → Q (.there none) s)
    (hout : ∀ n, k ∉ L.map (·.2) → way t.mask (k.hash w) n ∉ t.place.toList → (∀ c, c < n → way t.mask (k.hash w) c ∈ t.place.toList) → Q (.free (way t.mask (k.hash w) n) false) s) :
    wpAny (model P w) A (setSearch a (.ref x) (k.hash w) true) Q E s := by
  have hr := R.room
  obtain ⟨n, h1, h2, h3⟩ := R.tab.first (by rw [List.length_map]; omega) (k.hash w)
  have hm := turns_few R.tab.mok
  refine search_on R hx hu h1 h2 h3 hin (fun hm => hout n hm h2 h3) 100000 0 none rfl (Nat.zero_le _) (by omega) fun i p hp hk => ?_
  have hi : (L.map fun p => p.2.hash w)[i]? = some (k.hash w) := by rw [List.getElem?_map, hp, ← hk]; rfl
  have hlt : i < t.place.toList.length := by
    rw [Array.length_toList, R.tab.sz]
    exact (List.getElem?_eq_some_iff.mp hi).1
  obtain ⟨c', z, e⟩ := R.tab.before h2 hi (List.getElem?_eq_getElem hlt)
  exact ⟨c', Nat.zero_le _, z, by rw [e]; exact List.getElem?_eq_getElem hlt⟩
end
end S

set_option Elab.async false
set_option linter.all false
set_option maxRecDepth 100000
set_option maxHeartbeats 4000000
/-! S2: adding to a set of nested tuples; set(xs). -/
namespace S
open PySem PySem.Spec PyProof.Rows L2
section
variable {P : Program} {w : World} {A : Around} {E : Value → Shared → Prop} {s : Shared} {a : Addr} {L : List KA} {es : Array (Int × Value)} {ep : Nat} {t : SetTable}
theorem isN_stay {h h' : Heap} {k : NestedKey} {b : Addr} (x : IsN P w h k b) (hk : ∀ c o vs n, h.get? c = some o → o.data = .seq vs n → h'.get? c = some o) : IsN P w h' k b := ⟨NestedIs.at hk _ _ x.1, x.2⟩
theorem isN_keep {h h' : Heap} {k : NestedKey} {b : Addr} (x : IsN P w h k b) (hk : ∀ c o, h.get? c = some o → h'.get? c = some o) : IsN P w h' k b := isN_stay x fun c o _ _ e _ => hk c o e
theorem isN_but {h h' : Heap} {k : NestedKey} {b : Addr} {o : Obj} (x : IsN P w h k b) (ho : h.get? a = some o) (hd : o.data = .set es ep t) (sb : Heap.SameBut a h h') : IsN P w h' k b := isN_stay x fun c o' vs n e hs => by
  refine (sb.2 c fun z => ?_).trans e
  subst z
  rw [ho] at e
  cases e
  rw [hd] at hs
  cases hs
/-- the rows in the order that a relay gives -/
theorem rows_order (order : List Nat) (hb : ∀ i ∈ order, i < L.length) (hr : es.toList = rowsN w L) :
    order.filterMap (es[·]?) = rowsN w (order.filterMap (L[·]?)) ∧ ((order.filterMap (L[·]?)).map fun p => p.2.hash w) = order.map fun i => (es.map (·.1)).getD i 0 := by
  induction order with
  | nil => exact ⟨rfl, rfl⟩
  | cons i r ih =>
    obtain ⟨h1, h2⟩ := ih fun j hj => hb j (List.mem_cons_of_mem _ hj)
    have hi := hb i List.mem_cons_self
    have e1 : L[i]? = some L[i] := List.getElem?_eq_getElem hi
    have e2 : es[i]? = some (L[i].2.hash w, Value.ref L[i].1) := by
      rw [← Array.getElem?_toList, hr, rowsN, List.getElem?_map, e1]; rfl
    rw [List.filterMap_cons, List.filterMap_cons, e1, e2]
    refine ⟨?_, ?_⟩
    · show _ :: _ = rowsN w (L[i] :: _)
      rw [h1]; rfl
    · rw [List.map_cons, List.map_cons, h2]
      refine congrArg (· :: _) ?_
      rw [Array.getD_eq_getD_getElem?, Array.getElem?_map, e2]
      rfl
theorem filterMap_range {α : Type} (L : List α) : (List.range L.length).filterMap (L[·]?) = L := by
  have key : ∀ n, n ≤ L.length → (List.range n).filterMap (L[·]?) = L.take n := by
    intro n hn
    induction n with
    | zero => rfl
    | succ n ih =>
      have hlt : n < L.length := hn
      rw [List.range_succ, List.filterMap_append, ih (by omega), List.take_add_one, List.getElem?_eq_getElem hlt, List.filterMap_cons, List.getElem?_eq_getElem hlt]
      rfl
  rw [key _ (Nat.le_refl _), List.take_length]
theorem relay_n {o : Obj} (ho : s.heap.get? a = some o) (hex : o.ExactSet) (hd : o.data = .set es ep t) (hrows : es.toList = rowsN w L) (hfit : t.fits es.size = true) (nd : (L.map (·.2)).Nodup) (keys : ∀ p ∈ L, IsN P w s.heap p.2 p.1)
    (ld : w.params.followText "set-order" = true ∨ t.led = true) (few : L.length < 64) {wanted M : Nat} (hw : SetTable.sizeAbove wanted - 1 = M) (hM : MaskOk M) (hn : L.length * 5 < M * 3) {Q : Unit → Shared → Prop}
    (hQ : ∀ h' L' es' ep' t', Heap.SameBut a s.heap h' → SetN P w h' a L' es' ep' t' → L'.Perm L → Q () { s with heap := h' }) : wpAny (model P w) A (setRelay a wanted) Q E s := by
  have hsl := size_of hrows
  obtain ⟨t', order, e, hp, T, em, el, _, ed⟩ := relaid_ok t (hs := es.map (·.1)) hw hM (by rw [Array.size_map, hsl]; omega)
  rw [Array.size_map, hsl] at hp
  have hb : ∀ i ∈ order.toList, i < L.length := fun i hi => List.mem_range.mp (hp.mem_iff.mp hi)
  obtain ⟨r1, r2⟩ := rows_order order.toList hb hrows
  have pm : (order.toList.filterMap (L[·]?)).Perm L := by
    have z := hp.filterMap (L[·]?)
    rw [filterMap_range] at z
    exact z
  generalize hL2 : order.toList.filterMap (L[·]?) = L2 at r1 r2 pm
  rw [← r2] at T
  have r1' : (order.filterMap (es[·]?)).toList = rowsN w L2 := by rw [← r1, Array.toList_filterMap]
  have hs2 : (order.filterMap (es[·]?)).size = es.size := by rw [size_of r1', pm.length_eq, hsl]
  have small : SetTable.sizeAbove wanted ≤ 128 := by rcases hM with z | z | z <;> omega
  rw [setRelay_eq]
  refine wpAny_bind (wpAny_setState_of ho hd hfit ?_)
  dsimp only
  refine wp_if_neg (by rw [sizeLine_eq]; omega) ?_
  try refine wpAny_bind (wpAny_pure ?_)
  rw [e]
  dsimp only
  refine wpAny_bind (wp_if_neg (by rw [hs2]; simp) ?_)
  try refine wpAny_bind (wpAny_pure ?_)
  refine wpAny_pure ?_
  dsimp only
  refine wpAny_storeSet_of ho hd ?_ (by rw [hs2, hsl, sizeLine_eq]; omega)
  have sb : Heap.SameBut a s.heap (s.heap.update a (Obj.putSet (order.filterMap (es[·]?)) t')) := Heap.SameBut.update ..
  refine hQ _ L2 _ (ep + 1) t' sb ⟨⟨_, store_at ho hd, ⟨hex.1, hex.2.1, hex.2.2⟩, rfl⟩, r1', T, (pm.map (·.2)).nodup_iff.mpr nd, fun p hpm => isN_but (keys p (pm.mem_iff.mp hpm)) ho hd sb, by rw [el]; exact ld, ?_, by rw [pm.length_eq]; exact few⟩ pm
  rw [pm.length_eq, em]
  exact hn
theorem add_n (R : SetN P w s.heap a L es ep t) {x : Addr} {k : NestedKey} (hx : IsN P w s.heap k x) (hu : A.units + 8 < cLine) (hfew : L.length + 1 < 64) {Q : Bool → Shared → Prop}
    (hQ : ∀ b h' L' es' ep' t', Heap.SameBut a s.heap h' → SetN P w h' a L' es' ep' t' → (k ∈ L.map (·.2) → L' = L) → (k ∉ L.map (·.2) → L'.Perm ((x, k) :: L)) → Q b { s with heap := h' }) :
    wpAny (model P w) A (setAddHashed a (.ref x) (k.hash w)) Q E s := by
  obtain ⟨o, ho, hex, hd⟩ := R.ob
  have hsl := R.size
  have hroom := R.room
  unfold setAddHashed
  refine wpAny_holding ?_
  rw [show (100000 : Nat) = 99999 + 1 from rfl, setAddHashedIn_succ]
  refine wpAny_bind (wpAny_setState_of ho hd R.fits ?_)
  dsimp only
  refine wp_if_neg (by simp [byScan, Value.scannable]) ?_
  try refine wpAny_bind (wpAny_pure ?_)
  refine wpAny_bind (search R hx hu (fun hm => ?_) fun n hm hK hb => ?_)
  · dsimp only
    exact wpAny_pure (hQ false s.heap L es ep t (Heap.SameBut.refl a s.heap) R (fun _ => rfl) fun z => absurd hm z)
  · dsimp only
    refine wpAny_bind (wpAny_setState_of ho hd R.fits ?_)
    dsimp only
    obtain ⟨q1, q2, q3, q4, q5, q6, q7, q8, q9⟩ := R.tab.put hK hb
    generalize hpt : t.put (way t.mask (k.hash w) n) = pt at q1 q3 q4 q5 q6 q7 q8 q9 ⊢
    obtain ⟨t1, p⟩ := pt
    dsimp only at q1 q3 q4 q5 q6 q7 q8 q9 ⊢
    subst q1
    -- whichever answer the look at the hash gives, the table is the same but for one mark
    have go : ∀ t2 : SetTable, t2.mask = t1.mask → t2.led = t1.led → t2.place = t1.place → t2.dummies = t1.dummies →
        wpAny (model P w) A (do storeSet a (SetTable.insertAt es (SetTable.below t.place (way t.mask (k.hash w) n)) (k.hash w, Value.ref x)) t2
                                if (!false && t2.tooFull) = true then setRelay a (SetTable.grown (es.size + 1))
                                return true) Q E s := by
      intro t2 m1 m2 m3 m4
      have T2 : TabOk t2 ((L.map fun p => p.2.hash w).take (SetTable.below t.place (way t.mask (k.hash w) n)) ++ k.hash w :: (L.map fun p => p.2.hash w).drop (SetTable.below t.place (way t.mask (k.hash w) n))) :=
        ⟨by rw [m3]; exact q3.ris, by rw [m4]; exact q3.dm, by rw [m3]; exact q3.sz, by rw [m1]; exact q3.mok, by rw [m3, m1]; exact q3.bd, by rw [m3, m1]; exact q3.reach⟩
      have hfill : t2.fill = L.length + 1 := by
        have z := q9
        rw [List.length_map] at z
        unfold SetTable.fill at z ⊢
        rw [m3, m4]; exact z
      generalize hpp : SetTable.below t.place (way t.mask (k.hash w) n) = p at q2 T2
      have pm : (L.take p ++ (x, k) :: L.drop p).Perm ((x, k) :: L) := by
        have z := List.perm_middle (a := (x, k)) (l₁ := L.take p) (l₂ := L.drop p)
        rw [List.take_append_drop] at z
        exact z
      have hin : (SetTable.insertAt es p (k.hash w, Value.ref x)).toList = rowsN w (L.take p ++ (x, k) :: L.drop p) := by
        rw [SetTable.toList_insertAt, R.rows]
        unfold rowsN
        rw [List.map_append, List.map_cons, List.map_take, List.map_drop]
      have hhs : (L.take p ++ (x, k) :: L.drop p).map (fun p => p.2.hash w) = (L.map fun p => p.2.hash w).take p ++ k.hash w :: (L.map fun p => p.2.hash w).drop p := by
        rw [List.map_append, List.map_cons, List.map_take, List.map_drop]
      rw [← hhs] at T2
      have nd1 : ((L.take p ++ (x, k) :: L.drop p).map (·.2)).Nodup := by
        refine (pm.map (·.2)).nodup_iff.mpr ?_
        rw [List.map_cons]
        exact List.nodup_cons.mpr ⟨hm, R.nd⟩
      have hlen := pm.length_eq
      rw [List.length_cons] at hlen
      have hes := size_of hin
      rw [hlen] at hes
      generalize SetTable.insertAt es p (k.hash w, Value.ref x) = es1 at hin hes ⊢
      generalize L.take p ++ (x, k) :: L.drop p = L1 at pm hlen T2 nd1 hin
      refine wpAny_bind (wpAny_storeSet_of ho hd ?_ (by rw [hes, sizeLine_eq]; omega))
      have sb : Heap.SameBut a s.heap (s.heap.update a (Obj.putSet es1 t2)) := Heap.SameBut.update ..
      have ho1 := store_at (es' := es1) (t' := t2) ho hd
      generalize s.heap.update a (Obj.putSet es1 t2) = h1 at sb ho1 ⊢
      have keys1 : ∀ p ∈ L1, IsN P w h1 p.2 p.1 := fun p hp => by
        rcases List.mem_cons.mp (pm.mem_iff.mp hp) with e | hp
        · rw [e]; exact isN_but hx ho hd sb
        · exact isN_but (R.keys p hp) ho hd sb
      have ld1 : w.params.followText "set-order" = true ∨ t2.led = true := by rw [m2, q5]; exact R.led
      by_cases hf : t2.tooFull = true
      · have hfull : (L.length + 1) * 5 ≥ t2.mask * 3 := by
          have h := hf
          unfold SetTable.tooFull at h
          rw [decide_eq_true_eq, hfill] at h
          exact h
        have two : ∃ M, SetTable.sizeAbove (SetTable.grown (L.length + 1)) - 1 = M ∧ MaskOk M ∧ (L.length + 1) * 5 < M * 3 ∧ L.length + 1 ≤ t2.mask := by
          rw [m1, q4] at hfull
          rw [m1, q4]
          rcases R.tab.mok with e | e | e
          · rw [e] at hfull hroom ⊢
            have e2 : L.length = 4 := by omega
            rw [e2]; exact ⟨31, by rw [show 4 + 1 = 5 from rfl, size_20], .inr (.inl rfl), by omega, by omega⟩
          · rw [e] at hfull hroom ⊢
            have e2 : L.length = 18 := by omega
            rw [e2]; exact ⟨127, by rw [show 18 + 1 = 19 from rfl, size_76], .inr (.inr rfl), by omega, by omega⟩
          · exfalso; rw [e] at hfull; omega
        obtain ⟨M, w1, w2, w3, w4⟩ := two
        refine wp_if_pos (by rw [hf]; rfl) (wpAny_bind ?_)
        rw [hsl]
        refine relay_n (s := { s with heap := h1 }) ho1 ⟨hex.1, hex.2.1, hex.2.2⟩ rfl hin (fits_of T2 (by rw [hes, List.length_map, hlen]) (by rw [List.length_map, hlen]; exact w4)) nd1 keys1 ld1 (by rw [hlen]; exact hfew) w1 w2 (by rw [hlen]; exact w3)
          fun h2 L2 es2 ep2 t2 sb2 R2 pm2 => wpAny_pure (hQ true h2 L2 es2 ep2 t2 (sb.trans sb2) R2 (fun z => absurd z hm) fun _ => pm2.trans pm)
      · refine wp_if_neg (fun z => hf z) ?_
        refine wpAny_pure (hQ true h1 L1 es1 (ep + 1) t2 sb ⟨⟨_, ho1, ⟨hex.1, hex.2.1, hex.2.2⟩, rfl⟩, hin, T2, nd1, keys1, ld1, ?_, by rw [hlen]; exact hfew⟩ (fun z => absurd z hm) fun _ => pm)
        have h := hf
        unfold SetTable.tooFull at h
        rw [decide_eq_true_eq, hfill] at h
        rw [hlen]
        omega
    cases hpl : t1.plain with
    | true =>
      refine wpAny_bind (hashBy 8 k _ hx.1 _ fun b => ?_)
      cases b with
      | true => simp only [if_true]; exact go t1 rfl rfl rfl rfl
      | false => simp only [Bool.false_eq_true, if_false]; exact go { t1 with plain := false } rfl rfl rfl rfl
    | false =>
      refine wpAny_bind (wpAny_pure ?_)
      exact go t1 rfl rfl rfl rfl
end
end S

set_option Elab.async false
set_option linter.all false
set_option maxRecDepth 100000
set_option maxHeartbeats 8000000
/-! S3: set(xs) of a list or a tuple, by what holds of the set behind each item. -/
namespace S
open PySem PySem.Spec PyProof.Rows L2
section
variable {P : Program} {w : World} {A : Around} {E : Value → Shared → Prop} {s : Shared}
def newSetO (w : World) : Obj := { cls := .type "set", dict := none, data := .set #[] 0 (.fresh 0 0 (!w.params.followText "set-order")) }
abbrev Kept (h0 h : Heap) : Prop := ∀ b o, h0.get? b = some o → h.get? b = some o
/-- I i: what holds of the set at S behind i items -/
structure Adds (P : Program) (w : World) (A : Around) (S : Addr) (h0 : Heap) (items : Array Value) (I : Nat → Heap → Prop) : Prop where
  zero : ∀ h, h.get? S = some (newSetO w) → Kept h0 h → I 0 h
  keep : ∀ i h h', I i h → (∀ o, h.get? S = some o → h'.get? S = some o) → Kept h0 h' → I i h'
  add : ∀ i v (s : Shared) (Q : Bool → Shared → Prop) (E : Value → Shared → Prop), items[i]? = some v → I i s.heap → Kept h0 s.heap →
    (∀ b h' tk, s.toks ≤ tk → Heap.SameBut S s.heap h' → I (i + 1) h' → Q b { s with heap := h', toks := tk }) → wpAny (model P w) A (setAdd S v) Q E s
theorem Adds.loop {S : Addr} {h0 : Heap} {items : Array Value} {J : Nat → Heap → Prop} {I : Addr} {fp wr : List Addr} {G : Array GenState → Array GenState → Prop} {n : Nat} {Pv : Nat → Value → Prop} {St : Nat → Shared → Prop} {R : Result → Shared → Prop}
    (D : Adds P w A.in1 S h0 items J) (W : WalksS P w A.in1 I fp wr G n Pv St) (hSf : S ∉ fp) (hval : ∀ i v, Pv i v → items[i]? = some v) (hS0 : h0.get? S = none) (hw0 : ∀ b ∈ wr, h0.get? b = none) :
    ∀ (k i : Nat) (s : Shared), n - i = k → i ≤ n → St i s → Kept h0 s.heap → J i s.heap →
      (∀ s', Moved (S :: wr) G s s' → J n s'.heap → Kept h0 s'.heap → R (.ok (.ret .none)) s') → codeAny (model P w) A (.builtin "set.update.loop" ⟨[.ref S, .ref I], []⟩) R s := by
  have hSw : S ∉ wr := fun h => hSf (W.sub _ h)
  have wide : ∀ b ∈ wr, b ∈ S :: wr := fun b hb => List.mem_cons_of_mem _ hb
  have kept : ∀ {s s' : Shared}, Moved wr G s s' → Kept h0 s.heap → Kept h0 s'.heap := fun hm hk b o e => hm.heap b o (fun hb => by rw [hw0 b hb] at e; cases e) (hk b o e)
  intro k
  induction k with
  | zero =>
    intro i s hk hi hst hkp hJ hR
    obtain rfl : i = n := by omega
    refine codeAny_builtin F.entry_set_update_loop ?_
    rw [Around.under_plainId F.plain_set_update_loop _]
    show wpAny _ A.in1 (pyNext (.ref I) >>= _) _ _ s
    refine wpAny_bind (W.done s _ _ hst fun s' hm => ?_)
    show wpAny _ A.in1 (ret Value.none) _ _ s'
    exact wpAny_pure (hR s' (hm.mono wide) (D.keep i _ _ hJ (fun o e => hm.heap S o hSw e) (kept hm hkp)) (kept hm hkp))
  | succ k ih =>
    intro i s hk hi hst hkp hJ hR
    have hlt : i < n := by omega
    refine codeAny_builtin F.entry_set_update_loop ?_
    rw [Around.under_plainId F.plain_set_update_loop _]
    show wpAny _ A.in1 (pyNext (.ref I) >>= _) _ _ s
    refine wpAny_bind (W.item i s _ _ hlt hst fun v s' hP hst' hm => ?_)
    show wpAny _ A.in1 (holding [v] (setAdd S v) >>= _) _ _ s'
    refine wpAny_bind (wpAny_holding (D.add i v s' _ _ (hval i v hP) (D.keep i _ _ hJ (fun o e => hm.heap S o hSw e) (kept hm hkp)) (kept hm hkp) fun b h' tk htk sb hJ' => ?_))
    have hkp2 : Kept h0 h' := fun b o e => (sb.2 b (fun z => by rw [z, hS0] at e; cases e)).trans (kept hm hkp b o e)
    refine wpAny_pure ⟨plainId_quiet F.plain_set_update_loop _, ih (i + 1) _ (by omega) hlt (W.frame _ s' _ _ hst' htk fun b hb o e => ?_) hkp2 hJ' fun s'' hm'' hJ'' hk'' => ?_⟩
    · rw [sb.2 b (fun h : b = S => hSf (by rw [← h]; exact hb))]; exact e
    · refine hR s'' (Moved.trans W.gtrans ((hm.mono wide).then_heap htk fun b o hb e => ?_) hm'') hJ'' hk''
      rw [sb.2 b (fun h : b = S => hb (by rw [h]; exact List.mem_cons_self))]; exact e
set_option maxHeartbeats 16000000 in
theorem call_set_list {l : Addr} {items : Array Value} {J : Nat → Heap → Prop} {Q : Value → Shared → Prop} (hh : A.handled = none) (hl : s.heap.IsList l items) (D : Adds P w A.in1.in1.in1 s.heap.objs.size s.heap items J)
    (h : ∀ (h' : Heap) (tk : Nat), J items.size h' → Kept s.heap h' → Q (.ref s.heap.objs.size) { s with heap := h', toks := tk }) : wpAny (model P w) A (call (.type "set") [.ref l]) Q E s := by
  have hmade := F.called_set.made
  have hsub := F.called_set.sub
  obtain ⟨c, tl, hmro⟩ := F.called_set.mro
  refine wpAny_call (codeAny_of_tree ?_)
  show wpAny _ _ (callAny (.type "set") _) _ _ _
  refine wpAny_pure ⟨Code.quiet_builtin _ (by decide +kernel), codeAny_builtin F.entry_type_call ?_⟩
  rw [Around.under_plain (weight_type_call_type "set" [.ref l] []) rfl]
  have h1 := F.called_set.notType
  have h2 := F.called_set.canCreate
  have hct := F.typeCall_set_1 (.ref l)
  repeat (any_goals (first | assumption | wp_step))
  refine codeAny_mono (code_set_led1 (.ref l) (E := E) (Q₁ := fun obj s₁ => obj = .ref s.heap.objs.size ∧ s₁ = { s with heap := s.heap.push (newSetO w) }) ⟨rfl, rfl⟩) fun r s₁ hr => ?_
  match r, hr with
  | .error e, hr => exact hr
  | .ok .next, hr => exact hr.elim
  | .ok .brk, hr => exact hr.elim
  | .ok .cont, hr => exact hr.elim
  | .ok (.ret obj), hr =>
    obtain ⟨rfl, rfl⟩ := hr
    have hS : (s.heap.push (newSetO w)).get? s.heap.objs.size = some (newSetO w) := Heap.get?_push_size _ rfl
    have hT : Shared.TypeIs { s with heap := s.heap.push (newSetO w) } (.ref s.heap.objs.size) "set" := ⟨_, hS, rfl⟩
    have hli := F.called_set.init.lookup
    have hbi := F.called_set.init.bind (.ref s.heap.objs.size)
    repeat (any_goals (first | assumption | wp_step))
    refine codeAny_mono (codeAny_call_builtin (R := wants (fun r s₂ => r = .none ∧ ∃ h' tk, s₂ = { s with heap := h', toks := tk } ∧ J items.size h' ∧ Kept s.heap h') E) F.called_set.init.plain F.entry_set_init (check_set_init_1 hT ?_)) fun r₂ s₂ hr₂ => ?_
    · obtain ⟨ol, hol, hcl, nl, hdl⟩ := hl
      obtain ⟨ocls, odict, odata, oslots⟩ := ol
      simp only at hcl hdl
      subst hcl; subst hdl
      have hol' : (s.heap.push (newSetO w)).get? l = some { cls := .type "list", dict := odict, data := .seq items nl, slots := oslots } := Heap.get?_push_of_some _ hol
      have hsls := F.sub_list_set
      have hslf := F.sub_list_frozenset
      have hne : (Value.type "list" == Value.type "dict") = false := by decide
      have hl1 : (s.heap.push (newSetO w)).IsList l items := ⟨_, hol', rfl, nl, rfl⟩
      unfold Builtin.«set.__init__» noKeywords Builtin.Frozenset.updateFrom
      generalize hPI : pyIter = PI
      wp_walk
      subst hPI
      refine wpAny_pyIter_list hl1 ?_
      refine wpAny_bind (wpAny_runValue ?_)
      have hlS : l < s.heap.objs.size := Heap.lt_size hol
      have hh3 : A.in1.in1.in1.handled = none := by simp [hh]
      have none_of : ∀ b, s.heap.objs.size ≤ b → s.heap.get? b = none := fun b hb => by
        cases q : s.heap.get? b with
        | none => rfl
        | some o => exact absurd (Nat.lt_of_lt_of_le (Heap.lt_size q) hb) (Nat.lt_irrefl _)
      have hneI : l ≠ (s.heap.push (newSetO w)).objs.size := by
        rw [Heap.size_push]; exact Nat.ne_of_lt (Nat.lt_succ_of_lt hlS)
      have hSf : s.heap.objs.size ∉ [(s.heap.push (newSetO w)).objs.size, l] := by
        rw [Heap.size_push]; simp only [List.mem_cons, List.mem_singleton, List.not_mem_nil, or_false, not_or]
        exact ⟨Nat.ne_of_lt (Nat.lt_succ_self _), Nat.ne_of_gt hlS⟩
      have kp : Kept s.heap ((s.heap.push (newSetO w)).push { cls := .type "list_iterator", data := .fields #[.ref l, .int 0 0] }) := fun b o e => Heap.get?_push_of_some _ (Heap.get?_push_of_some _ e)
      refine D.loop (I := (s.heap.push (newSetO w)).objs.size) ((Walks.list (prog := P) (w := w) hh3 (s.heap.push (newSetO w)).objs.size l hneI items).toS) hSf (fun i v hv => hv) (none_of _ (Nat.le_refl _)) (fun b hb => none_of b (by
          rw [List.mem_singleton.mp hb, Heap.size_push]
          exact Nat.le_succ _)) (items.size - 0) 0 _ (by omega) (Nat.zero_le _) ⟨⟨_, Heap.get?_push_size _ rfl, rfl, rfl⟩, (hl1.push _)⟩ kp (D.zero _ (Heap.get?_push_of_some _ hS) kp) ?hR
      case hR =>
        intro s' hm hJ' hk'
        obtain ⟨h', g2, d', tk', os'⟩ := s'
        have eg : g2 = s.gens := hm.gens
        have ed : d' = s.drawn := hm.drawn
        have eo : os' = s.os := hm.os
        subst eg; subst ed; subst eo
        show wpAny _ _ _ _ _ _
        refine wpAny_pure ?_
        show wpAny _ _ (ret Value.none) _ _ _
        exact wpAny_pure ⟨rfl, h', tk', rfl, hJ', hk'⟩
    · match r₂, hr₂ with
      | .error e, hr₂ => exact hr₂
      | .ok .next, hr₂ => exact hr₂.elim
      | .ok .brk, hr₂ => exact hr₂.elim
      | .ok .cont, hr₂ => exact hr₂.elim
      | .ok (.ret r), hr₂ =>
        obtain ⟨rfl, h', tk, rfl, hJ', hk'⟩ := hr₂
        repeat (any_goals (first | assumption | wp_step))
        exact h _ _ hJ' hk'
set_option maxHeartbeats 16000000 in
theorem call_set_tuple {l : Addr} {items : Array Value} {J : Nat → Heap → Prop} {Q : Value → Shared → Prop} (hh : A.handled = none) (hl : s.heap.IsTuple l items) (D : Adds P w A.in1.in1.in1 s.heap.objs.size s.heap items J)
    (h : ∀ (h' : Heap) (tk : Nat), J items.size h' → Kept s.heap h' → Q (.ref s.heap.objs.size) { s with heap := h', toks := tk }) : wpAny (model P w) A (call (.type "set") [.ref l]) Q E s := by
  have hmade := F.called_set.made
  have hsub := F.called_set.sub
  obtain ⟨c, tl, hmro⟩ := F.called_set.mro
  refine wpAny_call (codeAny_of_tree ?_)
  show wpAny _ _ (callAny (.type "set") _) _ _ _
  refine wpAny_pure ⟨Code.quiet_builtin _ (by decide +kernel), codeAny_builtin F.entry_type_call ?_⟩
  rw [Around.under_plain (weight_type_call_type "set" [.ref l] []) rfl]
  have h1 := F.called_set.notType
  have h2 := F.called_set.canCreate
  have hct := F.typeCall_set_1 (.ref l)
  repeat (any_goals (first | assumption | wp_step))
  refine codeAny_mono (code_set_led1 (.ref l) (E := E) (Q₁ := fun obj s₁ => obj = .ref s.heap.objs.size ∧ s₁ = { s with heap := s.heap.push (newSetO w) }) ⟨rfl, rfl⟩) fun r s₁ hr => ?_
  match r, hr with
  | .error e, hr => exact hr
  | .ok .next, hr => exact hr.elim
  | .ok .brk, hr => exact hr.elim
  | .ok .cont, hr => exact hr.elim
  | .ok (.ret obj), hr =>
    obtain ⟨rfl, rfl⟩ := hr
    have hS : (s.heap.push (newSetO w)).get? s.heap.objs.size = some (newSetO w) := Heap.get?_push_size _ rfl
    have hT : Shared.TypeIs { s with heap := s.heap.push (newSetO w) } (.ref s.heap.objs.size) "set" := ⟨_, hS, rfl⟩
    have hli := F.called_set.init.lookup
    have hbi := F.called_set.init.bind (.ref s.heap.objs.size)
    repeat (any_goals (first | assumption | wp_step))
    refine codeAny_mono (codeAny_call_builtin (R := wants (fun r s₂ => r = .none ∧ ∃ h' tk, s₂ = { s with heap := h', toks := tk } ∧ J items.size h' ∧ Kept s.heap h') E) F.called_set.init.plain F.entry_set_init (check_set_init_1 hT ?_)) fun r₂ s₂ hr₂ => ?_
    · obtain ⟨ol, hol, hcl, nl, hdl⟩ := hl
      obtain ⟨ocls, odict, odata, oslots⟩ := ol
      simp only at hcl hdl
      subst hcl; subst hdl
      have hol' : (s.heap.push (newSetO w)).get? l = some { cls := .type "tuple", dict := odict, data := .seq items nl, slots := oslots } := Heap.get?_push_of_some _ hol
      have hsls := F.sub_tuple_set
      have hslf := F.sub_tuple_frozenset
      have hne : (Value.type "tuple" == Value.type "dict") = false := by decide
      have hl1 : (s.heap.push (newSetO w)).IsTuple l items := ⟨_, hol', rfl, nl, rfl⟩
      unfold Builtin.«set.__init__» noKeywords Builtin.Frozenset.updateFrom
      generalize hPI : pyIter = PI
      wp_walk
      subst hPI
      refine wpAny_pyIter_tuple hl1 ?_
      refine wpAny_bind (wpAny_runValue ?_)
      have hlS : l < s.heap.objs.size := Heap.lt_size hol
      have hh3 : A.in1.in1.in1.handled = none := by simp [hh]
      have none_of : ∀ b, s.heap.objs.size ≤ b → s.heap.get? b = none := fun b hb => by
        cases q : s.heap.get? b with
        | none => rfl
        | some o => exact absurd (Nat.lt_of_lt_of_le (Heap.lt_size q) hb) (Nat.lt_irrefl _)
      have hneI : l ≠ (s.heap.push (newSetO w)).objs.size := by
        rw [Heap.size_push]; exact Nat.ne_of_lt (Nat.lt_succ_of_lt hlS)
      have hSf : s.heap.objs.size ∉ [(s.heap.push (newSetO w)).objs.size, l] := by
        rw [Heap.size_push]; simp only [List.mem_cons, List.mem_singleton, List.not_mem_nil, or_false, not_or]
        exact ⟨Nat.ne_of_lt (Nat.lt_succ_self _), Nat.ne_of_gt hlS⟩
      have kp : Kept s.heap ((s.heap.push (newSetO w)).push { cls := .type "tuple_iterator", data := .fields #[.ref l, .int 0 0] }) := fun b o e => Heap.get?_push_of_some _ (Heap.get?_push_of_some _ e)
      refine D.loop (I := (s.heap.push (newSetO w)).objs.size) ((Walks.tuple (prog := P) (w := w) hh3 (s.heap.push (newSetO w)).objs.size l hneI items).toS) hSf (fun i v hv => hv) (none_of _ (Nat.le_refl _)) (fun b hb => none_of b (by
          rw [List.mem_singleton.mp hb, Heap.size_push]
          exact Nat.le_succ _)) (items.size - 0) 0 _ (by omega) (Nat.zero_le _) ⟨⟨_, Heap.get?_push_size _ rfl, rfl, rfl⟩, (hl1.push _)⟩ kp (D.zero _ (Heap.get?_push_of_some _ hS) kp) ?hR
      case hR =>
        intro s' hm hJ' hk'
        obtain ⟨h', g2, d', tk', os'⟩ := s'
        have eg : g2 = s.gens := hm.gens
        have ed : d' = s.drawn := hm.drawn
        have eo : os' = s.os := hm.os
        subst eg; subst ed; subst eo
        show wpAny _ _ _ _ _ _
        refine wpAny_pure ?_
        show wpAny _ _ (ret Value.none) _ _ _
        exact wpAny_pure ⟨rfl, h', tk', rfl, hJ', hk'⟩
    · match r₂, hr₂ with
      | .error e, hr₂ => exact hr₂
      | .ok .next, hr₂ => exact hr₂.elim
      | .ok .brk, hr₂ => exact hr₂.elim
      | .ok .cont, hr₂ => exact hr₂.elim
      | .ok (.ret r), hr₂ =>
        obtain ⟨rfl, h', tk, rfl, hJ', hk'⟩ := hr₂
        repeat (any_goals (first | assumption | wp_step))
        exact h _ _ hJ' hk'
end
end S

set_option Elab.async false
set_option linter.all false
set_option maxRecDepth 100000
set_option maxHeartbeats 4000000
/-! S4: len(set(xs)): nested tuples (fewer than 64), texts (fewer than 4000). -/
namespace S
open PySem PySem.Spec PyProof.Rows L2
/-- what is in the list, each once -/
def nub {α : Type} [DecidableEq α] : List α → List α
  | [] => []
  | x :: xs => if x ∈ nub xs then nub xs else x :: nub xs
section
variable {α : Type} [DecidableEq α]
theorem mem_nub {x : α} : ∀ {l : List α}, x ∈ nub l ↔ x ∈ l
  | [] => Iff.rfl
  | y :: l => by
    unfold nub
    split
    · rename_i h
      rw [mem_nub (l := l), List.mem_cons]
      exact ⟨Or.inr, fun z => z.elim (fun e => by subst e; exact mem_nub.mp h) id⟩
    · rw [List.mem_cons, List.mem_cons, mem_nub (l := l)]
theorem nub_nodup : ∀ l : List α, (nub l).Nodup
  | [] => List.nodup_nil
  | y :: l => by
    unfold nub
    split
    · exact nub_nodup l
    · rename_i h
      exact List.nodup_cons.mpr ⟨h, nub_nodup l⟩
theorem nub_le : ∀ l : List α, (nub l).length ≤ l.length
  | [] => Nat.le_refl _
  | y :: l => by
    unfold nub
    have := nub_le l
    split
    · rw [List.length_cons]; omega
    · rw [List.length_cons, List.length_cons]; omega
theorem nub_full : ∀ {l : List α}, (nub l).length = l.length ↔ l.Nodup
  | [] => by simp [nub]
  | y :: l => by
    unfold nub
    have h1 := nub_le l
    have h2 := nub_full (l := l)
    rw [List.nodup_cons]
    split
    · rename_i h
      rw [List.length_cons]
      exact ⟨fun e => by omega, fun e => absurd (mem_nub.mp h) e.1⟩
    · rename_i h
      rw [List.length_cons, List.length_cons]
      exact ⟨fun e => ⟨fun z => h (mem_nub.mpr z), h2.mp (by omega)⟩, fun e => by rw [h2.mpr e.2]⟩
theorem len_of_same {l l' : List α} (h : l.Nodup) (h' : l'.Nodup) (e : ∀ x, x ∈ l ↔ x ∈ l') : l.length = l'.length :=
  ((List.perm_ext_iff_of_nodup h h').mpr e).length_eq
theorem nub_map {β : Type} [DecidableEq β] (f : α → β) (hf : ∀ x y, f x = f y → x = y) : ∀ l : List α, nub (l.map f) = (nub l).map f
  | [] => rfl
  | y :: l => by
    have ih := nub_map f hf l
    show (if f y ∈ nub (l.map f) then _ else _) = _
    rw [ih]
    have : f y ∈ (nub l).map f ↔ y ∈ nub l := ⟨fun h => by obtain ⟨z, hz, e⟩ := List.mem_map.mp h; rw [← hf _ _ e]; exact hz, fun h => List.mem_map.mpr ⟨y, h, rfl⟩⟩
    show _ = (if y ∈ nub l then nub l else y :: nub l).map f
    by_cases h : y ∈ nub l
    · rw [if_pos (this.mpr h), if_pos h]
    · rw [if_neg (fun z => h (this.mp z)), if_neg h]; rfl
end
section
variable {P : Program} {w : World} {A : Around} {E : Value → Shared → Prop} {s : Shared}
/-- the set behind i of the keys ks -/
def JN (P : Program) (w : World) (S : Addr) (ks : List KA) (i : Nat) (h : Heap) : Prop := ∃ L es ep t, SetN P w h S L es ep t ∧ L.length ≤ i ∧ (∀ p ∈ L, p ∈ ks) ∧ ∀ k, k ∈ L.map (·.2) ↔ k ∈ (ks.take i).map (·.2)
theorem take_snoc {α : Type} {l : List α} {i : Nat} {x : α} (h : l[i]? = some x) : l.take (i + 1) = l.take i ++ [x] := by rw [List.take_add_one, h]; rfl
theorem adds_n {S : Addr} {h0 : Heap} {ks : List KA} {items : Array Value} (hS : h0.get? S = none) (hit : items.toList = ks.map fun p => Value.ref p.1) (hk : ∀ p ∈ ks, IsN P w h0 p.2 p.1) (few : ks.length < 64) (hu : A.units + 8 < cLine) :
    Adds P w A S h0 items (JN P w S ks) where
  zero := fun h e kp => by
    refine ⟨[], #[], 0, _, ⟨⟨_, e, ⟨rfl, rfl, rfl⟩, rfl⟩, rfl, ⟨List.Pairwise.nil, rfl, rfl, .inl rfl, fun x hx => (by cases hx), fun i h j hi => (by simp at hi)⟩, List.nodup_nil, fun p hp => (by cases hp), ?_, (by show 0 * 5 < 7 * 3; decide), (by show 0 < 64; decide)⟩, Nat.le_refl _, fun p hp => (by cases hp), fun k => (by simp)⟩
    show _ ∨ (!w.params.followText "set-order") = true
    cases w.params.followText "set-order"
    · exact .inr rfl
    · exact .inl rfl
  keep := fun i h h' ⟨L, es, ep, t, R, hl, sub, mem⟩ hs kp => by
    obtain ⟨o, ho, r⟩ := R.ob
    exact ⟨L, es, ep, t, ⟨⟨o, hs o ho, r⟩, R.rows, R.tab, R.nd, fun p hp => isN_keep (hk p (sub p hp)) kp, R.led, R.room, R.few⟩, hl, sub, mem⟩
  add := fun i v s Q E hv ⟨L, es, ep, t, R, hl, sub, mem⟩ kp q => by
    have hv' : items.toList[i]? = some v := by rw [Array.getElem?_toList]; exact hv
    rw [hit, List.getElem?_map] at hv'
    cases hp : ks[i]? with
    | none => rw [hp] at hv'; cases hv'
    | some p =>
      rw [hp] at hv'
      cases hv'
      have hpm := List.mem_of_getElem? hp
      have hx : IsN P w s.heap p.2 p.1 := isN_keep (hk p hpm) kp
      have hlt := (List.getElem?_eq_some_iff.mp hp).1
      unfold setAdd
      refine wpAny_holding (wpAny_bind ((nestedKind P w).pyHash hu hx ?_))
      refine add_n (s := { s with toks := s.toks + (nestedKind P w).draws p.2 }) R hx hu (by omega) fun b h' L' es' ep' t' sb R' c1 c2 => q b h' _ (Nat.le_add_right _ _) sb ⟨L', es', ep', t', R', ?_, ?_, ?_⟩
      · rcases Classical.em (p.2 ∈ L.map (·.2)) with c | c
        · rw [c1 c]; omega
        · rw [(c2 c).length_eq, List.length_cons]; omega
      · intro y hy
        rcases Classical.em (p.2 ∈ L.map (·.2)) with c | c
        · rw [c1 c] at hy; exact sub y hy
        · rcases List.mem_cons.mp ((c2 c).mem_iff.mp hy) with e | hy
          · rw [e]; exact hpm
          · exact sub y hy
      · intro k
        rw [take_snoc hp, List.map_append, List.mem_append, ← mem k]
        rcases Classical.em (p.2 ∈ L.map (·.2)) with c | c
        · rw [c1 c]
          exact ⟨Or.inl, fun z => z.elim id fun z => by rw [List.mem_singleton.mp z]; exact c⟩
        · rw [((c2 c).map (·.2)).mem_iff, List.map_cons, List.mem_cons]
          show k = p.2 ∨ _ ↔ _ ∨ k ∈ [p.2]
          rw [List.mem_singleton]
          exact Or.comm
/-- the set of texts behind i of them -/
def JT (P : Program) (w : World) (S : Addr) (xs : List Str) (i : Nat) (h : Heap) : Prop := ∃ n, h.SetOf (strKind P w) S (fun k => decide (k ∈ xs.take i)) n ∧ n = (nub (xs.take i)).length
theorem adds_t {S : Addr} {h0 : Heap} {xs : List Str} {items : Array Value} (hit : StrsAre items.toList xs) (few : xs.length < 4000) : Adds P w A S h0 items (JT P w S xs) where
  zero := fun h e kp => by
    refine ⟨0, (setObjOf_fresh (knd := strKind P w) _).setOf e (by decide) |> fun z => ?_, rfl⟩
    exact SetOf_congr z (fun k => by simp) rfl
  keep := fun i h h' ⟨n, hS, e⟩ hs kp => by
    obtain ⟨o, es, ep, t, ho, r⟩ := hS
    exact ⟨n, ⟨o, es, ep, t, hs o ho, r⟩, e⟩
  add := fun i v s Q E hv ⟨n, hS, e⟩ kp q => by
    have hv' : items.toList[i]? = some v := by rw [Array.getElem?_toList]; exact hv
    have at_ : ∀ {vs : List Value} {xs : List Str}, StrsAre vs xs → ∀ {i : Nat} {v : Value}, vs[i]? = some v → ∃ x t, xs[i]? = some x ∧ v = .str x t := by
      intro vs xs h
      induction h with
      | nil => intro i v h; simp at h
      | cons x t _ ih =>
        intro i v h
        cases i with
        | zero => exact ⟨x, t, rfl, by simpa using h.symm⟩
        | succ i => exact ih (by simpa using h)
    obtain ⟨x, tk, hx, rfl⟩ := at_ hit hv'
    have hlt := (List.getElem?_eq_some_iff.mp hx).1
    have hn : n ≤ i := by rw [e]; exact Nat.le_trans (nub_le _) (by rw [List.length_take]; omega)
    have hkey : (strKind P w).is x (.str x tk) = true := strKind_is _ _ _ _
    unfold setAdd
    refine wpAny_holding (wpAny_bind ((strKind P w).pyHash (k := x) hkey ?_))
    refine wpAny_setAddHashed_of (knd := strKind P w) (s := { s with toks := s.toks + 1 }) hkey rfl hS (by show n + 1 < 4096; omega) fun h' sb h2 => q _ h' _ (Nat.le_succ _) sb ⟨_, SetOf_congr h2 (fun k => ?_) rfl, ?_⟩
    · rw [take_snoc hx]
      simp [List.mem_append, Bool.decide_or]
    · rw [take_snoc hx]
      show (if decide (x ∈ xs.take i) = true then n else n + 1) = _
      have l1 : (nub (xs.take i ++ [x])).length = if x ∈ xs.take i then (nub (xs.take i)).length else (nub (xs.take i)).length + 1 := by
        split
        · rename_i h
          refine len_of_same (nub_nodup _) (nub_nodup _) fun y => ?_
          rw [mem_nub, mem_nub, List.mem_append, List.mem_singleton]
          exact ⟨fun z => z.elim id fun z => by rw [z]; exact h, Or.inl⟩
        · rename_i h
          rw [show (nub (xs.take i)).length + 1 = (x :: nub (xs.take i)).length from rfl]
          refine len_of_same (nub_nodup _) (List.nodup_cons.mpr ⟨fun z => h (mem_nub.mp z), nub_nodup _⟩) fun y => ?_
          rw [mem_nub, List.mem_cons, mem_nub, List.mem_append, List.mem_singleton]
          exact Or.comm
      rw [l1, e]
      by_cases h : x ∈ xs.take i
      · rw [if_pos (by simpa using h), if_pos h]
      · rw [if_neg (by simpa using h), if_neg h]
end
end S

set_option Elab.async false
set_option linter.all false
set_option maxRecDepth 100000
set_option maxHeartbeats 4000000
/-! S5: len(set(x)) over data. -/
namespace J
open PySem PySem.Spec PyProof.Rows L2 S
/-! a value as a key of the library -/
mutual
def kd : Dv → NestedKey
  | .non => .none
  | .bl b => .num (if b then 1 else 0)
  | .int i => .num i
  | .str x => .text x
  | .tup xs => .tup (kds xs)
  | .ad _ => .none
  | .ty _ => .none
  | .fl _ => .none
def kds : List Dv → List NestedKey
  | [] => []
  | x :: xs => kd x :: kds xs
end
mutual
def isK : Dv → Bool
  | .non | .bl _ | .int _ | .str _ => true
  | .tup xs => isKs xs
  | .ad _ | .ty _ | .fl _ => false
def isKs : List Dv → Bool
  | [] => true
  | x :: xs => isK x && isKs xs
end
section
variable {X : Cx} {pins : List (Addr × Obj)} {σ : L2.St} {H : Hp} {s : Shared}
mutual
theorem nested_of (I : Inv X pins σ H s) : ∀ {x : Dv} {v : V} {u : Value}, isK x = true → rv (ctOf X) H x v → RelV v u → NestedIs s.heap (kd x) u
  | .non, v, u, _, r, q => by unfold rv at r; subst r; cases q; exact .none
  | .bl b, v, u, _, r, q => by unfold rv at r; subst r; cases q; unfold kd; exact .bool rfl
  | .int i, v, u, _, r, q => by unfold rv at r; subst r; obtain ⟨t, rfl⟩ := q; unfold kd; exact .int i t
  | .str x, v, u, _, r, q => by unfold rv at r; subst r; obtain ⟨t, rfl⟩ := q; unfold kd; exact .text x t
  | .tup xs, v, u, h, r, q => by
    unfold rv at r
    obtain ⟨a, vs, e, sq, r⟩ := r
    subst e
    cases q
    obtain ⟨its, r2, ⟨o, ho, hc, n, hd⟩, _⟩ := I.tuple sq
    unfold kd
    refine .tup ho hc hd ?_
    unfold isK at h
    exact nesteds_of I h r r2
  | .ad _, _, _, h, _, _ => by unfold isK at h; cases h
  | .ty _, _, _, h, _, _ => by unfold isK at h; cases h
  | .fl _, _, _, h, _, _ => by unfold isK at h; cases h
theorem nesteds_of (I : Inv X pins σ H s) : ∀ {xs : List Dv} {vs : List V} {us : List Value}, isKs xs = true → rvs (ctOf X) H xs vs → Vals vs us → NestedAll s.heap (kds xs) us
  | [], vs, us, _, r, q => by rw [r.inv0] at q; cases q; unfold kds; exact .nil
  | x :: xs, vs, us, h, r, q => by
    obtain ⟨v, vr, e, r1, r2⟩ := r.inv
    subst e
    cases q with
    | cons q1 q2 =>
      unfold isKs at h
      rw [Bool.and_eq_true] at h
      unfold kds
      exact .cons (nested_of I h.1 r1 q1) (nesteds_of I h.2 r2 q2)
end
def isTup : Dv → Bool
  | .tup _ => true
  | _ => false
/-- the items of a row -/
def rowOf (x : Dv) (G : Hq) (xs : List Dv) : Prop := (∃ p, x = .ad p ∧ G p = some (.lst xs)) ∨ x = .tup xs ∨ x = .fl xs
/-- what a set can be made of here: nested tuples, or texts -/
def SetOk (xs : List Dv) : Prop := (xs.length < 64 ∧ ∀ x ∈ xs, isTup x = true ∧ isK x = true ∧ (kd x).depth ≤ 8) ∨ (xs.length < 4000 ∧ ∃ zs : List Str, xs = zs.map Dv.str)
def qLenSet : Q1 := fun x G Q => ∃ xs, rowOf x G xs ∧ SetOk xs ∧ Q (.int ((nub (xs.map kd)).length : Nat)) G
theorem qLenSet.mono (x : Dv) : Mono0 (qLenSet x) := fun _ _ _ q ⟨xs, a, b, h⟩ => ⟨xs, a, b, q _ _ h⟩
theorem row_at {K : Ct} {G : Hq} {x : Dv} {v : V} {xs : List Dv} (b : rh K G H) (r : rv K H x v) (h : rowOf x G xs) : ∃ a vs, v = .ref a ∧ (SqL K.K H a vs ∨ SqT K.K H a vs) ∧ rvs K H xs vs := by
  rcases h with ⟨p, e, h⟩ | e | e
  · subst e
    unfold rv at r
    obtain ⟨vs, ev, rr⟩ := b _ _ h
    exact ⟨p, vs, r, .inl (SqL.of ev), rr⟩
  · subst e
    unfold rv at r
    obtain ⟨a, vs, e, sq, rr⟩ := r
    exact ⟨a, vs, e, .inr sq, rr⟩
  · subst e
    unfold rv at r
    obtain ⟨a, vs, e, sq, rr⟩ := r
    exact ⟨a, vs, e, .inl sq.sq, rr⟩
theorem refs_of (I : Inv X pins σ H s) : ∀ {xs : List Dv} {vs : List V} {us : List Value}, rvs (ctOf X) H xs vs → Vals vs us → (∀ x ∈ xs, isTup x = true ∧ isK x = true ∧ (kd x).depth ≤ 8) →
    ∃ ks : List KA, us = ks.map (fun p => Value.ref p.1) ∧ ks.map (·.2) = xs.map kd ∧ ∀ p ∈ ks, IsN X.prog X.w s.heap p.2 p.1
  | [], vs, us, r, q, _ => by rw [r.inv0] at q; cases q; exact ⟨[], rfl, rfl, fun p hp => (by cases hp)⟩
  | x :: xs, vs, us, r, q, h => by
    obtain ⟨v, vr, e, r1, r2⟩ := r.inv
    subst e
    cases q with
    | cons q1 q2 =>
      obtain ⟨ks, e1, e2, e3⟩ := refs_of I r2 q2 fun y hy => h y (List.mem_cons_of_mem _ hy)
      obtain ⟨h1, h2, h3⟩ := h x List.mem_cons_self
      have n := nested_of I h2 r1 q1
      cases x with
      | tup ys =>
        unfold rv at r1
        obtain ⟨a, ws, e, _, _⟩ := r1
        subst e
        cases q1
        refine ⟨(a, kd (.tup ys)) :: ks, by rw [e1]; rfl, by rw [List.map_cons, e2]; rfl, fun p hp => ?_⟩
        rcases List.mem_cons.mp hp with e | hp
        · subst e; exact ⟨n, h3⟩
        · exact e3 p hp
      | _ => cases h1
theorem strs_of : ∀ {zs : List Str} {vs : List V}, rvs (ctOf X) H (zs.map Dv.str) vs → vs = zs.map V.str
  | [], vs, r => r.inv0
  | z :: zs, vs, r => by
    obtain ⟨v, q, e, a, t⟩ := rvs.inv (show rvs _ H (Dv.str z :: zs.map Dv.str) vs from r)
    unfold rv at a
    subst e; subst a
    rw [strs_of t]; rfl
theorem kd_str : ∀ x y : Str, kd (.str x) = kd (.str y) → x = y := fun x y h => by
  unfold kd at h
  injection h
/-- len(set(e)) -/
theorem je_lenSet {a : Expr} {ta : Jt Dv} {p p2 q pos : Pos} (hc : X.calm = true) (hu : X.A.units + 64 < cLine) (hg : Gl X "len") (hm : X.mg "len" = none) (hg2 : Gl X "set") (hm2 : X.mg "set" = none) (ha : JE X a ta)
    (na : starEach [a] X.env = (false, eval a X.env) :: starEach [] X.env := by rfl) : JE X (.Call (.Name "len" p) [.Call (.Name "set" p2) [a] [] q] [] pos) (jUn qLenSet ta) := by
  refine ⟨jb.mono ha.mono fun x => jp.mono (qLenSet.mono x), fun Wc tk => ⟨fun pins s σ H Q I h => ?_⟩⟩
  have h2 := LG.bind (rel := rv (ctOf X)) (rel2 := rv (ctOf X)) ha.mono (fun x => jp.mono (qLenSet.mono x)) h
  refine Call_ (ld_blt I hg hm boot_len ?_)
  refine callWith_builtin1 (args_cons ?_ rfl) rfl rfl
  refine Call_ (ld_blt I hg2 hm2 boot_set ?_)
  refine callWith_type1 (args_cons (thn ((ha.pe Wc tk).run pins s σ H _ I h2) fun u s1 ⟨v, H1, I1, r1, l, x, rx, τ, G, a', b, xs, row, ok, k⟩ => args_nil ?_) na) na rfl
  obtain ⟨l0, vs, ev, sq, rr⟩ := row_at b rx row
  subst ev
  cases r1
  have hh := I1.ok.hd hc
  have none_ : s1.heap.get? s1.heap.objs.size = none := by
    cases q : s1.heap.get? s1.heap.objs.size with
    | none => rfl
    | some o => exact absurd (Heap.lt_size q) (Nat.lt_irrefl _)
  -- the end, whatever the set is told by
  have fin : ∀ (n : Nat) (h' : Heap) (tk : Nat), n = (nub (xs.map kd)).length → (∃ o es ep t, h'.get? s1.heap.objs.size = some o ∧ o.ExactSet ∧ o.data = .set es ep t ∧ t.fits es.size = true ∧ es.size = n) → n < 5000 → Kept s1.heap h' →
      wpAny (model X.prog X.w) X.A (spliced (backTo pos (starEach [] X.env))) (fun vs s₂ => wpAny (model X.prog X.w) X.A (call (.builtin "len") (Value.ref s1.heap.objs.size :: vs)) (EP X pins σ Q) X.xe s₂) X.xe { s1 with heap := h', toks := tk } := by
    intro n h' tk e ⟨o, es, ep, t, ho, hex, hd, hf, hn⟩ hlt hk
    refine args_nil ?_
    have I2 : Inv X pins σ H1 { s1 with heap := h', toks := tk } := I1.kept fun b o e => hk b o e
    refine call_len_set ho hex hd hf (by rw [hn]; omega) ⟨.int (n : Nat), H1, I2.tok _, ⟨_, by rw [hn]⟩, ?_⟩
    rw [e]
    exact k _ H1 (Le.refl _) rvI b
  have hu1 : X.A.in1.in1.in1.units + 8 < cLine := by show X.A.units + 1 + 1 + 1 + 8 < _; omega
  rcases ok with ⟨few, good⟩ | ⟨few, zs, ez⟩
  · have go : ∀ (its : List Value), Vals vs its → ∃ ks : List KA, (∀ J, J = JN X.prog X.w s1.heap.objs.size ks → Adds X.prog X.w X.A.in1.in1.in1 s1.heap.objs.size s1.heap its.toArray J) ∧ ks.map (·.2) = xs.map kd ∧ ks.length = its.length := fun its rv' => by
      obtain ⟨ks, e1, e2, e3⟩ := refs_of I1 rr rv' good
      have hl : ks.length = xs.length := by rw [← List.length_map (f := (·.2)), e2, List.length_map]
      exact ⟨ks, fun J e => by subst e; exact adds_n none_ e1 e3 (by omega) hu1, e2, by rw [e1, List.length_map]⟩
    have done : ∀ (its : List Value) (ks : List KA), ks.map (·.2) = xs.map kd → ks.length = its.length → ∀ h' tk, JN X.prog X.w s1.heap.objs.size ks its.toArray.size h' → Kept s1.heap h' →
        wpAny (model X.prog X.w) X.A (spliced (backTo pos (starEach [] X.env))) (fun vs s₂ => wpAny (model X.prog X.w) X.A (call (.builtin "len") (Value.ref s1.heap.objs.size :: vs)) (EP X pins σ Q) X.xe s₂) X.xe { s1 with heap := h', toks := tk } := by
      intro its ks e2 el h' tk ⟨L, es, ep, t, R, hle, _, mem⟩ hk
      have full : ks.take its.toArray.size = ks := List.take_of_length_le (by rw [List.size_toArray]; omega)
      rw [full, e2] at mem
      have hn : L.length = (nub (xs.map kd)).length := by
        rw [← List.length_map (f := (·.2))]
        exact len_of_same R.nd (nub_nodup _) fun x => (mem x).trans mem_nub.symm
      obtain ⟨o, ho, hex, hd⟩ := R.ob
      exact fin L.length h' tk hn ⟨o, es, ep, t, ho, hex, hd, SetN.fits (s := { s1 with heap := h', toks := tk }) R, SetN.size (s := { s1 with heap := h', toks := tk }) R⟩ (by have := R.few; omega) hk
    rcases sq with sq | sq
    · obtain ⟨its, rv', pl, hz⟩ := I1.list sq
      obtain ⟨ks, D, e2, el⟩ := go its rv'
      exact call_set_list hh pl.isList (D _ rfl) fun h' tk hJ hk => done its ks e2 el h' tk hJ hk
    · obtain ⟨its, rv', pl, hz⟩ := I1.tuple sq
      obtain ⟨ks, D, e2, el⟩ := go its rv'
      exact call_set_tuple hh pl (D _ rfl) fun h' tk hJ hk => done its ks e2 el h' tk hJ hk
  · subst ez
    rw [strs_of rr] at sq
    have done : ∀ (its : List Value), its.length = zs.length → ∀ h' tk, S.JT X.prog X.w s1.heap.objs.size zs its.toArray.size h' → Kept s1.heap h' →
        wpAny (model X.prog X.w) X.A (spliced (backTo pos (starEach [] X.env))) (fun vs s₂ => wpAny (model X.prog X.w) X.A (call (.builtin "len") (Value.ref s1.heap.objs.size :: vs)) (EP X pins σ Q) X.xe s₂) X.xe { s1 with heap := h', toks := tk } := by
      intro its el h' tk ⟨n, hS, e⟩ hk
      rw [List.take_of_length_le (by rw [List.size_toArray, el]; exact Nat.le_refl _)] at e
      obtain ⟨o, es, ep, t, ho, hex, hd, _, _, _, hf, hn⟩ := hS
      have e2 : (nub ((zs.map Dv.str).map kd)).length = (nub zs).length := by rw [List.map_map]; exact (congrArg List.length (nub_map (kd ∘ Dv.str) kd_str _)).trans (List.length_map ..)
      exact fin n h' tk (by rw [e2, e]) ⟨o, es, ep, t, ho, hex, hd, hf, hn⟩ (by have := nub_le zs; rw [List.length_map] at few; omega) hk
    rcases sq with sq | sq
    · obtain ⟨its, rv', pl, hz⟩ := I1.list sq
      have el : its.length = zs.length := by rw [← rv'.length, List.length_map]
      exact call_set_list hh pl.isList (adds_t (by simpa using strsAre_of rv') (by rw [List.length_map] at few; exact few)) fun h' tk hJ hk => done its el h' tk hJ hk
    · obtain ⟨its, rv', pl, hz⟩ := I1.tuple sq
      have el : its.length = zs.length := by rw [← rv'.length, List.length_map]
      exact call_set_tuple hh pl (adds_t (by simpa using strsAre_of rv') (by rw [List.length_map] at few; exact few)) fun h' tk hJ hk => done its el h' tk hJ hk
end
end J

set_option Elab.async false
set_option linter.all false
set_option maxRecDepth 100000
set_option maxHeartbeats 4000000
/-! S6: sorted, min, max, < over data. -/
namespace S
open PySem PySem.W PySem.Calls PyProof.Rows
section
variable {prog : Program} {w : World} {A : Around} {E : Value → Shared → Prop} {s : Shared} {β : Type} {vs : List Value} {bs : List β} {enc : β → PyData} {R : Value → β → Prop}
/-- sorted of a list or a tuple of data -/
theorem sorted_seq {l : Addr} {T : String} {o : Obj} {n : Nat} {Q : Value → Shared → Prop} (hT : T = "list" ∨ T = "tuple") (ho : s.heap.get? l = some o) (hc : o.cls = .type T) (hd : o.data = .seq vs.toArray n)
    (e : EachIs R vs bs) (er : EachIs (fun v b => ∃ as, Reads s.heap v (enc b) as) vs bs) (hal : AllAlike (bs.map enc)) (hk : Sortable (bs.map enc)) (hL : bs.length ≤ sizeLine) (hu : ∀ b, b ∈ bs → A.units + 2 + (enc b).depth < cLine)
    (h : ∀ out h' d, out.length = bs.length → EachIs R out (bs.mergeSort (dataLe false enc)) → (∀ b o, s.heap.get? b = some o → h'.get? b = some o) → s.heap.get? d = none → (∃ n, h'.get? d = some (seqObj "list" (List.toArray out) n)) → Q (.ref d) { s with heap := h' }) :
    wpAny (model prog w) A (call (.builtin "sorted") [.ref l]) Q E s := by
  have hlen : vs.length = bs.length := e.length
  refine Calls.call_function_entry kind_sorted plain_sorted entry_sorted (args_sorted1 _) ?_
  unfold Builtin.«sorted»
  refine wpAny_bind (m := checkCount "sorted" 1 1 _) (wpAny_pure ?_)
  refine wpAny_bind (wpAny_collect_seq l hT ho hc hd (fun h1 k1 => ?_) (by simpa [hlen] using hL))
  show wpAny _ _ (newList vs >>= _) _ _ _
  refine wpAny_bind (wpAny_newList ?_ (by rw [hlen]; exact hL))
  have hat : (h1.push (seqObj "list" vs.toArray 0)).get? h1.objs.size = some (seqObj "list" vs.toArray 0) := Heap.get?_push_size _ rfl
  have k2 : ∀ b o, s.heap.get? b = some o → b ≠ h1.objs.size ∧ (h1.push (seqObj "list" vs.toArray 0)).get? b = some o := fun b o q => ⟨Nat.ne_of_lt (Heap.lt_size (k1 b o q)), Heap.get?_push_of_some _ (k1 b o q)⟩
  have ge : s.heap.get? h1.objs.size = none := by
    cases q : s.heap.get? h1.objs.size with
    | none => rfl
    | some o' => exact absurd (Heap.lt_size (k1 _ _ q)) (Nat.lt_irrefl _)
  have er' : EachIs (fun v b => ∃ as, Reads (sortingHeap (h1.push (seqObj "list" vs.toArray 0)) h1.objs.size vs) v (enc b) as) vs bs :=
    er.mono fun _ _ ⟨as, r⟩ => ⟨as, PyProof.Rows.Reads.keeps (fun b o q => sortingHeap_old (k2 b o q).1 (k2 b o q).2) r⟩
  refine wpAny_bind (wpAny_holding (wpAny_call_entry slot_list_sort ⟨_, hat, rfl⟩ entry_list_sort ?body (args_list_sort _)))
  case body =>
    refine list_sort_vals (κ := dataKind _ (bs.map enc)) (s := { s with heap := h1.push (seqObj "list" vs.toArray 0) }) hat (SortsAt.data (s := { s with heap := sortingHeap (h1.push (seqObj "list" vs.toArray 0)) h1.objs.size vs }) (each_map (R := fun v d => ∃ as, Reads (sortingHeap (h1.push (seqObj "list" vs.toArray 0)) h1.objs.size vs) v d as) enc er') hal hk (bound_map hu)) (by rw [hlen]; exact hL) ⟨_, rfl, ?_⟩
    refine wpAny_pure ⟨_, rfl, h _ _ _ (by rw [sortVals_length false rfl]; exact hlen) (sortVals_data false e er' hal) (fun b o q => ?_) ge ?_⟩
    · rw [sortedHeap_old (k2 b o q).1 (Heap.lt_size (k2 b o q).2)]
      exact (k2 b o q).2
    · exact sortedHeap_at hat
end
end S
namespace J
open PySem PySem.Spec PyProof.Rows L2 S
/-! a value as a datum -/
mutual
def dP : Dv → PyData
  | .non => .none
  | .bl b => .bool b
  | .int i => .int i
  | .str x => .str x
  | .tup xs => .tuple (dPs xs)
  | .ad _ => .none
  | .ty _ => .none
  | .fl _ => .none
def dPs : List Dv → List PyData
  | [] => []
  | x :: xs => dP x :: dPs xs
end
theorem dPs_map : ∀ xs, dPs xs = xs.map dP
  | [] => by unfold dPs; rfl
  | x :: xs => by unfold dPs; rw [dPs_map xs]; rfl
def ltD (x y : Dv) : Bool := PySem.W.dataLt (dP x) (dP y)
def leD (x y : Dv) : Bool := !ltD y x
section
variable {X : Cx} {pins : List (Addr × Obj)} {σ : L2.St} {H : Hp} {s : Shared}
mutual
theorem reads_of (I : Inv X pins σ H s) : ∀ {x : Dv} {v : V} {u : Value}, isK x = true → rv (ctOf X) H x v → RelV v u → ∃ as, Reads s.heap u (dP x) as
  | .non, v, u, _, r, q => by unfold rv at r; subst r; cases q; exact ⟨_, .none⟩
  | .bl b, v, u, _, r, q => by unfold rv at r; subst r; cases q; exact ⟨_, .bool b⟩
  | .int i, v, u, _, r, q => by unfold rv at r; subst r; obtain ⟨t, rfl⟩ := q; exact ⟨_, .int i t⟩
  | .str x, v, u, _, r, q => by unfold rv at r; subst r; obtain ⟨t, rfl⟩ := q; exact ⟨_, .str x t⟩
  | .tup xs, v, u, h, r, q => by
    unfold rv at r
    obtain ⟨a, vs, e, sq, r⟩ := r
    subst e
    cases q
    obtain ⟨its, r2, ⟨o, ho, hc, n, hd⟩, _⟩ := I.tuple sq
    unfold isK at h
    obtain ⟨as, h2⟩ := readsAll_of I h r r2
    exact ⟨as, .tuple ho hc hd (by simpa using h2)⟩
  | .ad _, _, _, h, _, _ => by unfold isK at h; cases h
  | .ty _, _, _, h, _, _ => by unfold isK at h; cases h
  | .fl _, _, _, h, _, _ => by unfold isK at h; cases h
theorem readsAll_of (I : Inv X pins σ H s) : ∀ {xs : List Dv} {vs : List V} {us : List Value}, isKs xs = true → rvs (ctOf X) H xs vs → Vals vs us → ∃ as, ReadsAll s.heap us (dPs xs) as
  | [], vs, us, _, r, q => by rw [r.inv0] at q; cases q; exact ⟨_, .nil⟩
  | x :: xs, vs, us, h, r, q => by
    obtain ⟨v, vr, e, r1, r2⟩ := r.inv
    subst e
    cases q with
    | cons q1 q2 =>
      unfold isKs at h
      rw [Bool.and_eq_true] at h
      obtain ⟨as, h1⟩ := reads_of I h.1 r1 q1
      obtain ⟨bs, h2⟩ := readsAll_of I h.2 r2 q2
      exact ⟨_, .cons h1 h2⟩
end
end
/-- all are keys, alike, not deep -/
structure Rank (xs : List Dv) : Prop where
  key : ∀ x ∈ xs, isK x = true
  alike : PySem.W.AllAlike (xs.map dP)
  deep : ∀ x ∈ xs, (dP x).depth ≤ 8
structure SortOk (xs : List Dv) : Prop where
  rank : Rank xs
  able : PySem.W.Sortable (xs.map dP)
theorem isKs_of : ∀ {xs : List Dv}, (∀ x ∈ xs, isK x = true) → isKs xs = true
  | [], _ => by unfold isKs; rfl
  | x :: xs, h => by
    unfold isKs
    rw [h x List.mem_cons_self, isKs_of fun y hy => h y (List.mem_cons_of_mem _ hy)]; rfl
theorem rvs.pairs {K : Ct} {H : Hp} : ∀ {ps : List (Dv × V)}, (∀ p ∈ ps, rv K H p.1 p.2) → rvs K H (ps.map (·.1)) (ps.map (·.2))
  | [], _ => rvs.nil
  | p :: ps, h => by
    show rvs K H (p.1 :: ps.map (·.1)) (p.2 :: ps.map (·.2))
    unfold rvs
    exact ⟨_, _, rfl, h p List.mem_cons_self, rvs.pairs fun q hq => h q (List.mem_cons_of_mem _ hq)⟩
theorem rvs.zip {K : Ct} {H : Hp} : ∀ {xs : List Dv} {vs : List V}, rvs K H xs vs → ∀ p ∈ xs.zip vs, rv K H p.1 p.2
  | [], vs, r, p, hp => by simp at hp
  | x :: xs, vs, r, p, hp => by
    obtain ⟨v, vr, e, r1, r2⟩ := r.inv
    subst e
    rw [List.zip_cons_cons] at hp
    rcases List.mem_cons.mp hp with e | hp
    · subst e; exact r1
    · exact rvs.zip r2 p hp
theorem vals_each {ps : List (Dv × V)} : ∀ {us : List Value}, PySem.W.EachIs (fun u p => RelV p.2 u) us ps → Vals (ps.map (·.2)) us
  | _, .nil => .nil
  | _, .cons a t => .cons a (vals_each t)
theorem each_vals {xs : List Dv} : ∀ {vs : List V} {us : List Value}, xs.length = vs.length → Vals vs us → PySem.W.EachIs (fun u p => RelV p.2 u) us (xs.zip vs) := by
  induction xs with
  | nil => intro vs us e r; cases vs with
    | nil => cases r; exact .nil
    | cons => cases e
  | cons x xs ih => intro vs us e r; cases vs with
    | nil => cases e
    | cons v vs =>
      cases r with
      | cons a t => exact .cons a (ih (by simpa using e) t)
theorem objOk_some {P : Program} {w : World} {H : Hp} {h : Heap} {a : Addr} {o : HO} (x : ObjOk P w H h a o) : ∃ u, h.get? a = some u := by
  cases o with
  | lst xs => obtain ⟨_, _, _, _, e⟩ := x; exact ⟨_, e⟩
  | tup xs => obtain ⟨_, _, _, o, e, _⟩ := x; exact ⟨_, e⟩
  | dK kvs => obtain ⟨_, _, _, _, o, _, _, e, _⟩ := x; exact ⟨_, e⟩
  | dT kvs => obtain ⟨_, _, _, _, o, _, _, e, _⟩ := x; exact ⟨_, e⟩
  | set S n => obtain ⟨o, _, _, _, e, _⟩ := x; exact ⟨_, e⟩
  | ins C dx fs => obtain ⟨_, _, _, e, _⟩ := x; exact ⟨_, e⟩
  | own y => obtain ⟨_, e⟩ := x; exact ⟨_, e⟩
  | xd fs => obtain ⟨_, ⟨_, _, _, e, _⟩, _⟩ := x; exact ⟨_, e⟩
  | rng lo hi => obtain ⟨_, _, _, e⟩ := x; exact ⟨_, e⟩
  | frz ob u => obtain ⟨e, _⟩ := x; exact ⟨_, e⟩
  | tbl ps => exact ⟨_, (show h.get? a = some _ from x)⟩
  | met f y => exact ⟨_, (show h.get? a = some _ from x)⟩
  | ext φ => obtain ⟨_, ⟨_, e⟩, _⟩ := x; exact ⟨_, e⟩
theorem hok_none {P : Program} {w : World} {H : Hp} {h : Heap} {a : Addr} (x : HOk P w H h) (e : h.get? a = none) : H a = none := by
  cases q : H a with
  | none => rfl
  | some u =>
    obtain ⟨v, z⟩ := objOk_some (x a u q)
    rw [e] at z; cases z
def qSorted : QA := fun ws G Q => ∃ x xs, ws = [x] ∧ rowOf x G xs ∧ SortOk xs ∧ qNew (.lst (xs.mergeSort leD)) G Q
theorem qSorted.mono (ws : List Dv) : Mono0 (qSorted ws) := fun G Q Q' q ⟨x, xs, a, b, c, h⟩ => ⟨x, xs, a, b, c, qNew.mono _ _ _ q h⟩
section
variable {X : Cx}
theorem row_in {pins : List (Addr × Obj)} {σ : L2.St} {H : Hp} {s : Shared} {a : Addr} {vs : List V} (I : Inv X pins σ H s) (sq : SqL X.K H a vs ∨ SqT X.K H a vs) : ∃ (its : List Value) (T : String) (o : Obj) (n : Nat), Vals vs its ∧ (T = "list" ∨ T = "tuple") ∧ s.heap.get? a = some o ∧ o.cls = .type T ∧ o.data = .seq its.toArray n ∧ vs.length ≤ sizeLine := by
  rcases sq with sq | sq
  · obtain ⟨its, r, ⟨o, n, ho, hc, _, hd⟩, z⟩ := I.list sq
    exact ⟨its, "list", o, n, r, .inl rfl, ho, hc, hd, z⟩
  · obtain ⟨its, r, ⟨o, ho, hc, n, hd⟩, z⟩ := I.tuple sq
    exact ⟨its, "tuple", o, n, r, .inr rfl, ho, hc, hd, z⟩
theorem jc_sorted (hu : X.A.units + 64 < cLine) : JCl X (.builtin "sorted") qSorted := by
  refine ⟨qSorted.mono, fun vs H Q => ∃ ws G, rvs (ctOf X) H ws vs ∧ rh (ctOf X) G H ∧ qSorted ws G (LQ (ctOf X) (rv (ctOf X)) H Q), ?_, fun xs vs G H Q r b h => ⟨xs, G, r, b, h⟩⟩
  intro pins s σ H vs us Q I r ⟨ws, G, rx, b, x, xs, e, row, ok, q⟩
  subst e
  obtain ⟨v, vr, e, r1, r2⟩ := rx.inv
  rw [r2.inv0] at e
  subst e
  obtain ⟨u, eu, ru⟩ := vals1 r
  subst eu
  obtain ⟨a, ys, ev, sq, rr⟩ := row_at b r1 row
  subst ev
  cases ru
  obtain ⟨its, T, o, n, rits, hT, ho, hc, hd, hz⟩ := row_in I sq
  have hl : xs.length = ys.length := rr.length
  have zf : (xs.zip ys).map (·.1) = xs := List.map_fst_zip (by omega)
  have encs : (xs.zip ys).map (fun p => dP p.1) = xs.map dP := by
    have := List.map_map (f := fun p : Dv × V => p.1) (g := dP) (l := xs.zip ys)
    rw [zf] at this
    exact this.symm
  have mem1 : ∀ p ∈ xs.zip ys, p.1 ∈ xs := fun p hp => (List.of_mem_zip (a := p.1) (b := p.2) hp).1
  have each := each_vals (xs := xs) hl rits
  refine sorted_seq (enc := fun p : Dv × V => dP p.1) hT ho hc hd each ?_ (by rw [encs]; exact ok.rank.alike) (by rw [encs]; exact ok.able) (by rw [List.length_zip]; omega) (fun p hp => by have := ok.rank.deep _ (mem1 p hp); omega) fun out h' d ol eo kp hd' hn => ?_
  · -- the items are read
    have : ∀ (ps : List (Dv × V)) (us : List Value), (∀ p ∈ ps, p.1 ∈ xs ∧ rv (ctOf X) H p.1 p.2) → PySem.W.EachIs (fun u p => RelV p.2 u) us ps → PySem.W.EachIs (fun u p => ∃ as, Reads s.heap u (dP p.1) as) us ps := by
      intro ps us hm e
      induction e with
      | nil => exact .nil
      | cons a t ih => exact .cons (reads_of I (ok.rank.key _ (hm _ List.mem_cons_self).1) (hm _ List.mem_cons_self).2 a) (ih fun p hp => hm p (List.mem_cons_of_mem _ hp))
    exact this _ _ (fun p hp => ⟨mem1 p hp, rr.zip p hp⟩) each
  · obtain ⟨n', hn⟩ := hn
    have srt : ((xs.zip ys).mergeSort (PySem.W.dataLe false fun p : Dv × V => dP p.1)).map (·.1) = xs.mergeSort leD := by
      rw [List.map_mergeSort (s := leD) (fun a _ b _ => by rw [PySem.W.dataLe_eq]; rfl), zf]
    have pm := List.mergeSort_perm (xs.zip ys) (PySem.W.dataLe false fun p : Dv × V => dP p.1)
    have rn : rvs (ctOf X) H (xs.mergeSort leD) (((xs.zip ys).mergeSort (PySem.W.dataLe false fun p : Dv × V => dP p.1)).map (·.2)) := by
      rw [← srt]
      exact rvs.pairs fun p hp => rr.zip p (pm.mem_iff.mp hp)
    have vv := vals_each eo
    have hH : H d = none := hok_none I.hok hd'
    have len : (((xs.zip ys).mergeSort (PySem.W.dataLe false fun p : Dv × V => dP p.1)).map (·.2)).length ≤ sizeLine := by
      rw [List.length_map, pm.length_eq, List.length_zip]; omega
    have I2 : Inv X pins σ (upd H d (.lst (((xs.zip ys).mergeSort (PySem.W.dataLe false fun p : Dv × V => dP p.1)).map (·.2)))) { s with heap := h' } := I.laidN (t' := s.toks) kp hd' hH ⟨len, out, n', vv, hn⟩
    exact ⟨.ref d, _, I2, rfl, new_lst b rn q d hH⟩
end
end J

set_option Elab.async false
set_option linter.all false
set_option maxRecDepth 100000
set_option maxHeartbeats 4000000
/-! S7: min, max of rows of data. -/
namespace J
open PySem PySem.Spec PyProof.Rows L2 S
mutual
theorem dP_inj : ∀ {x y : Dv}, isK x = true → isK y = true → dP x = dP y → x = y
  | .non, y, _, h, e => by cases y <;> simp_all [dP, isK]
  | .bl b, y, _, h, e => by cases y <;> simp_all [dP, isK]
  | .int i, y, _, h, e => by cases y <;> simp_all [dP, isK]
  | .str z, y, _, h, e => by cases y <;> simp_all [dP, isK]
  | .tup xs, y, g, h, e => by
    cases y with
    | tup ys =>
      unfold isK at g h
      simp only [dP, PyData.tuple.injEq] at e
      rw [dPs_inj g h e]
    | _ => simp [dP] at e
  | .ad _, y, g, _, _ => by simp [isK] at g
  | .ty _, y, g, _, _ => by simp [isK] at g
  | .fl _, y, g, _, _ => by simp [isK] at g
theorem dPs_inj : ∀ {xs ys : List Dv}, isKs xs = true → isKs ys = true → dPs xs = dPs ys → xs = ys
  | [], ys, _, _, e => by
    cases ys with
    | nil => rfl
    | cons y ys => simp [dPs] at e
  | x :: xs, ys, g, h, e => by
    cases ys with
    | nil => simp [dPs] at e
    | cons y ys =>
      unfold isKs at g h
      rw [Bool.and_eq_true] at g h
      simp only [dPs, List.cons.injEq] at e
      rw [dP_inj g.1 h.1 e.1, dPs_inj g.2 h.2 e.2]
end
def minV (x : Dv) (xs : List Dv) : Dv := xs.foldl (fun a y => if ltD y a then y else a) x
def maxV (x : Dv) (xs : List Dv) : Dv := xs.foldl (fun a y => if ltD a y then y else a) x
theorem minV_mem : ∀ (xs : List Dv) (x : Dv), minV x xs ∈ x :: xs
  | [], x => List.mem_cons_self
  | y :: ys, x => by
    show minV (if ltD y x then y else x) ys ∈ _
    have := minV_mem ys (if ltD y x then y else x)
    rcases List.mem_cons.mp this with e | m
    · rw [e]; split
      · exact List.mem_cons_of_mem _ List.mem_cons_self
      · exact List.mem_cons_self
    · exact List.mem_cons_of_mem _ (List.mem_cons_of_mem _ m)
theorem maxV_mem : ∀ (xs : List Dv) (x : Dv), maxV x xs ∈ x :: xs
  | [], x => List.mem_cons_self
  | y :: ys, x => by
    show maxV (if ltD x y then y else x) ys ∈ _
    have := maxV_mem ys (if ltD x y then y else x)
    rcases List.mem_cons.mp this with e | m
    · rw [e]; split
      · exact List.mem_cons_of_mem _ List.mem_cons_self
      · exact List.mem_cons_self
    · exact List.mem_cons_of_mem _ (List.mem_cons_of_mem _ m)
theorem minV_dP : ∀ (xs : List Dv) (x : Dv), PySem.W.minD (dP x) (xs.map dP) = dP (minV x xs)
  | [], x => rfl
  | y :: ys, x => by
    show PySem.W.minD (if PySem.W.dataLt (dP y) (dP x) then dP y else dP x) (ys.map dP) = dP (minV (if ltD y x then y else x) ys)
    unfold ltD
    by_cases h : PySem.W.dataLt (dP y) (dP x) = true
    · rw [if_pos h, if_pos h]; exact minV_dP ys y
    · rw [if_neg h, if_neg h]; exact minV_dP ys x
theorem maxV_dP : ∀ (xs : List Dv) (x : Dv), PySem.W.maxD (dP x) (xs.map dP) = dP (maxV x xs)
  | [], x => rfl
  | y :: ys, x => by
    show PySem.W.maxD (if PySem.W.dataLt (dP x) (dP y) then dP y else dP x) (ys.map dP) = dP (maxV (if ltD x y then y else x) ys)
    unfold ltD
    by_cases h : PySem.W.dataLt (dP x) (dP y) = true
    · rw [if_pos h, if_pos h]; exact maxV_dP ys y
    · rw [if_neg h, if_neg h]; exact maxV_dP ys x
structure MinOk (xs : List Dv) : Prop where
  rank : Rank xs
  some : ∀ x ∈ xs, dP x ≠ .none
def qBest (best : Dv → List Dv → Dv) : QA := fun ws G Q => ∃ x y ys, ws = [x] ∧ rowOf x G (y :: ys) ∧ MinOk (y :: ys) ∧ Q (best y ys) G
theorem qBest.mono {best} (ws : List Dv) : Mono0 (qBest best ws) := fun G Q Q' q ⟨x, y, ys, a, b, c, h⟩ => ⟨x, y, ys, a, b, c, q _ _ h⟩
def qMin : QA := qBest minV
def qMax : QA := qBest maxV
theorem depthAll_le {n : Nat} : ∀ {ds : List PyData}, (∀ d ∈ ds, d.depth ≤ n) → PyData.depthAll ds ≤ n
  | [], _ => by simp [PyData.depthAll]
  | d :: ds, h => by
    rw [PyData.depthAll]
    exact Nat.max_le.mpr ⟨h d List.mem_cons_self, depthAll_le fun e he => h e (List.mem_cons_of_mem _ he)⟩
section
variable {X : Cx}
theorem best_core {id : String} {best : Dv → List Dv → Dv} {bestD : PyData → List PyData → PyData} (hc : X.calm = true) (hu : X.A.units + 64 < cLine) (mem : ∀ xs x, best x xs ∈ x :: xs) (bd : ∀ xs x, bestD (dP x) (xs.map dP) = dP (best x xs))
    (lst : ∀ {A : Around} {E : Value → Shared → Prop} {s : Shared} {l : Addr} {vs : Array Value} {x : PyData} {xs : List PyData} {as : List Addr} {Q : Value → Shared → Prop}, A.handled = none → s.heap.IsList l vs → ReadsAll s.heap vs.toList (x :: xs) as → PySem.W.AlikeAll (x :: xs) → A.units + 1 + PyData.depthAll (x :: xs) < cLine →
      (∀ (i : Nat) v h' tk bs, vs[i]? = some v → Reads h' v (bestD x xs) bs → (∀ b o, s.heap.get? b = some o → h'.get? b = some o) → Q v { s with heap := h', toks := tk }) → wpAny (model X.prog X.w) A (call (.builtin id) [.ref l]) Q E s)
    (tup : ∀ {A : Around} {E : Value → Shared → Prop} {s : Shared} {l : Addr} {vs : Array Value} {x : PyData} {xs : List PyData} {as : List Addr} {Q : Value → Shared → Prop}, A.handled = none → s.heap.IsTuple l vs → ReadsAll s.heap vs.toList (x :: xs) as → PySem.W.AlikeAll (x :: xs) → A.units + 1 + PyData.depthAll (x :: xs) < cLine →
      (∀ (i : Nat) v h' tk bs, vs[i]? = some v → Reads h' v (bestD x xs) bs → (∀ b o, s.heap.get? b = some o → h'.get? b = some o) → Q v { s with heap := h', toks := tk }) → wpAny (model X.prog X.w) A (call (.builtin id) [.ref l]) Q E s) :
    JCl X (.builtin id) (qBest best) := by
  refine ⟨qBest.mono, fun vs H Q => ∃ ws G, rvs (ctOf X) H ws vs ∧ rh (ctOf X) G H ∧ qBest best ws G (LQ (ctOf X) (rv (ctOf X)) H Q), ?_, fun xs vs G H Q r b h => ⟨xs, G, r, b, h⟩⟩
  intro pins s σ H vs us Q I r ⟨ws, G, rx, b, x, y, ys, e, row, ok, q⟩
  subst e
  obtain ⟨v, vr, e, r1, r2⟩ := rx.inv
  rw [r2.inv0] at e
  subst e
  obtain ⟨u, eu, ru⟩ := vals1 r
  subst eu
  obtain ⟨a, zs, ev, sq, rr⟩ := row_at b r1 row
  subst ev
  cases ru
  have keys : ∀ z ∈ y :: ys, isK z = true := ok.rank.key
  have ah : PySem.W.AlikeAll (dP y :: ys.map dP) := ⟨fun d hd d' hd' => ok.rank.alike d (by simpa using hd) d' (by simpa using hd'), fun d hd => by
    obtain ⟨z, hz, e⟩ : ∃ z ∈ y :: ys, dP z = d := List.mem_map.mp (show d ∈ (y :: ys).map dP from hd)
    rw [← e]; exact ok.some z hz⟩
  have dl : X.A.units + 1 + PyData.depthAll (dP y :: ys.map dP) < cLine := by
    have : PyData.depthAll (dP y :: ys.map dP) ≤ 8 := depthAll_le fun d hd => by
      obtain ⟨z, hz, e⟩ : ∃ z ∈ y :: ys, dP z = d := List.mem_map.mp (show d ∈ (y :: ys).map dP from hd)
      rw [← e]; exact ok.rank.deep z hz
    omega
  have fin : ∀ (its : List Value), Vals zs its → ∀ (i : Nat) v h' tk bs, its.toArray[i]? = some v → Reads h' v (bestD (dP y) (ys.map dP)) bs → (∀ b o, s.heap.get? b = some o → h'.get? b = some o) → EP X pins σ Q v { s with heap := h', toks := tk } := by
    intro its rits i v h' tk bs hi hr kp
    have I2 : Inv X pins σ H { s with heap := h', toks := tk } := I.kept (t' := tk) kp
    have hi' : its[i]? = some v := by simpa using hi
    have il : i < its.length := by
      rcases Nat.lt_or_ge i its.length with z | z
      · exact z
      · rw [List.getElem?_eq_none z] at hi'; cases hi'
    have il2 : i < zs.length := by rw [rits.length]; exact il
    have il3 : i < (y :: ys).length := by rw [rr.length]; exact il2
    obtain ⟨v', e1, e2⟩ := rits.get (List.getElem?_eq_getElem il2)
    rw [hi'] at e1; cases e1
    obtain ⟨w', e3, e4⟩ := rr.get (List.getElem?_eq_getElem il3)
    rw [List.getElem?_eq_getElem il2] at e3; cases e3
    have hm : (y :: ys)[i] ∈ y :: ys := List.getElem_mem il3
    obtain ⟨as2, hr2⟩ := reads_of I2 (keys _ hm) e4 e2
    rw [bd] at hr
    have hb := mem ys y
    have := PySem.W.alike_unique _ _ v _ _ (ok.rank.alike _ (List.mem_map_of_mem hm) _ (List.mem_map_of_mem hb)) hr2 hr
    have := dP_inj (keys _ hm) (keys _ hb) this
    rw [this] at e4
    exact ⟨_, H, I2, e2, q _ H (Le.refl H) e4 b⟩
  rcases sq with sq | sq
  · obtain ⟨its, rits, pl, hz⟩ := I.list sq
    obtain ⟨as, ra⟩ := readsAll_of I (isKs_of keys) rr rits
    rw [dPs_map] at ra
    exact lst (I.ok.hd hc) pl.isList (by simpa using ra) ah dl (fin its rits)
  · obtain ⟨its, rits, pl, hz⟩ := I.tuple sq
    obtain ⟨as, ra⟩ := readsAll_of I (isKs_of keys) rr rits
    rw [dPs_map] at ra
    exact tup (I.ok.hd hc) pl (by simpa using ra) ah dl (fin its rits)
theorem jc_min (hc : X.calm = true) (hu : X.A.units + 64 < cLine) : JCl X (.builtin "min") qMin :=
  best_core hc hu minV_mem minV_dP (fun a b c d e f => PySem.W.min_list_data a b c d e f) fun a b c d e f => PySem.W.min_tuple_data a b c d e f
theorem jc_max (hc : X.calm = true) (hu : X.A.units + 64 < cLine) : JCl X (.builtin "max") qMax :=
  best_core hc hu maxV_mem maxV_dP (fun a b c d e f => PySem.W.max_list_data a b c d e f) fun a b c d e f => PySem.W.max_tuple_data a b c d e f
end
end J

set_option Elab.async false
set_option linter.all false
set_option maxRecDepth 100000
set_option maxHeartbeats 4000000
/-! S8: slices by step -1. -/
namespace S
open PySem PySem.Calls PyProof.Rows L2
/-- the first place behind the cut, where one walks down -/
def rvK (n : Nat) : Option Int → Nat
  | none => 0
  | some i => if i < 0 then (n + i + 1).toNat else i.toNat + 1
/-- xs[:hi:-1] -/
def revCut {α : Type} (xs : List α) (hi : Option Int) : List α := (xs.drop (rvK xs.length hi)).reverse
theorem down_run {α : Type} (xs : List α) : ∀ m, m ≤ xs.length → ((List.range m).filterMap fun k => xs[xs.length - 1 - k]?) = (xs.drop (xs.length - m)).reverse
  | 0, _ => by simp
  | m + 1, h => by
    rw [List.range_succ, List.filterMap_append, down_run xs m (by omega)]
    have e : xs.length - 1 - m < xs.length := by omega
    have e2 : xs.length - m = xs.length - (m + 1) + 1 := by omega
    have e3 : xs.length - 1 - m = xs.length - (m + 1) := by omega
    rw [List.filterMap_cons, List.getElem?_eq_getElem e]
    simp only [List.filterMap_nil]
    rw [e2]
    have e4 : xs.drop (xs.length - (m + 1)) = xs[xs.length - (m + 1)]'(by omega) :: xs.drop (xs.length - (m + 1) + 1) := List.drop_eq_getElem_cons (by omega)
    rw [e4, List.reverse_cons]
    simp only [e3]
theorem revCut_le {α : Type} (xs : List α) (hi : Option Int) : (revCut xs hi).length ≤ xs.length := by
  unfold revCut
  rw [List.length_reverse, List.length_drop]; omega
theorem filterMap_same {α β : Type} {f g : α → Option β} : ∀ {l : List α}, (∀ x ∈ l, f x = g x) → l.filterMap f = l.filterMap g
  | [], _ => rfl
  | x :: l, h => by
    rw [List.filterMap_cons, List.filterMap_cons, h x List.mem_cons_self, filterMap_same fun y hy => h y (List.mem_cons_of_mem _ hy)]
/-- how many are taken -/
def rvN (n : Nat) (hi : Option Int) : Nat := n - rvK n hi
theorem revCut_run {α : Type} (xs : List α) (hi : Option Int) : ((List.range (rvN xs.length hi)).filterMap fun k => xs[xs.length - 1 - k]?) = revCut xs hi := by
  rw [down_run xs _ (by unfold rvN; omega)]
  unfold revCut rvN
  rcases Nat.lt_or_ge xs.length (rvK xs.length hi) with h | h
  · rw [show xs.length - (xs.length - rvK xs.length hi) = xs.length by omega, List.drop_of_length_le (Nat.le_refl _), List.drop_of_length_le (Nat.le_of_lt h)]
  · rw [show xs.length - (xs.length - rvK xs.length hi) = rvK xs.length hi by omega]
theorem bounds_down (hi : Option Int) (n : Nat) : (sliceBounds none hi (some (-1)) n).1 = (n : Int) - 1 ∧ (sliceBounds none hi (some (-1)) n).2.2 = -1 ∧ ((n : Int) - 1 - (sliceBounds none hi (some (-1)) n).2.1).toNat = rvN n hi := by
  have g : ¬ ((-1 : Int) > 0) := by decide
  refine ⟨?_, rfl, ?_⟩
  · simp only [sliceBounds, Option.getD_some, g, if_false]
  · cases hi with
    | none => simp only [sliceBounds, Option.getD_some, g, if_false, rvN, rvK]; omega
    | some i =>
      simp only [sliceBounds, Option.getD_some, g, if_false, rvN, rvK]
      by_cases h : i < 0
      · simp only [h, if_true]; omega
      · simp only [h, if_false]; omega
theorem slicePick_down (its : List Value) (hi : Option Int) : slicePick its.toArray none hi (some (-1)) = (revCut its hi).toArray := by
  obtain ⟨h1, h2, h3⟩ := bounds_down hi its.toArray.size
  unfold slicePick sliceRange
  rw [h2]
  simp only [show ¬ ((-1 : Int) > 0) by decide, if_false]
  rw [h1]
  have hsz : its.toArray.size = its.length := by simp
  congr 1
  have hc : (if (its.toArray.size : Int) - 1 > (sliceBounds none hi (some (-1)) its.toArray.size).2.1 then ((its.toArray.size : Int) - 1 - (sliceBounds none hi (some (-1)) its.toArray.size).2.1 - -1 - 1) / (- -1) else 0).toNat = rvN its.length hi := by
    rw [← hsz, ← h3]
    split
    · rw [show (- -1 : Int) = 1 by decide, Int.ediv_one]; omega
    · omega
  rw [hc, List.filterMap_map, ← revCut_run its hi]
  have hn : rvN its.length hi ≤ its.length := by unfold rvN; omega
  have : ∀ m, m ≤ its.length → (List.range m).filterMap ((fun x => its.toArray[x]?) ∘ fun k : Nat => ((its.toArray.size : Int) - 1 + -1 * (k : Int)).toNat) = (List.range m).filterMap fun k => its[its.length - 1 - k]? := by
    intro m hm
    refine filterMap_same fun k hk => ?_
    have hk := List.mem_range.mp hk
    show its.toArray[((its.toArray.size : Int) - 1 + -1 * (k : Int)).toNat]? = _
    rw [hsz, show ((its.length : Int) - 1 + -1 * (k : Int)).toNat = its.length - 1 - k by omega]
    simp
  exact this _ hn
theorem adjust_down (hi : Option Int) (n : Nat) : (Builtin.Slice.sliceAdjust none hi (-1) (n : Int)).1 = (n : Int) - 1 ∧ Builtin.Slice.slicePlaces (Builtin.Slice.sliceAdjust none hi (-1) (n : Int)).1 (Builtin.Slice.sliceAdjust none hi (-1) (n : Int)).2 (-1) = rvN n hi := by
  have g : (-1 : Int) < 0 := by decide
  have g2 : ¬ ((-1 : Int) > 0) := by decide
  refine ⟨by simp only [Builtin.Slice.sliceAdjust, g, if_true], ?_⟩
  unfold Builtin.Slice.slicePlaces
  simp only [g2, if_false]
  cases hi with
  | none =>
    simp only [Builtin.Slice.sliceAdjust, g, if_true, rvN, rvK]
    rw [show (- -1 : Int) = 1 by decide, Int.ediv_one]
    split <;> omega
  | some i =>
    simp only [Builtin.Slice.sliceAdjust, g, if_true, rvN, rvK]
    rw [show (- -1 : Int) = 1 by decide, Int.ediv_one]
    by_cases h : i < 0
    · simp only [h, if_true]; split <;> omega
    · simp only [h, if_false]; split <;> omega
section
variable {prog : Program} {w : World} {A : Around} {E : Value → Shared → Prop} {s : Shared}
theorem sliceApplied_down {sl : Addr} {vu : Value} {hi : Option Int} {n : Nat} {t : Tok} {Q : Int × Int × Nat → Shared → Prop} (hs : s.heap.IsSliceOf sl .none vu (.int (-1) t)) (pu : IsPart vu hi)
    (h : Q ((n : Int) - 1, -1, rvN n hi) s) : wpAny (model prog w) A (Builtin.Slice.sliceApplied (.ref sl) (pure (n : Int))) Q E s := by
  obtain ⟨os, hos, hcs, hds⟩ := id hs
  unfold Builtin.Slice.sliceApplied Builtin.Slice.sliceFields
  refine wpAny_bind (wpAny_bind (wpAny_field hos hds (x := .none) rfl (wpAny_bind (wpAny_field hos hds (x := vu) rfl (wpAny_bind (wpAny_field hos hds (x := .int (-1) t) rfl (wpAny_pure ?_)))))))
  refine wpAny_bind (slicePart_int ?_)
  show wpAny _ _ (if ((-1 : Int) == 0) = true then _ else _) _ _ s
  rw [if_neg (by decide)]
  refine wpAny_bind (slicePart_none (wpAny_bind (HT.slicePart_ pu (wpAny_bind (wpAny_pure ?_)))))
  obtain ⟨e1, e2⟩ := adjust_down hi n
  show wpAny _ _ (match Builtin.Slice.sliceAdjust none hi (-1) (n : Int) with | (lo, hi) => pure (lo, (-1 : Int), Builtin.Slice.slicePlaces lo hi (-1))) _ _ s
  rw [← e1, ← e2] at h
  exact wpAny_pure h
theorem getItem_tuple_down {t sl : Addr} {items : Array Value} {vu : Value} {hi : Option Int} {k : Tok} {Q : Value → Shared → Prop} (ht : IsTup s.heap t items) (hs : s.heap.IsSliceOf sl .none vu (.int (-1) k)) (pu : IsPart vu hi)
    (h : Q (.ref s.heap.objs.size) { s with heap := s.heap.push { cls := .type "tuple", data := .seq (revCut items.toList hi).toArray } })
    (hsz : items.size ≤ sizeLine) : wpAny (model prog w) A (getItem (.ref t) (.ref sl)) Q E s := by
  have htake : sizeOk (.seq (revCut items.toList hi).toArray) := by
    show (revCut items.toList hi).toArray.size ≤ sizeLine
    exact Nat.le_trans (by simpa using revCut_le items.toList hi) hsz
  obtain ⟨os, hos, hcs, hds⟩ := id hs
  have hTs : s.TypeIs (.ref sl) "slice" := ⟨os, hos, hcs⟩
  unfold getItem
  try with_reducible refine wpAny_holding ?_
  first | refine wpAny_bind (wpAny_pure ?_) | skip
  refine wpAny_bind (wpAny_sequenceKey ht.typeIs (by decide) ?_)
  refine wpAny_bind (wpAny_callSpecial?_slot (name := Str.ofString "__getitem__") ht.typeIs PyProof.Rows.slot_tuple_getitem
    (wpAny_call_entry PyProof.Rows.slot_tuple_getitem ht.typeIs entry_tuple_getitem ?_ (args_tuple_getitem _ _)))
  show wpAny _ _ (Builtin.Tuple.tupleItemsOf (.ref t) >>= _) _ _ s
  refine wpAny_bind (tupleItemsOf_ ht ?_)
  refine wpAny_bind (wpAny_typeOf hTs ?_)
  rw [if_pos (by decide)]
  refine wpAny_bind (sliceApplied_down hs pu ?_)
  have hno : ¬ ((((items.size : Int) - 1) == 0 && (-1 : Int) == 1 && (rvN items.size hi) == items.size) = true) := by
    intro q
    rw [Bool.and_eq_true, Bool.and_eq_true] at q
    exact absurd (eq_of_beq q.1.2) (by decide)
  show wpAny _ _ (if (((items.size : Int) - 1) == 0 && (-1 : Int) == 1 && (rvN items.size hi) == items.size) = true then _ else _) _ _ s
  rw [if_neg hno]
  have pk : ((List.range (rvN items.size hi)).filterMap fun (m : Nat) => items[(((items.size : Int) - 1) + (m : Int) * -1).toNat]?).toArray = (revCut items.toList hi).toArray := by
    rw [← revCut_run items.toList hi, Array.length_toList]
    congr 1
    refine filterMap_same fun m hm => ?_
    have hm := List.mem_range.mp hm
    have : rvN items.size hi ≤ items.size := by unfold rvN; omega
    rw [show (((items.size : Int) - 1) + (m : Int) * -1).toNat = items.size - 1 - m by omega]
    simp
  rw [pk]
  first
    | exact wpAny_bind (m := Builtin.Tuple.tupleExact _) (wpAny_newObj_type (wpAny_pure ⟨_, rfl, wpAny_pure h⟩) htake)
    | exact wpAny_bind (m := Builtin.Tuple.tupleExact _) (wpAny_newObj_type (wpAny_bind (wpAny_pure (wpAny_pure ⟨_, rfl, wpAny_pure h⟩))) htake)
    | exact wpAny_bind (wpAny_bind (m := Builtin.Tuple.tupleExact _) (wpAny_newObj_type (wpAny_pure (wpAny_pure ⟨_, rfl, wpAny_pure h⟩)) htake))
    | exact wpAny_bind (wpAny_bind (m := Builtin.Tuple.tupleExact _) (wpAny_newObj_type (wpAny_pure ⟨_, rfl, wpAny_pure h⟩) htake))
end
end S

namespace J
open PySem PySem.Spec PyProof.Rows L2 S
theorem rvs.rcut {K : Ct} {H : Hp} {xs : List Dv} {vs : List V} {hi : Option Int} (r : rvs K H xs vs) : rvs K H (revCut xs hi) (revCut vs hi) := by
  unfold revCut
  rw [← r.length]
  exact (r.drop _).reverse
/-- x[:hi:-1] -/
def qSlD (x : Dv) (hi : Option Int) (G : Hq) (Q : KQ) : Prop := match x with
  | .tup xs => Q (.tup (revCut xs hi)) G
  | .fl xs => qNew (.lst (revCut xs hi)) G Q
  | .ad p => ∃ xs, G p = some (.lst xs) ∧ qNew (.lst (revCut xs hi)) G Q
  | _ => False
theorem qSlD.mono (x : Dv) (hi : Option Int) : Mono0 (qSlD x hi) := fun G Q Q' q h => by
  unfold qSlD at h ⊢
  split at h
  · exact q _ _ h
  · exact qNew.mono _ _ _ q h
  · obtain ⟨xs, e, a⟩ := h; exact ⟨xs, e, qNew.mono _ _ _ q a⟩
  · exact h
theorem IsPart.m1 {v : Value} {o : Option Int} (p : IsPart v o) (h : o = some (-1)) : ∃ t, v = .int (-1) t := by
  cases p with
  | none => cases h
  | int i t => cases h; exact ⟨t, rfl⟩
def jSlD (te : Jt Dv) (th ts : Jt (Option Int)) : Jt Dv := jb te fun x => jb th fun u => jb ts fun k => jp fun G Q => k = some (-1) ∧ qSlD x u G Q
section
variable {X : Cx}
theorem sl_down {pins : List (Addr × Obj)} {s : Shared} {σ : L2.St} {H : Hp} {G : Hq} {x : Dv} {vx : V} {v vu vt : Value} {hi st : Option Int} {sl : Addr} {Q : VK} (I : Inv X pins σ H s) (rx : rv (ctOf X) H x vx) (rv' : RelV vx v) (b : rh (ctOf X) G H) (hs : s.heap.IsSliceOf sl .none vu vt) (pu : IsPart vu hi) (pt : IsPart vt st) (hst : st = some (-1))
    (k : qSlD x hi G (LQ (ctOf X) (rv (ctOf X)) H Q)) : ∃ T id, typeLookup (.type T) "__getitem__" = pure (some (.builtin id)) ∧ s.TypeIs v T ∧ wpAny (model X.prog X.w) X.A (getItem v (.ref sl)) (EP X pins σ Q) X.xe s := by
  have lst : ∀ (a : Addr) (xs : List Dv) (vs : List V), vx = .ref a → SqL X.K H a vs → rvs (ctOf X) H xs vs → qNew (.lst (revCut xs hi)) G (LQ (ctOf X) (rv (ctOf X)) H Q) →
      ∃ T id, typeLookup (.type T) "__getitem__" = pure (some (.builtin id)) ∧ s.TypeIs v T ∧ wpAny (model X.prog X.w) X.A (getItem v (.ref sl)) (EP X pins σ Q) X.xe s := by
    intro a xs vs e sq rr q
    subst e
    cases rv'
    obtain ⟨its, r, ht, hz⟩ := I.list sq
    have hlen := r.length
    refine ⟨"list", _, slot_list_getitem.lookup, ht.isList.typeIs, ?_⟩
    refine wpAny_getItem_list_slice ht.isList hs .none pu pt (by rw [hst]; decide) ?_ (by rw [List.size_toArray] <;> omega)
    rw [hst, slicePick_down]
    have rr2 := rr.rcut (hi := hi)
    refine ⟨.ref s.heap.objs.size, _, I.laid (t' := s.toks) (o := .lst (revCut vs hi)) (fun b ob q => Heap.get?_push_of_some _ q) (Nat.le_refl _) ?_, rfl, new_lst b rr2 q _ (I.hok.fresh (Nat.le_refl _))⟩
    refine ⟨Nat.le_trans (revCut_le vs hi) hz, _, 0, ?_, Heap.get?_push_size _ rfl⟩
    unfold revCut
    rw [hlen]
    exact (r.drop _).reverse
  unfold qSlD at k
  split at k
  · unfold rv at rx
    obtain ⟨a, vs, e, sq, rr⟩ := rx
    subst e
    cases rv'
    obtain ⟨its, r, ht, hz⟩ := I.tuple sq
    have hlen := r.length
    refine ⟨"tuple", _, PyProof.Rows.slot_tuple_getitem.lookup, ht.typeIs, ?_⟩
    obtain ⟨t, et⟩ := IsPart.m1 pt hst
    subst et
    refine getItem_tuple_down ht hs pu ?_ (by rw [List.size_toArray] <;> omega)
    have rr2 := rr.rcut (hi := hi)
    have l := Le.new (K := ctOf X) (p := s.heap.objs.size) (o := .tup (revCut vs hi)) (I.hok.fresh (Nat.le_refl _))
    refine ⟨.ref s.heap.objs.size, _, I.laid (t' := s.toks) (o := .tup (revCut vs hi)) (fun b ob q => Heap.get?_push_of_some _ q) (Nat.le_refl _) ?_, rfl, k _ _ l ?_ (b.keep l fun b u q => by rw [upd_ne (ne_of_none q (I.hok.fresh (Nat.le_refl _)))]; exact q)⟩
    · refine ⟨Nat.le_trans (revCut_le vs hi) hz, _, ?_, IsTup.new _ _⟩
      unfold revCut
      rw [hlen]
      exact (r.drop _).reverse
    · unfold rv
      exact ⟨_, _, rfl, .inl (.inl upd_same), rr2.le l⟩
  · unfold rv at rx
    obtain ⟨a, vs, e, sq, rr⟩ := rx
    exact lst a _ vs e sq.sq rr k
  · obtain ⟨xs, e1, q⟩ := k
    unfold rv at rx
    obtain ⟨vs, ev, rr⟩ := b _ _ e1
    exact lst _ xs vs rx (SqL.of ev) rr q
  · exact k.elim
theorem je_slD {e st : Expr} {hi : Option Expr} {te : Jt Dv} {th ts : Jt (Option Int)} {p2 pos : Pos} (he : JE X e te) (hu : JO X hi th) (hs : JO X (some st) ts) : JE X (.Subscript e (.Slice none hi (some st) p2) pos) (jSlD te th ts) := by
  have m4 : ∀ x u k, Mono (jp (α := Dv) fun G (Q : KQ) => k = some (-1) ∧ qSlD x u G Q) := fun x u k => jp.mono fun G Q Q' q h => ⟨h.1, qSlD.mono x u G Q Q' q h.2⟩
  have m3 : ∀ x u, Mono (jb ts fun k => jp (α := Dv) fun G (Q : KQ) => k = some (-1) ∧ qSlD x u G Q) := fun x u => jb.mono hs.mono fun k => m4 x u k
  have m2 : ∀ x, Mono (jb th fun u => jb ts fun k => jp (α := Dv) fun G (Q : KQ) => k = some (-1) ∧ qSlD x u G Q) := fun x => jb.mono hu.mono fun u => m3 x u
  refine ⟨jb.mono he.mono m2, fun Wc tk => ⟨fun pins s σ H Q I h => ?_⟩⟩
  refine Subscript_ (thn ((he.pe Wc tk).run pins s σ H _ I (LG.bind (rel := rv _) he.mono m2 h)) fun v s1 ⟨vx, H1, I1, r1, l1, x, rx, q1⟩ => ?_)
  refine wpAny_Slice ?_
  rw [evalPart_none]
  refine wpAny_pure ?_
  refine thn ((hu.po Wc tk).run pins s1 σ H1 _ I1 (LG.bind (rel := eqr) hu.mono (m3 x) q1)) fun vu s2 ⟨ou, H2, I2, pu, l2, u, ru, q2⟩ => ?_
  refine thn ((hs.po Wc tk).run pins s2 σ H2 _ I2 (LG.bind (rel := eqr) hs.mono (m4 x u) q2)) fun vt s3 ⟨ot, H3, I3, pt, l3, k, rk, τ, G, a, b, z, q3⟩ => ?_
  cases (show u = ou from ru)
  cases (show k = ot from rk)
  have I4 : Inv X pins σ H3 { s3 with heap := s3.heap.push { cls := .type "slice", data := .fields #[.none, vu, vt] } } := I3.kept (t' := s3.toks) fun b ob q => Heap.get?_push_of_some _ q
  obtain ⟨T, id, hT, ht, hg⟩ := sl_down I4 ((rx.le l2).le l3) r1 b (Heap.IsSliceOf.new ..) pu pt z q3
  show wpAny (model X.prog X.w) X.A (subscriptTail e (.Slice none hi (some st) p2) v (.ref s3.heap.objs.size)) (EP X pins σ Q) X.xe { s3 with heap := s3.heap.push { cls := .type "slice", data := .fields #[.none, vu, vt] } }
  exact tail_any (ops := [v, .ref s3.heap.objs.size]) ht hT hg (by with_unfolding_all rfl)
end
end J

set_option Elab.async false
set_option linter.all false
set_option maxRecDepth 100000
set_option maxHeartbeats 4000000
/-! S9: dicts with keys that are ints and texts. -/
namespace J
open PySem PySem.Spec PyProof.Rows L2 S
def kDv : Key → Dv
  | .inl i => .int i
  | .inr x => .str x
def dKey : Dv → Option Key
  | .int i => some (.inl i)
  | .str x => some (.inr x)
  | _ => none
theorem dKey_rv {K : Ct} {H : Hp} {x : Dv} {v : V} {k : Key} (h : dKey x = some k) (r : rv K H x v) : v = kV k := by
  cases x with
  | int i => unfold rv at r; cases h; exact r
  | str z => unfold rv at r; cases h; exact r
  | _ => cases h
section
variable {κ β : Type} [DecidableEq κ]
def gGet (kvs : List (κ × β)) (k : κ) : Option β := (kvs.find? fun kv => decide (kv.1 = k)).map (·.2)
def gPut (kvs : List (κ × β)) (k : κ) (v : β) : List (κ × β) :=
  if (kvs.any fun kv => decide (kv.1 = k)) = true then kvs.map (fun kv => if kv.1 = k then (kv.1, v) else kv) else kvs ++ [(k, v)]
def gMerge (kvs more : List (κ × β)) : List (κ × β) := more.foldl (fun acc kv => gPut acc kv.1 kv.2) kvs
end
section
variable {K : Ct} {H : Hp}
theorem rkv.get {kvs : List (Key × Dv)} {vs : List (Key × V)} (r : rkv K H kvs vs) {k : Key} {x : Dv} (h : gGet kvs k = some x) : ∃ v, valV vs k = some v ∧ rv K H x v := by
  unfold rkv at r
  induction r with
  | nil => cases h
  | @cons p q ps qs a t ih =>
    by_cases e : p.1 = k
    · have : gGet (p :: ps) k = some p.2 := by simp [gGet, List.find?_cons, e]
      rw [this] at h; cases h
      exact ⟨q.2, valV_pos (a.1.symm.trans e), a.2⟩
    · have : gGet (p :: ps) k = gGet ps k := by simp [gGet, List.find?_cons, e]
      rw [this] at h
      obtain ⟨v, e1, e2⟩ := ih h
      exact ⟨v, by rw [valV_neg (fun z => e (a.1.trans z))]; exact e1, e2⟩
theorem rkv.none {kvs : List (Key × Dv)} {vs : List (Key × V)} (r : rkv K H kvs vs) {k : Key} (h : gGet kvs k = none) : valV vs k = none := by
  unfold rkv at r
  induction r with
  | nil => rfl
  | @cons p q ps qs a t ih =>
    by_cases e : p.1 = k
    · have : gGet (p :: ps) k = some p.2 := by simp [gGet, List.find?_cons, e]
      rw [this] at h; cases h
    · have : gGet (p :: ps) k = gGet ps k := by simp [gGet, List.find?_cons, e]
      rw [this] at h
      rw [valV_neg (fun z => e (a.1.trans z))]; exact ih h
theorem rkv.any {kvs : List (Key × Dv)} {vs : List (Key × V)} (r : rkv K H kvs vs) (k : Key) : (kvs.any fun kv => decide (kv.1 = k)) = (vs.any fun kv => decide (kv.1 = k)) := by
  unfold rkv at r
  induction r with
  | nil => rfl
  | @cons p q ps qs a t ih => rw [List.any_cons, List.any_cons, ih, a.1]
theorem rkv.repl {kvs : List (Key × Dv)} {vs : List (Key × V)} (r : rkv K H kvs vs) (k : Key) {x : Dv} {v : V} (rx : rv K H x v) : rkv K H (kvs.map fun kv => if kv.1 = k then (kv.1, x) else kv) (vs.map fun kv => if kv.1 = k then (kv.1, v) else kv) := by
  unfold rkv at r ⊢
  induction r with
  | nil => exact .nil
  | @cons p q ps qs a t ih =>
    rw [List.map_cons, List.map_cons]
    refine .cons ?_ ih
    by_cases e : p.1 = k
    · rw [if_pos e, if_pos (a.1.symm.trans e)]; exact ⟨a.1, rx⟩
    · rw [if_neg e, if_neg (fun z => e (a.1.trans z))]; exact a
theorem rkv.put {kvs : List (Key × Dv)} {vs : List (Key × V)} (r : rkv K H kvs vs) (k : Key) {x : Dv} {v : V} (rx : rv K H x v) : rkv K H (gPut kvs k x) (putK vs k v) := by
  unfold gPut putK
  rw [r.any k]
  by_cases e : (vs.any fun kv => decide (kv.1 = k)) = true
  · rw [if_pos e, if_pos e]; exact r.repl k rx
  · rw [if_neg e, if_neg e]; exact Paired.snoc r ⟨rfl, rx⟩
theorem rkv.length {kvs : List (Key × Dv)} {vs : List (Key × V)} (r : rkv K H kvs vs) : kvs.length = vs.length := Paired.length r
theorem rkv.merge {more : List (Key × Dv)} {rs : List (Key × V)} (r : rkv K H more rs) : ∀ {kvs : List (Key × Dv)} {vs : List (Key × V)}, rkv K H kvs vs → rkv K H (gMerge kvs more) (mergeK vs rs) := by
  unfold rkv at r
  induction r with
  | nil => intro kvs vs q; exact q
  | @cons p q ps qs h t ih =>
    intro kvs vs r0
    have e : rkv K H (gPut kvs p.1 p.2) (putK vs q.1 q.2) := by
      have := r0.put p.1 h.2
      rw [← h.1]; exact this
    exact ih e
theorem rkv.zip : ∀ {ks : List Key} {ys : List Dv} {vs : List V}, rvs K H ys vs → rkv K H (ks.zip ys) (ks.zip vs)
  | [], ys, vs, r => by rw [List.zip_nil_left, List.zip_nil_left]; exact .nil
  | k :: ks, [], vs, r => by rw [r.inv0, List.zip_nil_right, List.zip_nil_right]; exact .nil
  | k :: ks, y :: ys, vs, r => by
    obtain ⟨v, vr, e, r1, r2⟩ := r.inv
    subst e
    rw [List.zip_cons_cons, List.zip_cons_cons]
    exact .cons ⟨rfl, r1⟩ (rkv.zip r2)
theorem keys_rvs : ∀ {ks : List Key} {vs : List V}, rvs K H (ks.map kDv) vs → vs = ks.map kV
  | [], vs, r => r.inv0
  | k :: ks, vs, r => by
    obtain ⟨v, vr, e, r1, r2⟩ := rvs.inv (show rvs K H (kDv k :: ks.map kDv) vs from r)
    subst e
    rw [keys_rvs r2, dKey_rv (k := k) (by cases k <;> rfl) r1]; rfl
end
/-- a[i], of dicts too -/
def qIxD : Q2 := fun x y G Q => ∃ p kvs k v, x = .ad p ∧ G p = some (.dic kvs) ∧ dKey y = some k ∧ gGet kvs k = some v ∧ Q v G
def qIx2 : Q2 := fun x y G Q => qIx x y G Q ∨ qIxD x y G Q
theorem qIxD.mono (x y : Dv) : Mono0 (qIxD x y) := fun G Q Q' q ⟨p, kvs, k, v, a, b, c, d, h⟩ => ⟨p, kvs, k, v, a, b, c, d, q _ _ h⟩
theorem qIx2.mono (x y : Dv) : Mono0 (qIx2 x y) := fun G Q Q' q h => h.imp (qIx.mono x y G Q Q' q) (qIxD.mono x y G Q Q' q)
section
variable {X : Cx}
def rDGet : R2 := fun x y H Q => ∃ a v, x = .ref a ∧ DGet H a y (some v) ∧ Q v H
theorem ix_dict (hu : X.A.units + 64 < cLine) : IxR X rDGet := by
  intro value slice pins s σ H x y v u Q I rx ry ⟨a, w, e, g, q⟩ hs
  subst e
  cases rx
  exact tail_any (dict_typeIs I g) PySem.F.slot_dict_getitem.lookup (d_getItem (by omega) I g ry fun w' s3 I3 rw' => ⟨w, H, I3, rw', q⟩) hs
theorem ji_ix2 (hu : X.A.units + 64 < cLine) : JIx X qIx2 := by
  obtain ⟨m, r, h, rf⟩ := ji_ix (X := X)
  refine ⟨qIx2.mono, _, IxR.or h (ix_dict hu), fun x y v u G H Q a b c k => ?_⟩
  rcases k with k | ⟨p, kvs, kk, w, ex, eg, ek, ev, q⟩
  · exact .inl (rf x y v u G H Q a b c k)
  · subst ex
    unfold rv at a
    subst a
    obtain ⟨vs, e1, r1⟩ := c _ _ eg
    obtain ⟨w', e2, r2⟩ := r1.get ev
    have := dKey_rv ek b
    subst this
    exact .inr ⟨p, w', rfl, .inl ⟨vs, kk, .inl e1, rfl, e2.symm⟩, q _ H (Le.refl H) r2 c⟩

/-! ### dict(zip(a, b)) of two lists -/
def jDictZ (ta : Jt (List Dv)) : Jt Dv := jb ta fun ws => jp fun G Q => ∃ p q, ∃ ks : List Key, ∃ ys : List Dv, ws = [.ad p, .ad q] ∧ G p = some (.lst (ks.map kDv)) ∧ G q = some (.lst ys) ∧ qNew (.dic (gMerge [] (ks.zip ys))) G Q
theorem je_dictZ {a b : Expr} {ta : Jt (List Dv)} {p p2 q pos : Pos} (hc : X.calm = true) (hg : Gl X "dict") (hm : X.mg "dict" = none) (hg2 : Gl X "zip") (hm2 : X.mg "zip" = none) (ha : JA X [a, b] ta)
    (na : starEach [a, b] X.env = (false, eval a X.env) :: starEach [b] X.env := by rfl) (nb : (backTo q (starEach [b] X.env)).any (·.1) = false := by rfl) : JE X (.Call (.Name "dict" p) [.Call (.Name "zip" p2) [a, b] [] q] [] pos) (jDictZ ta) := by
  have m : ∀ ws : List Dv, Mono0 (fun G (Q : KQ) => ∃ p q, ∃ ks : List Key, ∃ ys : List Dv, ws = [.ad p, .ad q] ∧ G p = some (.lst (ks.map kDv)) ∧ G q = some (.lst ys) ∧ qNew (.dic (gMerge [] (ks.zip ys))) G Q) := fun ws G Q Q' k ⟨p, q, ks, ys, a, b, c, h⟩ => ⟨p, q, ks, ys, a, b, c, qNew.mono _ _ _ k h⟩
  refine ⟨jb.mono ha.mono fun ws => jp.mono (m ws), fun Wc tk => ⟨fun pins s σ H Q I h => ?_⟩⟩
  have h2 := LG.bind (rel := rvs (ctOf X)) (rel2 := rv (ctOf X)) ha.mono (fun ws => jp.mono (m ws)) h
  refine Call_ (ld_blt I hg hm boot_dict ?_)
  refine callWith_type1 (args_cons ?_ rfl) rfl rfl
  refine Call_ (ld_blt I hg2 hm2 PyProof.Rows.boot_zip ?_)
  refine callWith_type1 (thn ((ha.pa Wc tk).run q pins s σ H _ I h2) fun us s1 ⟨vs, H1, I1, r1, l, ws, rx, τ, G, a', b', p1, p2, ks, ys, ew, g1, g2, k⟩ => ?_) na nb
  subst ew
  obtain ⟨v1, v2, ev, q1, q2⟩ := rvs2 rx
  subst ev
  unfold rv at q1 q2
  subst q1; subst q2
  obtain ⟨vk, hk1, rk⟩ := b' _ _ g1
  obtain ⟨vy, hy1, ry⟩ := b' _ _ g2
  have ek := keys_rvs rk
  subst ek
  cases r1 with
  | cons r rr =>
    cases rr with
    | cons r' rr =>
      cases rr
      cases r
      cases r'
      obtain ⟨its, rv1, pl1, z1⟩ := I1.list (SqL.of hk1)
      obtain ⟨its2, rv2, pl2, z2⟩ := I1.list (SqL.of hy1)
      refine call_zip_2 pl1.isList pl2.isList fun h' hz hTI hTO h1 h2' hsz hk => args_nil ?_
      have hh := I1.ok.hd hc
      have D := PySem.W.ktu_apart s1.heap.objs.size p1 p2 pl1.lt pl2.lt
      have old : ∀ b o, s1.heap.get? b = some o → b ∉ [s1.heap.objs.size + 4, s1.heap.objs.size + 3, s1.heap.objs.size, s1.heap.objs.size + 1] := fun b o e hm => by
        have lt := Heap.lt_size e
        rcases List.mem_cons.mp hm with z | hm
        · exact absurd lt (by rw [z]; exact Nat.not_lt.mpr (Nat.le_add_right _ _))
        rcases List.mem_cons.mp hm with z | hm
        · exact absurd lt (by rw [z]; exact Nat.not_lt.mpr (Nat.le_add_right _ _))
        rcases List.mem_cons.mp hm with z | hm
        · exact absurd lt (by rw [z]; exact Nat.lt_irrefl _)
        rcases List.mem_cons.mp hm with z | hm
        · exact absurd lt (by rw [z]; exact Nat.not_lt.mpr (Nat.le_add_right _ _))
        · cases hm
      have l1' : h'.IsList p1 its.toArray := pl1.isList.at fun o e => hk _ o e
      have l2' : h'.IsList p2 its2.toArray := pl2.isList.at fun o e => hk _ o e
      refine call_dict_pairs (knd := mixKind X.prog X.w) (kvs := ks.zip its2) (PairArg.zip (prog := X.prog) (w := X.w) (s1.heap.objs.size + 4) (s1.heap.objs.size + 2) (s1.heap.objs.size + 3) s1.heap.objs.size (s1.heap.objs.size + 1) p1 p2 D its.toArray its2.toArray) hh ⟨hz, hTI, ⟨_, _, hTO⟩, h1, h2', l1', l2'⟩ ?_ ?_ fun h'' tk hd' hk2 => ?_
      · refine ⟨by rw [List.length_zip, List.size_toArray, List.size_toArray, ← rv1.length, List.length_map], fun i key v ⟨e1, e2⟩ => ?_⟩
        have e1' : its[i]? = some key := by simpa using e1
        have e2' : its2[i]? = some v := by simpa using e2
        have il : i < its.length := by
          rcases Nat.lt_or_ge i its.length with z | z
          · exact z
          · rw [List.getElem?_eq_none z] at e1'; cases e1'
        have il2 : i < (ks.map kV).length := by rw [rv1.length]; exact il
        have il3 : i < ks.length := by simpa using il2
        obtain ⟨u, e3, e4⟩ := rv1.get (List.getElem?_eq_getElem il2)
        rw [e1'] at e3; cases e3
        refine ⟨ks[i], ?_, kV_is (by simpa using e4)⟩
        rw [List.getElem?_zip_eq_some]
        exact ⟨List.getElem?_eq_getElem il3, e2'⟩
      · exact Nat.le_trans (Nat.min_le_left _ _) (by rw [List.size_toArray, ← rv1.length]; exact z1)
      · have kp : ∀ b o, s1.heap.get? b = some o → h''.get? b = some o := fun b o e => hk2 b o (old b o e) (hk b o e)
        have ge : s1.heap.objs.size ≤ h'.objs.size := by rw [hsz]; omega
        have hH : H1 h'.objs.size = none := I1.hok.fresh ge
        have big := I1.big
        have hm' : (h'.objs.size == sysModules) = false := beq_eq_false_iff_ne.mpr (Nat.ne_of_gt (by rw [hsz]; exact Nat.lt_of_lt_of_le big (Nat.le_add_right _ _)))
        have kv0 : ∀ (ks : List Key) (vy : List V) (its2 : List Value), Vals vy its2 → KV (ks.zip vy) (ks.zip its2) := by
          intro ks
          induction ks with
          | nil => intro vy its2 _; rw [List.zip_nil_left, List.zip_nil_left]; exact .nil
          | cons k ks ih =>
            intro vy its2 r
            cases r with
            | nil => rw [List.zip_nil_right, List.zip_nil_right]; exact .nil
            | cons a t => rw [List.zip_cons_cons, List.zip_cons_cons]; exact .cons ⟨rfl, a⟩ (ih _ _ t)
        have len : (mergeK [] (ks.zip vy)).length ≤ sizeLine := by
          refine Nat.le_trans (length_mergeK _ []) ?_
          rw [List.length_nil, Nat.zero_add, List.length_zip]
          rw [List.length_map] at z1
          omega
        have I2 : Inv X pins σ (upd H1 h'.objs.size (.dK (mergeK [] (ks.zip vy)))) { s1 with heap := h'', toks := tk } := I1.laid kp ge ⟨len, hm', _, KV.merge (kv0 ks vy its2 rv2) .nil, hd'⟩
        have le := Le.new (K := ctOf X) (p := h'.objs.size) (o := .dK (mergeK [] (ks.zip vy))) hH
        exact ⟨.ref h'.objs.size, _, I2, rfl, k _ (b'.fresh hH) _ _ le (by unfold rv; rfl) (b'.new hH ⟨_, upd_same, rkv.merge (rkv.zip (ry.le le)) .nil⟩)⟩
end
end J

set_option Elab.async false
set_option linter.all false
set_option maxRecDepth 100000
set_option maxHeartbeats 4000000
/-! S10: == and != by an own __eq__. -/
namespace S
open PySem PySem.W PySem.Calls PyProof.Rows Builtin
theorem slot_obj_ne : Slot "object" "__ne__" "object.__ne__" :=
  .of (owner := "object") (n := "__ne__") (by rw [typeLookup_type, builtinLookup_eq_fast]; kernel_rfl) (by decide +kernel) (by decide +kernel) (by decide +kernel)
    (by first | exact .inl (by decide +kernel) | exact .inr (by decide +kernel)) (by rw [isSubtype_type]; kernel_rfl)
section
variable {prog : Program} {w : World} {A A₀ : Around} {E : Value → Shared → Prop} {s : Shared} {K : Frag} {x C L f : Addr} {h₀ : Heap} {m : Str → Option Value} {ox : Obj} {od : Option Obj} {name : Str} {b tb : Value}
theorem ifBound_ne {M : Model} {args : List Value} {Q : Option Value → Shared → Prop} (X : K.In s.heap) (I : InstAt s.heap x ox C od) (hs : findIn K (.ref C) "__ne__" = some (some (.builtin "object.__ne__")))
    (h : wpAny M A (call (.builtin "object.__ne__") (.ref x :: args)) (fun v => Q (some v)) E s) : wpAny M A (callSpecialIfBound? (.ref x) "__ne__" args) Q E s := by
  simp only [callSpecialIfBound?, bindSpecialIfBound?]
  refine wpAny_holding (wpAny_bind (wpAny_bind (wpAny_bind (I.type.here ((looks_findIn X hs).here ?_)))))
  simp only [slot_obj_ne.bind]
  refine wpAny_bind (wpAny_askSetting (wpAny_ite ?_))
  have fin : wpAny M A (call (.builtin "object.__ne__") ([.ref x] ++ args) >>= fun v => pure (some v)) Q E s := wpAny_bind (wpAny_mono h (fun v s' h' => wpAny_pure h') fun _ _ h' => h')
  split
  · exact wpAny_bind (wpAny_pure (wpAny_pure fin))
  · exact wpAny_tryCatch (wpAny_bind (wpAny_pure (wpAny_pure fin)))
theorem check_obj_ne {M : Model} {Q : Unit → Shared → Prop} (X : K.In s.heap) (I : InstAt s.heap x ox C od) (hob : mroIn K C (.type "object") = some true) (hq : Q () s) :
    wpAny M A (checkBuiltinCall "object.__ne__" ⟨[.ref x, b], []⟩) Q E s := by
  obtain ⟨hh, g, dr, t, os⟩ := s
  have L0 := I.type (M := M)
  have L1 := looks_mroIn (M := M) X hob
  have hk := F.cmpKind_ne
  have hs := F.cmpSplit_ne
  simp only [checkBuiltinCall, hk, hs]
  unfold isInstance
  repeat lk
  exact hq
theorem objNe_K {Q : Fin → Shared → Prop} (X : K.In s.heap) (I : InstAt s.heap x ox C od) (hs : findIn K (.ref C) "__eq__" = some (some (.ref f))) (hf : isFn K (.ref f) = true) (hu : A.units < cLine)
    (hcall : wpAny (model prog w) A (call (.ref f) [.ref x, b]) (fun v s' => ∃ k, v = .bool k ∧ Q (.done (.ret (.bool (!k)))) s') E s) :
    wpAny (model prog w) A (Builtin.«object.__ne__» ⟨[.ref x, b], []⟩) Q E s := by
  obtain ⟨h, g, d, t, os⟩ := s
  unfold Builtin.«object.__ne__»
  repeat (first
    | with_reducible refine wpAny_cRoomFor hu ?_
    | (refine wpAny_bind (m := callSpecialIfBound? (.ref x) (Str.ofString "__eq__") [b])
        (ifBound_K X I hs hf (wpAny_mono hcall (fun r s' hr => by
          obtain ⟨b, rfl, hq⟩ := hr
          repeat (first | exact hq | exact wpAny_pure hq | exact wpAny_truthy_bool hq | (refine wpAny_bind (m := truthy (.bool _)) (wpAny_truthy_bool ?_)) | wp_step)) fun _ _ e => e)))
    | wp_step)
theorem ne_K {Q : Value → Shared → Prop} (hu : A.units + 1 < cLine) (F : Fr h₀ L s.heap m) (X₀ : K.In h₀) (I : InstAt s.heap x ox C od) (hb : Looks (model prog w) s.heap (typeOf b) tb) (hn : notFirst K C tb = true)
    (hne : findIn K (.ref C) "__ne__" = some (some (.builtin "object.__ne__"))) (hob : mroIn K C (.type "object") = some true) (hs : findIn K (.ref C) "__eq__" = some (some (.ref f))) (hf : isFn K (.ref f) = true)
    (h : wpAny (model prog w) A.in1 (call (.ref f) [.ref x, b]) (fun v s' => ∃ k, v = .bool k ∧ Q (.bool (!k)) s') E s) : wpAny (model prog w) A (richCompare .NotEq (.ref x) b) Q E s := by
  have X := X₀.keeps F.keep
  have one : wpAny (model prog w) A (tryCompare (.ref x) "__ne__" b) (fun r s' => ∃ v, r = some v ∧ Q v s') E s := by
    unfold tryCompare
    refine wpAny_bind (ifBound_ne X I hne (wpAny_call (codeAny_call_builtin slot_obj_ne.plain PySem.F.cmpEntry_ne (check_obj_ne X I hob (objNe_K (A := A.in1) X I hs hf hu (wpAny_mono h (fun v s' hv => ?_) fun _ _ e => e))))))
    obtain ⟨k, rfl, hq⟩ := hv
    first | exact ⟨k, rfl, wpAny_pure ⟨_, rfl, hq⟩⟩ | exact ⟨k, rfl, wpAny_pure (wpAny_pure ⟨_, rfl, hq⟩)⟩ | exact ⟨k, rfl, ⟨_, rfl, hq⟩⟩
  unfold richCompare
  simp only [oneThing_ref]
  refine wpAny_holding (wpAny_bind (wpAny_cRoomFor (Nat.lt_of_succ_lt hu) ?_))
  refine wpAny_bind (I.type.here (wpAny_bind (hb.here ?_)))
  split
  · rename_i q
    have e : subIn K tb (.ref C) = some false := by
      rcases Bool.or_eq_true_iff.mp hn with e | e
      · rw [beq_iff_eq.mp e] at q; simp at q
      · exact beq_iff_eq.mp e
    refine wpAny_bind ((looks_subIn X e).here ?_)
    simp only [Bool.false_eq_true, if_false]
    refine wpAny_bind (wpAny_mono one (fun r s' z => ?_) fun _ _ e => e)
    obtain ⟨v, rfl, hq⟩ := z
    exact wpAny_pure hq
  · refine wpAny_bind (wpAny_pure ?_)
    simp only [Bool.false_eq_true, if_false]
    refine wpAny_bind (wpAny_mono one (fun r s' z => ?_) fun _ _ e => e)
    obtain ⟨v, rfl, hq⟩ := z
    exact wpAny_pure hq
end
end S
namespace J
open PySem PySem.Spec PyProof.Rows L2 S
/-- x == y by the own __eq__ of x's class, which promises sp -/
def qOwn (neg : Bool) (K : PySem.W.Frag) (C : Addr) (sp : Sq) : Q2 := fun x y G Q => ∃ a fs t, x = .ad a ∧ G a = some (.ins C fs) ∧ TyD K G y t ∧ PySem.W.notFirst K C t = true ∧ sp [x, y] G (fun v G1 => ∃ b, v = .bl b ∧ Q (.bl (xor neg b)) G1) fun _ _ _ => False
theorem qOwn.mono {neg K C} {sp : Sq} (ms : MonoSq sp) (x y : Dv) : Mono0 (qOwn neg K C sp x y) := fun G Q Q' q ⟨a, fs, t, e, g, ty, n, h⟩ =>
  ⟨a, fs, t, e, g, ty, n, ms _ _ _ _ _ _ (fun v G1 ⟨b, e, k⟩ => ⟨b, e, q _ _ k⟩) (fun _ _ _ z => z) h⟩
/-- the facts of the class at C with the own __eq__ f -/
structure EqC (K : PySem.W.Frag) (C f : Addr) : Prop where
  eq : PySem.W.findIn K (.ref C) "__eq__" = some (some (.ref f))
  fn : PySem.W.isFn K (.ref f) = true
  ne : PySem.W.findIn K (.ref C) "__ne__" = some (some (.builtin "object.__ne__"))
  ob : PySem.W.mroIn K C (.type "object") = some true
section
variable {X : Cx}
theorem cx_false {P : Program} {w : World} {o : List Env} {H : Hp} {s : Shared} {u : Value} {s' : Shared} (c : L2.CX P w o H s (fun _ _ _ => False) u s') : False := by
  obtain ⟨a, B, H', cls, d, _, _, _, _, _, _, _, hE⟩ := c
  exact hE
/-- the call of the own __eq__ -/
theorem own_call {k : Nat} {f : Addr} {fd : FuncData} {ps : List Str} {sp : Sq} (F : FnOk X.prog X.w X.K X.mg X.base (L2.CX X.prog X.w) k f fd ps (LSp (ctOf X) sp)) (ms : MonoSq sp) (hb : Binds X.K fd ps []) {A : Around} (hr : Room k A) (hfr : A.frames = X.A.frames)
    {pins : List (Addr × Obj)} {s : Shared} {σ : L2.St} {H : Hp} {G : Hq} {x y : Dv} {v u : V} {v' u' : Value} (I : Inv X pins σ H s) (rx : rv (ctOf X) H x v) (ry : rv (ctOf X) H y u) (rv' : RelV v v') (ru : RelV u u') (b : rh (ctOf X) G H) {Q : Bool → Hp → Prop}
    (h : sp [x, y] G (fun w G1 => ∃ b, w = .bl b ∧ LQ (ctOf X) eqr H Q b G1) fun _ _ _ => False) :
    wpAny (model X.prog X.w) A (call (.ref f) [v', u']) (fun r s' => ∃ k H', r = .bool k ∧ Inv X pins σ H' s' ∧ Q k H') X.xe s := by
  have hsp : LSp (ctOf X) sp [v, u] H (fun w H1 => ∃ b, w = .bl b ∧ Q b H1) (fun _ _ _ => False) := by
    refine ⟨[x, y], G, ?_, b, ms _ _ _ _ _ _ (fun w G1 ⟨b, e, k⟩ v1 H1 l r g => ?_) (fun _ _ _ z => z.elim) h⟩
    · unfold rvs; refine ⟨_, _, rfl, rx, ?_⟩; unfold rvs; exact ⟨_, _, rfl, ry, rvs.nil⟩
    · subst e
      unfold rv at r
      exact ⟨b, r, k b H1 l rfl g⟩
  have e0 : Env0 X.prog X.w X.K X.mg X.base A X.stack s H := by
    have e := I.env0
    exact ⟨by rw [hfr]; exact e.frames, e.mod, e.bs, e.bsz, e.funs, e.frf, e.hok, e.bare⟩
  have hl := F.len _ _ _ _ hsp
  have r2 : Vals [v, u] [v', u'] := .cons rv' (.cons ru .nil)
  refine wpAny_call (codeAny_mono (F.run A X.stack s H ⟨[v', u'], []⟩ [v', u'] [v, u] _ _ hr e0 (by
    have := hb s [v', u'] I.kIn (by simpa using hl)
    simpa using this) r2 hsp) fun r s' hq => ?_)
  cases r with
  | error e => exact (cx_false hq).elim
  | ok fl =>
    cases fl with
    | ret w =>
      obtain ⟨z, H', I', rz, b, ez, q⟩ := I.after hq
      subst ez
      cases rz
      exact ⟨b, H', rfl, I', q⟩
    | next => exact False.elim hq
    | brk => exact False.elim hq
    | cont => exact False.elim hq
theorem jo_eqOwn {k : Nat} {C f : Addr} {fd : FuncData} {ps : List Str} {sp : Sq} (F : FnOk X.prog X.w X.K X.mg X.base (L2.CX X.prog X.w) k f fd ps (LSp (ctOf X) sp)) (ms : MonoSq sp) (hb : Binds X.K fd ps []) (hr : Room k X.A) (ec : EqC X.K C f) :
    JOp X (compareOp .Eq) (qOwn false X.K C sp) := by
  refine ⟨qOwn.mono ms, fun v u H Q => ∃ x y G, rv (ctOf X) H x v ∧ rv (ctOf X) H y u ∧ rh (ctOf X) G H ∧ qOwn false X.K C sp x y G (LQ (ctOf X) (rv (ctOf X)) H Q), ?_, fun x y v u G H Q a b c h => ⟨x, y, G, a, b, c, h⟩⟩
  intro pins s σ H v u v' u' Q I r1 r2 ⟨x, y, G, rx, ry, b, a, fs, t, ex, g, ty, nf, h⟩
  subst ex
  unfold rv at rx
  subst rx
  cases r1
  obtain ⟨dx, vs, ha, _, _⟩ := b _ _ g
  obtain ⟨mA, J, _⟩ := ins_get I.hok ha
  obtain ⟨od, J, _⟩ := J.look
  obtain ⟨m, hF⟩ := I.fr
  obtain ⟨P, kx, hP, _⟩ := kit_of I r2 (ty.tyX b ry)
  show wpAny (model X.prog X.w) X.A (richCompare .Eq (.ref a) u') (EP X pins σ Q) X.xe s
  refine PySem.W.cmp_K (op := .Eq) (tb := t) hr.units0 hF I.ok.mod.kin J (kx.ty _ _ I.kIn hP) nf ec.eq ec.fn ?_
  refine wpAny_mono (own_call F ms hb hr rfl I (by unfold rv; rfl) ry (show RelV (V.ref a) (.ref a) from rfl) r2 b (Q := fun k H' => Q (.bl k) H') (ms _ _ _ _ _ _ (fun w G1 ⟨k, e, q⟩ => ⟨k, e, fun k' H1 l e' g' => by
      cases (show k = k' from e')
      exact q (.bl k) H1 l (by show rv _ _ (.bl (xor false k)) _; rw [Bool.false_xor]; unfold rv; rfl) g'⟩) (fun _ _ _ z => z) h)) (fun r s' ⟨k, H', e, I', q⟩ => ?_) fun _ _ x => x
  · subst e
    exact ⟨.bl k, H', I', rfl, q⟩
theorem jo_neOwn {k : Nat} {C f : Addr} {fd : FuncData} {ps : List Str} {sp : Sq} (F : FnOk X.prog X.w X.K X.mg X.base (L2.CX X.prog X.w) k f fd ps (LSp (ctOf X) sp)) (ms : MonoSq sp) (hb : Binds X.K fd ps []) (hr : Room (k + 1) X.A) (ec : EqC X.K C f) :
    JOp X (compareOp .NotEq) (qOwn true X.K C sp) := by
  refine ⟨qOwn.mono ms, fun v u H Q => ∃ x y G, rv (ctOf X) H x v ∧ rv (ctOf X) H y u ∧ rh (ctOf X) G H ∧ qOwn true X.K C sp x y G (LQ (ctOf X) (rv (ctOf X)) H Q), ?_, fun x y v u G H Q a b c h => ⟨x, y, G, a, b, c, h⟩⟩
  intro pins s σ H v u v' u' Q I r1 r2 ⟨x, y, G, rx, ry, b, a, fs, t, ex, g, ty, nf, h⟩
  subst ex
  unfold rv at rx
  subst rx
  cases r1
  obtain ⟨dx, vs, ha, _, _⟩ := b _ _ g
  obtain ⟨mA, J, _⟩ := ins_get I.hok ha
  obtain ⟨od, J, _⟩ := J.look
  obtain ⟨m, hF⟩ := I.fr
  obtain ⟨P, kx, hP, _⟩ := kit_of I r2 (ty.tyX b ry)
  show wpAny (model X.prog X.w) X.A (richCompare .NotEq (.ref a) u') (EP X pins σ Q) X.xe s
  refine ne_K (tb := t) (by have := hr.in1.units0; exact this) hF I.ok.mod.kin J (kx.ty _ _ I.kIn hP) nf ec.ne ec.ob ec.eq ec.fn ?_
  refine wpAny_mono (own_call (A := X.A.in1) F ms hb hr.in1 rfl I (by unfold rv; rfl) ry (show RelV (V.ref a) (.ref a) from rfl) r2 b (Q := fun k H' => Q (.bl (!k)) H') (ms _ _ _ _ _ _ (fun w G1 ⟨k, e, q⟩ => ⟨k, e, fun k' H1 l e' g' => by
      cases (show k = k' from e')
      exact q (.bl (!k)) H1 l (by show rv _ _ (.bl (xor true k)) _; rw [Bool.true_xor]; unfold rv; rfl) g'⟩) (fun _ _ _ z => z) h)) (fun r s' ⟨k, H', e, I', q⟩ => ?_) fun _ _ x => x
  · subst e
    exact ⟨k, rfl, .bl (!k), H', I', rfl, q⟩
end
end J

set_option Elab.async false
set_option linter.all false
set_option maxRecDepth 100000
set_option maxHeartbeats 4000000
/-! S11: the names that the generator uses. -/
namespace J
open PySem PySem.Spec PyProof.Rows L2 S
abbrev qSub : Q2 := qI TT2 fun i j => .int (i - j)
abbrev qMul : Q2 := qI CM fun i j => .int (i * j)
abbrev qFdiv : Q2 := qI CDivW fun i j => .int (i / j)
abbrev qMod : Q2 := qI (fun _ j => 0 < j) fun i j => .int (i % j)
abbrev qPow : Q2 := qI CPow fun i j => .int (i ^ j.toNat)
abbrev qShl : Q2 := qI CShl fun i j => .int (i * 2 ^ j.toNat)
abbrev qShr : Q2 := qI (fun _ j => 0 ≤ j) fun i j => .int (i / 2 ^ j.toNat)
abbrev qBand : Q2 := qI TT2 fun i j => .int (Builtin.bitAnd i j)
abbrev qXor : Q2 := qI TT2 fun i j => .int (Builtin.bitXor i j)
abbrev qLt : Q2 := qOrd (fun i j => decide (i < j)) ltS
abbrev qLe : Q2 := qOrd (fun i j => decide (i ≤ j)) fun a b => !ltS b a
abbrev qGt : Q2 := qOrd (fun i j => decide (j < i)) fun a b => ltS b a
abbrev qGe : Q2 := qOrd (fun i j => decide (j ≤ i)) fun a b => !ltS a b
def qNeg : Q1 := fun x G Q => ∃ i, x = .int i ∧ Q (.int (-i)) G
theorem Room.hu {k : Nat} {A : Around} (r : Room k A) : A.units + 66 < cLine := by have := r.un; omega
/-- a key's truth in a dict -/
def qInD (neg : Bool) : Q2 := fun y x G Q => ∃ p kvs k, x = .ad p ∧ G p = some (.dic kvs) ∧ dKey y = some k ∧ Q (.bl (xor neg (gGet kvs k).isSome)) G
def qIn2 (neg : Bool) : Q2 := fun x y G Q => qIn neg x y G Q ∨ qInD neg x y G Q
theorem qInD.mono {neg} (x y : Dv) : Mono0 (qInD neg x y) := fun G Q Q' q ⟨p, kvs, k, a, b, c, h⟩ => ⟨p, kvs, k, a, b, c, q _ _ h⟩
section
variable {X : Cx}
theorem jo_mul : JOp X (binaryOp .Mult) qMul := jo_mulI
theorem jo_xor (hu : X.A.units + 66 < cLine) : JOp X (binaryOp .BitXor) qXor := jo_bxor
theorem jo_lt2 (hu : X.A.units + 66 < cLine) : JOp X (compareOp .Lt) qLt := jo_lt
theorem jo_gt2 (hu : X.A.units + 66 < cLine) : JOp X (compareOp .Gt) qGt := jo_gt
theorem dKey_get {K : Ct} {H : Hp} {kvs : List (Key × Dv)} {vs : List (Key × V)} (r : rkv K H kvs vs) (k : Key) : (gGet kvs k).isSome = (valV vs k).isSome := by
  cases e : gGet kvs k with
  | none => rw [r.none e]; rfl
  | some x => obtain ⟨v, e2, _⟩ := r.get e; rw [e2]; rfl
theorem op_inDict (hu : X.A.units + 66 < cLine) : OpR X (compareOp .In) (fun y x H Q => ∃ a o, x = .ref a ∧ DGet H a y o ∧ Q (.bl o.isSome) H) := by
  intro pins s σ H y x u v Q I ry rx ⟨a, o, e, g, q⟩
  subst e
  cases rx
  exact d_in (by omega) I g ry fun s3 I3 => ⟨.bl o.isSome, H, I3, rfl, q⟩
theorem op_notInDict (hu : X.A.units + 66 < cLine) : OpR X (compareOp .NotIn) (fun y x H Q => ∃ a o, x = .ref a ∧ DGet H a y o ∧ Q (.bl (!o.isSome)) H) := by
  intro pins s σ H y x u v Q I ry rx ⟨a, o, e, g, q⟩
  subst e
  cases rx
  exact d_notIn (by omega) I g ry fun s3 I3 => ⟨.bl (!o.isSome), H, I3, rfl, q⟩
theorem jo_in2 (hu : X.A.units + 66 < cLine) : JOp X (compareOp .In) (qIn2 false) := by
  refine JOp.or (jo_in (by omega)) (.of (op_inDict hu) qInD.mono fun y x v u G H Q a b c ⟨p, kvs, k, e, g, ek, q⟩ => ?_)
  subst e
  unfold rv at b
  subst b
  obtain ⟨vs, e1, r1⟩ := c _ _ g
  have := dKey_rv ek a
  subst this
  exact ⟨p, _, rfl, .inl ⟨vs, k, .inl e1, rfl, rfl⟩, q _ H (Le.refl H) (by rw [Bool.false_xor, dKey_get r1]; exact rvB) c⟩
theorem jo_notIn2 (hu : X.A.units + 66 < cLine) : JOp X (compareOp .NotIn) (qIn2 true) := by
  refine JOp.or (jo_notIn (by omega)) (.of (op_notInDict hu) qInD.mono fun y x v u G H Q a b c ⟨p, kvs, k, e, g, ek, q⟩ => ?_)
  subst e
  unfold rv at b
  subst b
  obtain ⟨vs, e1, r1⟩ := c _ _ g
  have := dKey_rv ek a
  subst this
  exact ⟨p, _, rfl, .inl ⟨vs, k, .inl e1, rfl, rfl⟩, q _ H (Le.refl H) (by rw [Bool.true_xor, dKey_get r1]; exact rvB) c⟩
theorem jo_eq2 (hu : X.A.units + 66 < cLine) : JOp X (compareOp .Eq) (qEq false) := jo_eq (by omega)
theorem jo_ne2 (hu : X.A.units + 66 < cLine) : JOp X (compareOp .NotEq) (qEq true) := jo_ne (by omega)
end
/-- a def that may be called: its promise -/
structure Cal (P : Program) (w : World) (K : PySem.W.Frag) (mg : Str → Option Value) (base : Heap) (k : Nat) (x : Str) (ps : List Str) (sp : Sq) : Prop where
  ex : ∃ f fd, FnOk P w K mg base (L2.CX P w) k f fd ps (LSp ⟨K, w⟩ sp) ∧ mg x = some (.ref f) ∧ PySem.W.keepIn K (.ref f) = true ∧ Binds K fd ps []
  mono : MonoSq sp
/-- .. one that a class makes its objects by -/
structure Kal (P : Program) (w : World) (K : PySem.W.Frag) (mg : Str → Option Value) (base : Heap) (k : Nat) (C : Addr) (ps : List Str) (sp : Sq) : Prop where
  ex : ∃ f fd, FnOk P w K mg base (L2.CX P w) k f fd ps (LSp ⟨K, w⟩ sp) ∧ Mk K C f ∧ Binds K fd ps []
  mono : MonoSq sp
/-- .. the own == of a class -/
structure Eal (P : Program) (w : World) (K : PySem.W.Frag) (mg : Str → Option Value) (base : Heap) (k : Nat) (C : Addr) (ps : List Str) (sp : Sq) : Prop where
  ex : ∃ f fd, FnOk P w K mg base (L2.CX P w) k f fd ps (LSp ⟨K, w⟩ sp) ∧ EqC K C f ∧ Binds K fd ps []
  mono : MonoSq sp
section
variable {X : Cx}
theorem Cal.je {k : Nat} {ps : List Str} {sp : Sq} {x : Str} {ta : Jt (List Dv)} {e : Expr} {es : List Expr} {p pos : Pos} (c : Cal X.prog X.w X.K X.mg X.base k x ps sp) (hr : Room k X.A) (hg : Gl X x) (ha : JA X (e :: es) ta)
    (hdb : (x == ("__debug__" : Str)) = false := by decide) (he : starEach (e :: es) X.env = (false, eval e X.env) :: starEach es X.env := by rfl) (hpl : (backTo pos (starEach es X.env)).any (·.1) = false := by rfl) : JE X (.Call (.Name x p) (e :: es) [] pos) (jCall sp ta) := by
  obtain ⟨f, fd, F, hm, hk, hb⟩ := c.ex
  exact je_call F c.mono hr hg hm hk hb ha hdb he hpl
theorem Kal.je {k : Nat} {C : Addr} {ps : List Str} {sp : Sq} {x : Str} {ta : Jt (List Dv)} {e : Expr} {es : List Expr} {p pos : Pos} (c : Kal X.prog X.w X.K X.mg X.base k C ps sp) (hr : Room (k + 1) X.A) (hg : Gl X x) (hm : X.mg x = some (.ref C)) (ha : JA X (e :: es) ta)
    (hdb : (x == ("__debug__" : Str)) = false := by decide) (he : starEach (e :: es) X.env = (false, eval e X.env) :: starEach es X.env := by rfl) (hpl : (backTo pos (starEach es X.env)).any (·.1) = false := by rfl) : JE X (.Call (.Name x p) (e :: es) [] pos) (jMake C sp ta) := by
  obtain ⟨f, fd, F, M, hb⟩ := c.ex
  exact je_make M F c.mono hr hg hm hb ha hdb he hpl
theorem Eal.eq {k : Nat} {C : Addr} {ps : List Str} {sp : Sq} (c : Eal X.prog X.w X.K X.mg X.base k C ps sp) (hr : Room k X.A) : JOp X (compareOp .Eq) (qOwn false X.K C sp) := by
  obtain ⟨f, fd, F, ec, hb⟩ := c.ex
  exact jo_eqOwn F c.mono hb hr ec
theorem Eal.ne {k : Nat} {C : Addr} {ps : List Str} {sp : Sq} (c : Eal X.prog X.w X.K X.mg X.base k C ps sp) (hr : Room (k + 1) X.A) : JOp X (compareOp .NotEq) (qOwn true X.K C sp) := by
  obtain ⟨f, fd, F, ec, hb⟩ := c.ex
  exact jo_neOwn F c.mono hb hr ec
end
/-! ### forms of promises -/
/-- what is asked of the arguments and the heap, and what is told of the value and the heap behind -/
def spA (A : List Dv → Hq → (Dv → Hq → Prop) → Prop) : Sq := fun ws G Q _ => ∃ po, A ws G po ∧ ∀ v G1, po v G1 → Q v G1
theorem spA.mono {A} : MonoSq (spA A) := fun ws G Q Q' E E' q _ ⟨po, a, h⟩ => ⟨po, a, fun v G1 p => q _ _ (h v G1 p)⟩
end J

set_option Elab.async false
set_option linter.all false
set_option maxRecDepth 100000
set_option maxHeartbeats 4000000
/-! S12: the law's head. -/
namespace J
open PySem PySem.Spec PyProof.Rows L2 S
theorem je_gint2 {X : Cx} {x : Str} {i : Int} {pos : Pos} (hg : Gl X x) (hm : ∃ t, X.mg x = some (.int i t)) (hd : (x == ("__debug__" : Str)) = false := by decide) : JE X (.Name x pos) (jC (.int i)) := by
  obtain ⟨t, hm⟩ := hm
  exact je_gint hg hm hd
theorem je_gstr2 {X : Cx} {x : Str} {z : Str} {pos : Pos} (hg : Gl X x) (hm : ∃ t, X.mg x = some (.str z t)) (hd : (x == ("__debug__" : Str)) = false := by decide) : JE X (.Name x pos) (jC (.str z)) := by
  obtain ⟨t, hm⟩ := hm
  exact je_gstr hg hm hd
/-! ### a[i] = e of lists and dicts -/
def qSet2 (x y w : Dv) (G : Hq) (Q : Hq → Prop) : Prop := (∃ p xs k j, x = .ad p ∧ y = .int k ∧ G p = some (.lst xs) ∧ ixN xs.length k = some j ∧ Q (up G p (.lst (xs.set j w)))) ∨
  ∃ p kvs k, x = .ad p ∧ G p = some (.dic kvs) ∧ dKey y = some k ∧ kvs.length < sizeLine ∧ Q (up G p (.dic (gPut kvs k w)))
def jgSet (to ti : Jt Dv) : JGt := fun R w τ G Q => to R τ G fun x G1 => ti R τ G1 fun y G2 => qSet2 x y w G2 (Q τ)
theorem PSet.or {X : Cx} {r r' : TSet} (h : PSet X r) (h' : PSet X r') : PSet X (fun o i v H Q => r o i v H Q ∨ r' o i v H Q) := by
  intro pins s σ H o i v ov iv u Q I ro ri rv q
  rcases q with q | q
  · exact h pins s σ H o i v ov iv u Q I ro ri rv q
  · exact h' pins s σ H o i v ov iv u Q I ro ri rv q
theorem jg_set {X : Cx} {o i : Expr} {to ti : Jt Dv} {pos : Pos} (hu : X.A.units + 66 < cLine) (ho : JE X o to) (hi : JE X i ti)
    (ha : ∀ v, assign (.Subscript o i pos) X.env v = (do
      let ov ← holding [v] (eval o X.env); let iv ← holding [v, ov] (eval i X.env); standAt pos
      holding [v, ov, iv] (setItem ov iv v); release [v, ov, iv] []) := by intro _; rfl) : JG X (.Subscript o i pos) [] (jgSet to ti) := by
  refine ⟨fun R R' w τ G Q Q' r q h => ho.mono R R' τ G _ _ r (fun x G1 k => hi.mono R R' τ G1 _ _ r (fun y G2 z => z.imp (fun ⟨p, xs, k, j, a, b, c, d, z⟩ => ⟨p, xs, k, j, a, b, c, d, q _ _ z⟩) fun ⟨p, kvs, k, a, b, c, d, z⟩ => ⟨p, kvs, k, a, b, c, d, q _ _ z⟩) k) h, fun Wc tk => PG.imp (pg_sub (ho.pe Wc tk) (hi.pe Wc tk) (PSet.or set_list (set_dict (by omega))) ha) fun v σ H Q ⟨w, τ, G, rw, a, b, h⟩ => ?_⟩
  refine ⟨τ, G, a, b, ho.mono _ _ τ G _ _ (RLe.refl _) (fun x G1 kk u H1 l1 rx g1 => ?_) h⟩
  refine ⟨τ, G1, a.le l1, g1, hi.mono _ _ τ G1 _ _ (LR.le l1) (fun y G2 kx t H2 l2 ry g2 => ?_) kk⟩
  rcases kx with ⟨p, xs, k, j, e1, e2, e3, e4, z⟩ | ⟨p, kvs, k, e1, e3, e4, e5, z⟩
  · subst e1; subst e2
    unfold rv at rx ry
    subst rx; subst ry
    obtain ⟨us, ev, r⟩ := g2 _ _ e3
    have q := put_lst (xs := xs) g2 ev (rvs.set (rw.le (l1.trans l2)) j r)
    exact .inl ⟨p, us, k, j, rfl, rfl, ev, by rw [← r.length]; exact e4, z σ _ ((l1.trans l2).trans q.1) (a.le ((l1.trans l2).trans q.1)) q.2 (Agree.refl _ _)⟩
  · subst e1
    unfold rv at rx
    subst rx
    have := dKey_rv e4 ry
    subst this
    obtain ⟨us, ev, r⟩ := g2 _ _ e3
    have lm := Le.mut (K := ctOf X) (o := .dK (putK us k v)) ev trivial
    have rw2 := (rw.le (l1.trans l2)).le lm
    have r2 : rkv (ctOf X) (upd H2 p (.dK (putK us k v))) kvs us := L2.Paired.mapP r fun _ _ q => ⟨q.1, q.2.le lm⟩
    exact .inr ⟨p, _, rfl, .inl ⟨us, k, ev, rfl, by rw [← r.length]; exact e5, rfl⟩, z σ _ ((l1.trans l2).trans lm) (a.le ((l1.trans l2).trans lm)) (g2.write ev trivial ⟨_, upd_same, r2.put k rw2⟩) (Agree.refl _ _)⟩
/-- what a law promises -/
def spLaw : Sq := fun ws G Q _ => ∃ ns : List Int, ws = [.fl (ns.map Dv.int)] ∧ ns.length ≤ 63 ∧ (∀ z ∈ ns, Builtin.Int.intBits z ≤ 1048576) ∧ ∀ G1, Q (.bl true) G1
theorem ints_rvs {K : Ct} {H : Hp} : ∀ ns : List Int, rvs K H (ns.map Dv.int) (ns.map V.int)
  | [] => rvs.nil
  | n :: ns => by
    show rvs K H (Dv.int n :: ns.map Dv.int) (V.int n :: ns.map V.int)
    unfold rvs
    exact ⟨_, _, rfl, rvI, ints_rvs ns⟩
theorem walkJ {l : PySem.W.OpenLaw} {k : Nat} {q : Program} {loose : List Str} {XP : (Str → Option Value) → Heap → Prop} {YP : World → Heap → Prop} {d : DefRec} {K : Params → PySem.W.Frag} {x : Str}
    (hn : l.most = some 63) (hdf : d.params.defaults = []) (hr : Room k callerA) (hY : ∀ (w : World) (h : Heap), YP w h → (K w.params).In h)
    (F : ∀ (w : World) (mg : Str → Option Value) (fa : Addr) (h : Heap), (K w.params).In h → h.Ns mainGlobals mg → mg d.name = some (.ref fa) →
      ∃ fd : FuncData, (∀ (s : Shared) (u : Value), BindsTo s fd ⟨[u], []⟩ [(x, u)]) ∧
        ∀ base : Heap, (K w.params).In base → base.Ns mainGlobals mg → FnOk l.prog w (K w.params) mg base (L2.CX l.prog w) k fa fd [x] (LSp ⟨K w.params, w⟩ spLaw)) :
    PySem.W.WalkO q loose XP YP l.row.toRowW d [] (fun f vs => PySem.call f vs) :=
  L2.walk_ofB (n := 63) (k := k) (x := x) (CX := fun w => L2.CX l.prog w) (sp := fun w => LSp ⟨K w.params, w⟩ spLaw) hn (by decide) hdf hr hY F
    (fun w H a ns hl hb hO hS => ⟨[.fl (ns.map Dv.int)], fun _ => none, by
      unfold rvs
      refine ⟨_, _, rfl, ?_, rvs.nil⟩
      unfold rv
      refine ⟨a, ns.map V.int, rfl, ?_, ints_rvs ns⟩
      rcases hS with (h | h) | h
      · rcases hO a with z | ⟨o, xs, z⟩
        · rw [z] at h; cases h
        · rw [z] at h; cases h
      · exact .inl h
      · exact .inr h, (fun a o e => nomatch e), ns, rfl, hl, hb, fun G1 v H1 _ r _ => by unfold rv at r; exact r⟩)
    fun w H s e s' c => cx_false c
end J

set_option Elab.async false
set_option linter.all false
set_option maxRecDepth 100000
set_option maxHeartbeats 4000000
/-! S13: list(text). -/
namespace J
open PySem PySem.Spec PyProof.Rows L2 S
def qListS : QA := fun ws G Q => ∃ z, ws = [.str z] ∧ z.length ≤ sizeLine ∧ qNew (.lst (J.signs z)) G Q
theorem qListS.mono (ws : List Dv) : Mono0 (qListS ws) := fun G Q Q' q ⟨z, a, b, h⟩ => ⟨z, a, b, qNew.mono _ _ _ q h⟩
def qList2 : QA := fun ws G Q => qList ws G Q ∨ qListS ws G Q
theorem signs_rvs {K : Ct} {H : Hp} : ∀ l : List Nat, rvs K H (l.map fun c => Dv.str ⟨#[c]⟩) (l.map fun c => V.str ⟨#[c]⟩)
  | [] => rvs.nil
  | c :: l => by
    show rvs K H (Dv.str ⟨#[c]⟩ :: l.map fun c => Dv.str ⟨#[c]⟩) (V.str ⟨#[c]⟩ :: l.map fun c => V.str ⟨#[c]⟩)
    unfold rvs
    exact ⟨_, _, rfl, rvS, signs_rvs l⟩
theorem vals_at {xs : List V} {us : List Value} (hl : xs.length = us.length) (h : ∀ (i : Nat) x u, xs[i]? = some x → us[i]? = some u → RelV x u) : Vals xs us := by
  induction xs generalizing us with
  | nil => cases us with
    | nil => exact .nil
    | cons => cases hl
  | cons x xs ih => cases us with
    | nil => cases hl
    | cons u us => exact .cons (h 0 x u rfl rfl) (ih (by simpa using hl) fun i x u e1 e2 => h (i + 1) x u (by simpa using e1) (by simpa using e2))
theorem jc_listS {X : Cx} (hc : X.calm = true) : JCl X (.type "list") qListS := by
  refine ⟨qListS.mono, fun vs H Q => ∃ z, vs = [.str z] ∧ z.length ≤ sizeLine ∧ ∀ p, H p = none → Q (.ref p) (upd H p (.lst (z.cps.toList.map fun c => V.str ⟨#[c]⟩))), ?_, fun ws vs G H Q r b ⟨z, e, hz, q⟩ => ?_⟩
  · intro pins s σ H vs us Q I r ⟨z, e, hz, q⟩
    subst e
    obtain ⟨u, eu, ru⟩ := vals1 r
    subst eu
    obtain ⟨t, rfl⟩ := ru
    refine call_list_str (I.ok.hd hc) z t (hn := hz) fun h' tk acc c' hk hS hacc => ?_
    have hsz : acc.size = z.cps.size := hacc.1
    refine ⟨.ref s.heap.objs.size, _, I.laid (t' := tk) (o := .lst (z.cps.toList.map fun c => V.str ⟨#[c]⟩)) hk (Nat.le_refl _) ⟨?_, acc.toList, c', ?_, by simpa using hS⟩, rfl, q _ (I.hok.fresh (Nat.le_refl _))⟩
    · rw [List.length_map, Array.length_toList]; exact hz
    · refine vals_at (by simp [hsz]) fun i x u e1 e2 => ?_
      obtain ⟨ch, t', hch, rfl⟩ := hacc.2 i u (by simpa using e2)
      rw [List.getElem?_map, Array.getElem?_toList, hch] at e1
      cases e1
      exact ⟨t', rfl⟩
  · subst e
    obtain ⟨v, e, a⟩ := rvs1 r
    subst e
    unfold rv at a
    subst a
    exact ⟨z, rfl, hz, new_lst b (signs_rvs _) q⟩
theorem jc_list2 {X : Cx} (hc : X.calm = true) : JCl X (.type "list") qList2 := JCl.or jc_list (jc_listS hc)
end J

set_option Elab.async false
set_option linter.all false
set_option maxRecDepth 100000
set_option maxHeartbeats 4000000
/-! P1: rules to step through a reading; heaps. -/
namespace J
open PySem PySem.Spec PyProof.Rows L2 S

/-! ### heaps -/
theorem HSub.up {G G' : Hq} {p : Addr} {o : Ob} (h : HSub G G') : HSub (up G p o) (J.up G' p o) := fun a u e => by
  by_cases z : a = p
  · subst z; rw [up_same] at e ⊢; exact e
  · rw [up_ne z] at e ⊢; exact h a u e
theorem HSub.new {G : Hq} {p : Addr} {o : Ob} (h : G p = none) : HSub G (J.up G p o) := fun a u e => by
  have z : a ≠ p := fun z => by subst z; rw [h] at e; cases e
  rw [up_ne z]; exact e
theorem HSub.none {G G' : Hq} {p : Addr} (h : HSub G G') (e : G' p = none) : G p = none := by
  cases q : G p with
  | none => rfl
  | some o => rw [h p o q] at e; cases e
/-- what is known of a heap, at addresses that differ -/
def Has (G : Hq) (L : List (Addr × Ob)) : Prop := (L.map (·.1)).Nodup ∧ ∀ x ∈ L, G x.1 = some x.2
theorem Has.get {G : Hq} {L : List (Addr × Ob)} (h : Has G L) {a : Addr} {o : Ob} (m : (a, o) ∈ L) : G a = some o := h.2 _ m
theorem Has.nil {G : Hq} : Has G [] := ⟨List.nodup_nil, fun _ h => by cases h⟩
theorem Has.new {G : Hq} {L : List (Addr × Ob)} (h : Has G L) {p : Addr} (o : Ob) (f : G p = none) : Has (up G p o) ((p, o) :: L) := by
  have ne : ∀ x ∈ L, x.1 ≠ p := fun x hx e => by have := h.2 x hx; rw [e, f] at this; cases this
  refine ⟨?_, fun x hx => ?_⟩
  · rw [List.map_cons, List.nodup_cons]
    refine ⟨fun m => ?_, h.1⟩
    obtain ⟨x, hx, e⟩ := List.mem_map.mp m
    exact ne x hx e
  · rcases List.mem_cons.mp hx with e | hx
    · subst e; exact up_same
    · rw [up_ne (ne x hx)]; exact h.2 x hx
theorem Has.sub {G G' : Hq} {L : List (Addr × Ob)} (h : Has G L) (s : HSub G G') : Has G' L := ⟨h.1, fun x hx => s _ _ (h.2 x hx)⟩
theorem Has.perm {G : Hq} {L L' : List (Addr × Ob)} (h : Has G L) (p : L'.Perm L) : Has G L' := ⟨(p.map (·.1)).nodup_iff.mpr h.1, fun x hx => h.2 x (p.mem_iff.mp hx)⟩
theorem Has.tail {G : Hq} {x : Addr × Ob} {L : List (Addr × Ob)} (h : Has G (x :: L)) : Has G L := ⟨(List.nodup_cons.mp h.1).2, fun y hy => h.2 y (List.mem_cons_of_mem _ hy)⟩
/-- the first one is written -/
theorem Has.set {G : Hq} {a : Addr} {o : Ob} {L : List (Addr × Ob)} (h : Has G ((a, o) :: L)) (u : Ob) : Has (up G a u) ((a, u) :: L) := by
  have nd := List.nodup_cons.mp h.1
  refine ⟨h.1, fun x hx => ?_⟩
  rcases List.mem_cons.mp hx with e | hx
  · subst e; exact up_same
  · have ne : x.1 ≠ a := fun e => nd.1 (List.mem_map.mpr ⟨x, hx, e⟩)
    rw [up_ne ne]; exact h.2 x (List.mem_cons_of_mem _ hx)

/-! ### steps -/
section
variable {R : JX} {τ : Tq} {G : Hq} {Q : KQ}
theorem w_var {i : Nat} {x : Dv} (h : τ[i]? = some (some x)) (q : Q x G) : jVar i R τ G Q := ⟨x, h, q⟩
theorem w_c {x : Dv} (q : Q x G) : jC x R τ G Q := q
theorem w_op {r : Q2} {ta tb : Jt Dv} (h : ta R τ G fun x G1 => tb R τ G1 fun y G2 => r x y G2 Q) : jOp r ta tb R τ G Q := h
theorem w_un {r : Q1} {ta : Jt Dv} (h : ta R τ G fun x G1 => r x G1 Q) : jUn r ta R τ G Q := h
theorem w_cl {r : QA} {ta : Jt (List Dv)} (h : ta R τ G fun x G1 => r x G1 Q) : jCl r ta R τ G Q := h
theorem w_nil {Q : List Dv → Hq → Prop} (h : Q [] G) : jNil R τ G Q := h
theorem w_cons {ta : Jt Dv} {tb : Jt (List Dv)} {Q : List Dv → Hq → Prop} (h : ta R τ G fun x G1 => tb R τ G1 fun xs G2 => Q (x :: xs) G2) : jCons ta tb R τ G Q := h
theorem w_tup {ta : Jt (List Dv)} (h : ta R τ G fun xs G1 => xs.length ≤ sizeLine ∧ Q (.tup xs) G1) : jTup ta R τ G Q := h
theorem w_lst {ta : Jt (List Dv)} (h : ta R τ G fun xs G1 => xs.length ≤ sizeLine ∧ qNew (.lst xs) G1 Q) : jLst ta R τ G Q := h
theorem w_test {t : Jt Dv} {Q : Bool → Hq → Prop} (h : t R τ G fun x G1 => ∃ b, x = .bl b ∧ Q b G1) : jTest t R τ G Q := h
theorem w_not {t : Jt Bool} {Q : Bool → Hq → Prop} (h : t R τ G fun b G1 => Q (!b) G1) : jNot t R τ G Q := h
theorem w_and {t u : Jt Bool} {Q : Bool → Hq → Prop} (h : t R τ G fun c G1 => if c = true then u R τ G1 Q else Q false G1) : jAnd t u R τ G Q := h
theorem w_or {t u : Jt Bool} {Q : Bool → Hq → Prop} (h : t R τ G fun c G1 => if c = true then Q true G1 else u R τ G1 Q) : jOr t u R τ G Q := h
theorem w_andV {t u : Jt Dv} (h : t R τ G fun x G1 => ∃ c, x = .bl c ∧ if c = true then u R τ G1 Q else Q (.bl false) G1) : jAndV t u R τ G Q := h
theorem w_orV {t u : Jt Dv} (h : t R τ G fun x G1 => ∃ c, x = .bl c ∧ if c = true then Q (.bl true) G1 else u R τ G1 Q) : jOrV t u R τ G Q := h
theorem w_notV {t : Jt Dv} (h : t R τ G fun x G1 => ∃ c, x = .bl c ∧ Q (.bl (!c)) G1) : jNotV t R τ G Q := h
theorem w_if {c : Jt Bool} {ta tb : Jt Dv} (h : c R τ G fun b G1 => if b = true then ta R τ G1 Q else tb R τ G1 Q) : jIf c ta tb R τ G Q := h
theorem w_chn {r r' : Q2} {ta tb tc : Jt Dv} (h : ta R τ G fun x G1 => tb R τ G1 fun y G2 => r x y G2 fun z G3 => ∃ k, z = .bl k ∧ if k = true then tc R τ G3 (fun u G4 => r' y u G4 Q) else Q (.bl false) G3) : jChn r r' ta tb tc R τ G Q := h
theorem w_call {sp : Sq} {ta : Jt (List Dv)} (h : ta R τ G fun ws G1 => sp ws G1 Q fun c f G2 => R c f τ G2) : jCall sp ta R τ G Q := h
def MakeOn (C : Addr) (sp : Sq) (Q : KQ) (E : XQ) (ws : List Dv) (G : Hq) : Prop := ∀ x, G x = none → sp (.ad x :: ws) (up G x (.ins C [])) (fun v G2 => v = .non ∧ Q (.ad x) G2) E
theorem w_make {C : Addr} {sp : Sq} {ta : Jt (List Dv)} (h : ta R τ G fun ws G1 => MakeOn C sp Q (fun c f G2 => R c f τ G2) ws G1) : jMake C sp ta R τ G Q := h
theorem w_fld {C : Addr} {f : Str} {t : Jt Dv} (h : t R τ G fun x G1 => ∃ a fs y, x = .ad a ∧ G1 a = some (.ins C fs) ∧ fs.lookup f = some y ∧ Q y G1) : jFld C f t R τ G Q := h
theorem w_ml {r : QM} {to : Jt Dv} {ta : Jt (List Dv)} (h : to R τ G fun x G1 => isLs x G1 ∧ ta R τ G1 fun ws G2 => r x ws G2 Q) : jML r to ta R τ G Q := h
theorem w_ml0 {r : QM} {to : Jt Dv} (h : to R τ G fun x G1 => isLs x G1 ∧ r x [] G1 Q) : jML0 r to R τ G Q := h
theorem w_sl {te : Jt Dv} {tl th : Jt (Option Int)} (h : te R τ G fun x G1 => tl R τ G1 fun l G2 => th R τ G2 fun u G3 => qSl x l u G3 Q) : jSl te tl th R τ G Q := h
theorem w_slD {te : Jt Dv} {th ts : Jt (Option Int)} (h : te R τ G fun x G1 => th R τ G1 fun u G2 => ts R τ G2 fun k G3 => k = some (-1) ∧ qSlD x u G3 Q) : jSlD te th ts R τ G Q := h
theorem w_noPart {Q : Option Int → Hq → Prop} (h : Q none G) : jNoPart R τ G Q := h
theorem w_part {t : Jt Dv} {Q : Option Int → Hq → Prop} (h : t R τ G fun x G1 => ∃ i, x = .int i ∧ Q (some i) G1) : jPart t R τ G Q := h
theorem w_dictZ {ta : Jt (List Dv)} (h : ta R τ G fun ws G1 => ∃ p q, ∃ ks : List Key, ∃ ys : List Dv, ws = [.ad p, .ad q] ∧ G1 p = some (.lst (ks.map kDv)) ∧ G1 q = some (.lst ys) ∧ qNew (.dic (gMerge [] (ks.zip ys))) G1 Q) : jDictZ ta R τ G Q := h
/-- a comprehension over xs -/
def LcOn (g : JGt) (tt : Jt Bool) (te : Jt Dv) (vs : List Nat) (τ : Tq) (Q : KQ) (xs : List Dv) (S : Hq → Prop) (G1 : Hq) : Prop := ∀ p, G1 p = none → ∃ P : Nat → Hq → Prop, P 0 (up G1 p (.lst [])) ∧ (∀ i G, i ≤ xs.length → P i G → S G) ∧
  (∀ i x G, xs[i]? = some x → P i G → g R0 x (wipeT τ vs) G fun τ2 G2 => tt R0 τ2 G2 fun b G3 => if b = true then te R0 τ2 G3 fun y G4 => ∃ acc, G4 p = some (.lst acc) ∧ acc.length < sizeLine ∧ WkH (P (i + 1)) (up G4 p (.lst (acc ++ [y]))) else WkH (P (i + 1)) G3) ∧
  ∀ G, P xs.length G → Q (.ad p) G
def LcAt (g : JGt) (tt : Jt Bool) (te : Jt Dv) (vs : List Nat) (τ : Tq) (Q : KQ) (x : Dv) (G : Hq) : Prop := qSeq x G fun xs S G1 => LcOn g tt te vs τ Q xs S G1
theorem w_lcA {t : Jt Dv} {g : JGt} {tt : Jt Bool} {te : Jt Dv} {vs : List Nat} (h : t R τ G fun x G1 => LcAt g tt te vs τ Q x G1) : jLc (jiAny t) g tt te vs R τ G Q := h
/-! statements -/
variable {D : JEnds}
theorem w_ret {t : Jt Dv} (h : t R τ G D.rt) : jRet t R D τ G := h
theorem w_rt {x : Dv} (h : D.rt x G) : jRt x R D τ G := h
theorem w_ifS {c : Jt Bool} {t u : JSt} (h : c R τ G fun b G1 => if b = true then t R D τ G1 else u R D τ G1) : jIfS c t u R D τ G := h
theorem w_next (h : D.nx τ G) : jNext R D τ G := h
theorem w_break (h : D.bk τ G) : jBreak R D τ G := h
theorem w_cont (h : D.ct τ G) : jCont R D τ G := h
theorem w_seq {t u : JSt} (h : t R { D with nx := u R D } τ G) : jSeq t u R D τ G := h
theorem w_asg {t : Jt Dv} {i : Nat} (h : t R τ G fun x G1 => D.nx (τ.set i (some x)) G1) : jAsg t (jgName i) R D τ G := h
theorem w_drop {t : Jt Dv} (h : t R τ G fun _ G1 => D.nx τ G1) : jDrop t R D τ G := h
theorem w_asgT {t : Jt Dv} {g : JGt} (h : t R τ G fun x G1 => g R x τ G1 D.nx) : jAsg t g R D τ G := h
theorem w_par {i j : Nat} {ta : Jt (List Dv)} (h : ta R τ G fun ws G1 => ∃ a b, ws = [a, b] ∧ D.nx ((τ.set i (some a)).set j (some b)) G1) : jPar i j ta R D τ G := h
theorem w_sfld {C : Addr} {f : Str} {to tv : Jt Dv} (h : tv R τ G fun y G1 => to R τ G1 fun x G2 => ∃ a fs, x = .ad a ∧ G2 a = some (.ins C fs) ∧ fs.length < 1000 ∧ D.nx τ (up G2 a (.ins C (putD f y fs)))) : jsFld C f to tv R D τ G := h
theorem w_gname {i : Nat} {w : Dv} {Q : Tq → Hq → Prop} (h : Q (τ.set i (some w)) G) : jgName i R w τ G Q := h
theorem w_gset {to ti : Jt Dv} {w : Dv} {Q : Tq → Hq → Prop} (h : to R τ G fun x G1 => ti R τ G1 fun y G2 => qSet2 x y w G2 (Q τ)) : jgSet to ti R w τ G Q := h
theorem w_gtup {n : Nat} {g : JGts} {ws : List Dv} {Q : Tq → Hq → Prop} (hl : ws.length = n) (h : g R ws τ G Q) : jgTup n g R (.tup ws) τ G Q := ⟨ws, rfl, hl, h⟩
theorem w_gcons {g : JGt} {u : JGts} {w : Dv} {ws : List Dv} {Q : Tq → Hq → Prop} (h : g R w τ G fun τ1 G1 => u R ws τ1 G1 Q) : jgCons g u R (w :: ws) τ G Q := ⟨w, ws, rfl, h⟩
theorem w_gnil {Q : Tq → Hq → Prop} (h : Q τ G) : jgNil R [] τ G Q := ⟨rfl, h⟩
theorem w_yes {Q : Bool → Hq → Prop} (h : Q true G) : jYes R τ G Q := h
end



/-! ### sources and comprehensions -/
inductive Src (G : Hq) : Dv → List Dv → Prop
  | ad {p : Addr} {xs : List Dv} (h : G p = some (.lst xs)) : Src G (.ad p) xs
  | tup (xs : List Dv) : Src G (.tup xs) xs
  | fl (xs : List Dv) : Src G (.fl xs) xs
  | str (z : Str) : Src G (.str z) (signs z)
theorem Src.of {G : Hq} {x : Dv} {xs : List Dv} {Q : List Dv → (Hq → Prop) → Hq → Prop} (h : Src G x xs) (k : ∀ S : Hq → Prop, (∀ G', HSub G G' → S G') → Q xs S G) : qSeq x G Q := by
  cases h with
  | ad h => exact ⟨_, h, k _ fun G' s => s _ _ h⟩
  | tup xs => exact k _ fun _ _ => trivial
  | fl xs => exact k _ fun _ _ => trivial
  | str z => exact k _ fun _ _ => trivial
/-- one turn of a comprehension: it keeps x or not, makes val x, and only makes objects -/
def LcBody (g : JGt) (tt : Jt Bool) (te : Jt Dv) (τ : Tq) (G1 : Hq) (x : Dv) (keep : Bool) (val : Dv) : Prop := ∀ G2, HSub G1 G2 → ∀ (N : Hq → Prop) (A : Dv → Hq → Prop), (keep = false → ∀ G3, HSub G2 G3 → N G3) → (keep = true → ∀ G3, HSub G2 G3 → A val G3) →
  g R0 x τ G2 fun τ2 G3 => tt R0 τ2 G3 fun b G4 => if b = true then te R0 τ2 G4 A else N G4
theorem lc_core {g : JGt} {tt : Jt Bool} {te : Jt Dv} {vs : List Nat} {τ : Tq} {G : Hq} {Q : KQ} {xs : List Dv} {S : Hq → Prop} (hS : ∀ G', HSub G G' → S G') (keep : Dv → Bool) (val : Dv → Dv) (hl : xs.length ≤ sizeLine)
    (body : ∀ x ∈ xs, LcBody g tt te (wipeT τ vs) G x (keep x) (val x)) (fin : ∀ p, G p = none → Q (.ad p) (up G p (.lst ((xs.filter keep).map val)))) :
    LcOn g tt te vs τ Q xs S G := by
  intro p hp
  refine ⟨fun i G1 => G1 = up G p (.lst (((xs.take i).filter keep).map val)), rfl, fun i G1 _ e => by rw [e]; exact hS _ (HSub.new hp), fun i x G1 hx e => ?_, fun G1 e => by rw [e, List.take_length]; exact fin p hp⟩
  subst e
  have il : i < xs.length := by
    rcases Nat.lt_or_ge i xs.length with z | z
    · exact z
    · rw [List.getElem?_eq_none z] at hx; cases hx
  have hm : x ∈ xs := List.mem_of_getElem? hx
  have tk : xs.take (i + 1) = xs.take i ++ [x] := by rw [List.take_add_one, hx]; rfl
  refine body x hm _ (HSub.new hp) _ _ (fun hk G3 s => ?_) fun hk G3 s => ?_
  · refine ⟨_, s, ?_⟩
    show up G p (.lst (((xs.take i).filter keep).map val)) = up G p (.lst (((xs.take (i + 1)).filter keep).map val))
    rw [tk, List.filter_append, List.filter_cons, hk]
    simp
  · have e3 : G3 p = some (.lst (((xs.take i).filter keep).map val)) := s _ _ up_same
    refine ⟨_, e3, ?_, _, ?_, rfl⟩
    · rw [List.length_map]
      have := List.length_filter_le keep (xs.take i)
      rw [List.length_take] at this
      omega
    · rw [tk, List.filter_append, List.filter_cons, hk]
      have := (HSub.trans (HSub.new (o := .lst (((xs.take i).filter keep).map val)) hp) s).up (p := p) (o := .lst (((xs.take i).filter keep).map val ++ [val x]))
      simpa using this
theorem lc_at {g : JGt} {tt : Jt Bool} {te : Jt Dv} {vs : List Nat} {τ : Tq} {G : Hq} {Q : KQ} {x : Dv} {xs : List Dv} (hs : Src G x xs) (hl : xs.length ≤ sizeLine) (keep : Dv → Bool) (val : Dv → Dv)
    (body : ∀ x ∈ xs, LcBody g tt te (wipeT τ vs) G x (keep x) (val x)) (fin : ∀ p, G p = none → Q (.ad p) (up G p (.lst ((xs.filter keep).map val)))) :
    LcAt g tt te vs τ Q x G :=
  hs.of fun S hS => lc_core hS keep val hl body fin
end J

set_option Elab.async false
set_option linter.all false
set_option maxRecDepth 100000
set_option maxHeartbeats 4000000
/-! P2: names. -/
namespace M
open PySem PySem.Spec L2 S J
structure Ad where
  cLinkError : Addr := 0
  cNoGraph : Addr := 0
  cNoRecord : Addr := 0
  cNoMove : Addr := 0
  cNoDrawing : Addr := 0
  cNoCycle : Addr := 0
  cGraph : Addr := 0
  cDrawing : Addr := 0
def letters : Str := "abcdefghijklmnopqrstuvwxyz"
/-- the sign c is a small letter -/
def isLet (c : Nat) : Bool := decide (97 ≤ c) && decide (c ≤ 122)
/-- a right name -/
def isName (z : Str) : Bool := decide (1 ≤ z.cps.toList.length) && decide (z.cps.toList.length ≤ 8) && z.cps.toList.all isLet
theorem size_ge {n : Nat} (h : n ≤ 4000) : n ≤ sizeLine := Nat.le_trans h (by decide)
theorem qIsi_str {K : PySem.W.Frag} {z : Str} {G : Hq} {Q : KQ} (h : Q (.bl true) G) : qIsi K [.str z, .ty "str"] G Q := ⟨_, _, _, _, true, rfl, .ty "str", .str z, by rfl, h⟩
theorem bind_true {P : Prop} (h : P) : ∃ c : Bool, (Dv.bl true = .bl c) ∧ if c = true then P else False := ⟨true, rfl, h⟩
end M
namespace M
open PySem PySem.Spec L2 S J
theorem iteB {b : Bool} {A B : Prop} (h1 : b = true → A) (h2 : b = false → B) : if b = true then A else B := by
  cases b with
  | true => rw [if_pos rfl]; exact h1 rfl
  | false => rw [if_neg Bool.false_ne_true]; exact h2 rfl
theorem len_str {z : Str} : z.length = z.cps.toList.length := by show z.cps.size = _; simp
theorem signs_len (z : Str) : (signs z).length = z.cps.toList.length := by unfold signs; rw [List.length_map]
theorem mem_signs {z : Str} {x : Dv} (h : x ∈ signs z) : ∃ c, c ∈ z.cps.toList ∧ x = .str ⟨#[c]⟩ := by
  unfold signs at h
  obtain ⟨c, hc, e⟩ := List.mem_map.mp h
  exact ⟨c, hc, e.symm⟩
theorem letters_mem (c : Nat) : letters.cps.toList.contains c = isLet c := by
  have e : letters.cps.toList = (List.range 26).map (97 + ·) := by decide +kernel
  rw [e]
  unfold isLet
  rw [Bool.eq_iff_iff]
  simp only [List.contains_iff_mem, List.mem_map, List.mem_range, Bool.and_eq_true, decide_eq_true_eq]
  constructor
  · rintro ⟨a, h1, h2⟩; omega
  · rintro ⟨h1, h2⟩; exact ⟨c - 97, by omega, by omega⟩
end M

set_option Elab.async false
set_option linter.all false
set_option maxRecDepth 100000
set_option maxHeartbeats 4000000
/-! P3: == and in over plain data. -/
namespace J
open PySem PySem.Spec L2 S
mutual
/-- ints, texts, tuples of such: == is equality -/
def isE : Dv → Bool
  | .int _ => true
  | .str z => PyData.strOk z
  | .tup xs => isEs xs
  | .non | .bl _ | .ad _ | .ty _ | .fl _ => false
def isEs : List Dv → Bool
  | [] => true
  | x :: xs => isE x && isEs xs
end
theorem isEs_iff : ∀ {xs : List Dv}, isEs xs = true ↔ ∀ x ∈ xs, isE x = true
  | [] => by simp [isEs]
  | x :: xs => by simp [isEs, isEs_iff (xs := xs)]
mutual
theorem isE_k : ∀ {x : Dv}, isE x = true → isK x = true
  | .int _, _ => by simp [isK]
  | .str _, _ => by simp [isK]
  | .tup xs, h => by unfold isE at h; unfold isK; exact isEs_k h
  | .non, h | .bl _, h | .ad _, h | .ty _, h | .fl _, h => by simp [isE] at h
theorem isEs_k : ∀ {xs : List Dv}, isEs xs = true → isKs xs = true
  | [], _ => by simp [isKs]
  | x :: xs, h => by
    unfold isEs at h
    rw [Bool.and_eq_true] at h
    unfold isKs
    rw [isE_k h.1, isEs_k h.2]; rfl
end
mutual
theorem isE_lay : ∀ {x : Dv}, isE x = true → (dP x).canLay0 = true
  | .int _, _ => by simp [dP, PyData.canLay0]
  | .str _, h => by simpa [dP, PyData.canLay0, isE] using h
  | .tup xs, h => by unfold isE at h; simp only [dP, PyData.canLay0]; exact isEs_lay h
  | .non, h | .bl _, h | .ad _, h | .ty _, h | .fl _, h => by simp [isE] at h
theorem isEs_lay : ∀ {xs : List Dv}, isEs xs = true → PyData.canLayAll0 (dPs xs) = true
  | [], _ => by simp [dPs, PyData.canLayAll0]
  | x :: xs, h => by
    unfold isEs at h
    rw [Bool.and_eq_true] at h
    simp only [dPs, PyData.canLayAll0]
    rw [isE_lay h.1, isEs_lay h.2]; rfl
end
mutual
theorem isE_eqv : ∀ {x y : Dv}, isE x = true → isE y = true → (PyData.eqv (dP x) (dP y) = true ↔ x = y)
  | .int i, y, _, h => by cases y <;> simp_all [dP, isE, PyData.eqv]
  | .str z, y, _, h => by cases y <;> simp_all [dP, isE, PyData.eqv]
  | .tup xs, y, g, h => by
    cases y with
    | tup ys =>
      unfold isE at g h
      simp only [dP, PyData.eqv, Dv.tup.injEq]
      exact isEs_eqv g h
    | _ => simp_all [dP, isE, PyData.eqv]
  | .non, _, h, _ | .bl _, _, h, _ | .ad _, _, h, _ | .ty _, _, h, _ | .fl _, _, h, _ => by simp [isE] at h
theorem isEs_eqv : ∀ {xs ys : List Dv}, isEs xs = true → isEs ys = true → (PyData.eqvAll (dPs xs) (dPs ys) = true ↔ xs = ys)
  | [], ys, _, h => by cases ys <;> simp [dPs, PyData.eqvAll]
  | x :: xs, ys, g, h => by
    cases ys with
    | nil => simp [dPs, PyData.eqvAll]
    | cons y ys =>
      unfold isEs at g h
      rw [Bool.and_eq_true] at g h
      simp only [dPs, PyData.eqvAll, Bool.and_eq_true, List.cons.injEq]
      rw [isE_eqv g.1 h.1, isEs_eqv g.2 h.2]
end
mutual
theorem isE_pr {G : Hq} : ∀ {x : Dv}, isE x = true → PR G x (dP x)
  | .int i, _ => .int i
  | .str z, _ => .str z
  | .tup xs, h => by unfold isE at h; unfold dP; exact .tup (isEs_pr h)
  | .non, h | .bl _, h | .ad _, h | .ty _, h | .fl _, h => by simp [isE] at h
theorem isEs_pr {G : Hq} : ∀ {xs : List Dv}, isEs xs = true → PRs G xs (dPs xs)
  | [], _ => by unfold dPs; exact .nil
  | x :: xs, h => by
    unfold isEs at h
    rw [Bool.and_eq_true] at h
    unfold dPs
    exact .cons (isE_pr h.1) (isEs_pr h.2)
end
/-- plain data, not deep -/
def Ev (x : Dv) : Prop := isE x = true ∧ (dP x).depth ≤ 8
def Evs (xs : List Dv) : Prop := ∀ x ∈ xs, Ev x
theorem Evs.isEs {xs : List Dv} (h : Evs xs) : isEs xs = true := isEs_iff.mpr fun x hx => (h x hx).1
theorem Evs.depth {xs : List Dv} (h : Evs xs) : PyData.depthAll (dPs xs) ≤ 8 := by
  rw [dPs_map]
  exact depthAll_le fun d hd => by
    obtain ⟨x, hx, rfl⟩ := List.mem_map.mp hd
    exact (h x hx).2
theorem Ev.int (i : Int) : Ev (.int i) := ⟨rfl, by simp [dP, PyData.depth]⟩
theorem Ev.str {z : Str} (h : PyData.strOk z = true) : Ev (.str z) := ⟨by unfold isE; exact h, by simp [dP, PyData.depth]⟩
theorem Ev.shd {x : Dv} (h : Ev x) : Shd (dP x) := by
  unfold Shd SeqAt.shaped
  rw [isE_lay h.1, decide_eq_true (Nat.le_trans h.2 (by decide : 8 ≤ 64))]; rfl
theorem Evs.shdL {xs : List Dv} (h : Evs xs) : Shd (.list (dPs xs)) := by
  unfold Shd SeqAt.shaped
  rw [show PyData.canLay0 (.list (dPs xs)) = true by rw [PyData.canLay0]; exact isEs_lay h.isEs, decide_eq_true (by rw [PyData.depth]; have := h.depth; omega)]; rfl
theorem Evs.shdT {xs : List Dv} (h : Evs xs) : Shd (.tuple (dPs xs)) := by
  unfold Shd SeqAt.shaped
  rw [show PyData.canLay0 (.tuple (dPs xs)) = true by rw [PyData.canLay0]; exact isEs_lay h.isEs, decide_eq_true (by rw [PyData.depth]; have := h.depth; omega)]; rfl
/-- x in a row -/
theorem qIn_row {neg : Bool} {x y : Dv} {xs : List Dv} {G : Hq} {Q : KQ} (r : rowOf y G xs) (hx : Ev x) (hs : Evs xs) (q : ∀ b : Bool, (b = true ↔ x ∈ xs) → Q (.bl (xor neg b)) G) : qIn2 neg x y G Q := by
  have e : ((dPs xs).any fun z => PyData.eqv z (dP x)) = true ↔ x ∈ xs := by
    rw [dPs_map, List.any_map, List.any_eq_true]
    constructor
    · rintro ⟨z, hz, e⟩
      have := (isE_eqv (hs z hz).1 hx.1).mp e
      rw [← this]; exact hz
    · intro h
      exact ⟨x, h, (isE_eqv hx.1 hx.1).mpr rfl⟩
  refine .inl (.inl ⟨dP x, dPs xs, isE_pr hx.1, ?_, hx.shd, q _ e⟩)
  rcases r with ⟨p, rfl, h⟩ | rfl | rfl
  · exact .inl ⟨.lst h (isEs_pr hs.isEs), hs.shdL⟩
  · exact .inr ⟨.tup (isEs_pr hs.isEs), hs.shdT⟩
  · exact .inl ⟨.fl (isEs_pr hs.isEs), hs.shdL⟩
theorem qEq_ev {neg : Bool} {x y : Dv} {G : Hq} {Q : KQ} (hx : Ev x) (hy : Ev y) (q : ∀ b : Bool, (b = true ↔ x = y) → Q (.bl (xor neg b)) G) : qEq neg x y G Q :=
  ⟨_, _, isE_pr hx.1, isE_pr hy.1, hx.shd, hy.shd, q _ (isE_eqv hx.1 hy.1)⟩
theorem qEq_int {neg : Bool} {i j : Int} {G : Hq} {Q : KQ} (q : Q (.bl (xor neg (decide (i = j)))) G) : qEq neg (.int i) (.int j) G Q :=
  qEq_ev (.int i) (.int j) fun b e => by
    have : b = decide (i = j) := by rw [Bool.eq_iff_iff, e, decide_eq_true_iff, Dv.int.injEq]
    rw [this]; exact q
theorem qEq_lst {neg : Bool} {p p2 : Addr} {xs ys : List Dv} {G : Hq} {Q : KQ} (h1 : G p = some (.lst xs)) (h2 : G p2 = some (.lst ys)) (hx : Evs xs) (hy : Evs ys) (q : ∀ b : Bool, (b = true ↔ xs = ys) → Q (.bl (xor neg b)) G) : qEq neg (.ad p) (.ad p2) G Q :=
  ⟨_, _, .lst h1 (isEs_pr hx.isEs), .lst h2 (isEs_pr hy.isEs), hx.shdL, hy.shdL, q _ (by rw [PyData.eqv]; exact isEs_eqv hx.isEs hy.isEs)⟩
theorem Evs.nil : Evs [] := fun _ h => by cases h
theorem qEq_tup {neg : Bool} {xs ys : List Dv} {G : Hq} {Q : KQ} (hx : Evs xs) (hy : Evs ys) (q : ∀ b : Bool, (b = true ↔ xs = ys) → Q (.bl (xor neg b)) G) : qEq neg (.tup xs) (.tup ys) G Q :=
  ⟨_, _, .tup (isEs_pr hx.isEs), .tup (isEs_pr hy.isEs), hx.shdT, hy.shdT, q _ (by rw [PyData.eqv]; exact isEs_eqv hx.isEs hy.isEs)⟩
end J

set_option Elab.async false
set_option linter.all false
set_option maxRecDepth 100000
set_option maxHeartbeats 4000000
/-! P4: steps of the primitives. -/
namespace J
open PySem PySem.Spec L2 S
section
variable {G : Hq} {Q : KQ} {A B : Prop}
theorem w_bl {b : Bool} {P : Bool → Prop} (h : P b) : ∃ k, Dv.bl b = .bl k ∧ P k := ⟨b, rfl, h⟩
theorem w_int {i : Int} {P : Int → Prop} (h : P i) : ∃ k, Dv.int i = .int k ∧ P k := ⟨i, rfl, h⟩
theorem w_T (h : A) : if true = true then A else B := h
theorem w_F (h : B) : if false = true then A else B := h
theorem w_nT (h : B) : if (!true) = true then A else B := h
theorem w_nF (h : A) : if (!false) = true then A else B := h
theorem iteB {b : Bool} {A B : Prop} (h1 : b = true → A) (h2 : b = false → B) : if b = true then A else B := by
  cases b with
  | true => rw [if_pos rfl]; exact h1 rfl
  | false => rw [if_neg Bool.false_ne_true]; exact h2 rfl
theorem iteT {b : Bool} {A B : Prop} (e : b = true) (h : A) : if b = true then A else B := by rw [if_pos e]; exact h
theorem iteF {b : Bool} {A B : Prop} (e : b = false) (h : B) : if b = true then A else B := by rw [if_neg (by rw [e]; decide)]; exact h
theorem q_len_tup {xs : List Dv} (q : Q (.int xs.length) G) : qLen [.tup xs] G Q := q
theorem q_len_row {x : Dv} {xs : List Dv} (r : rowOf x G xs) (q : Q (.int xs.length) G) : qLen [x] G Q := by
  rcases r with ⟨p, rfl, h⟩ | rfl | rfl
  · exact ⟨xs, h, q⟩
  · exact q
  · exact q
theorem q_len_ad {p : Addr} {xs : List Dv} (h : G p = some (.lst xs)) (q : Q (.int xs.length) G) : qLen [.ad p] G Q := ⟨xs, h, q⟩
theorem q_len_str {z : Str} (h : z.length ≤ sizeLine) (q : Q (.int z.length) G) : qLen [.str z] G Q := ⟨h, q⟩
theorem q_ix_tup {xs : List Dv} {i : Int} {v : Dv} (e : atI xs i = some v) (q : Q v G) : qIx2 (.tup xs) (.int i) G Q := .inl ⟨v, e, q⟩
theorem q_ix_ad {p : Addr} {xs : List Dv} {i : Int} {v : Dv} (h : G p = some (.lst xs)) (e : atI xs i = some v) (q : Q v G) : qIx2 (.ad p) (.int i) G Q := .inl ⟨xs, v, h, e, q⟩
theorem q_ix_row {x : Dv} {xs : List Dv} {i : Int} {v : Dv} (r : rowOf x G xs) (e : atI xs i = some v) (q : Q v G) : qIx2 x (.int i) G Q := by
  rcases r with ⟨p, rfl, h⟩ | rfl | rfl
  · exact q_ix_ad h e q
  · exact q_ix_tup e q
  · exact .inl ⟨v, e, q⟩
theorem q_ix_str {z : Str} {i : Int} {c : Nat} (hz : z.length ≤ sizeLine) (e : atI z.cps.toList i = some c) (q : Q (.str ⟨#[c]⟩) G) : qIx2 (.str z) (.int i) G Q := .inl ⟨hz, c, e, q⟩
theorem q_ix_dic {p : Addr} {kvs : List (Key × Dv)} {y v : Dv} {k : Key} (h : G p = some (.dic kvs)) (ek : dKey y = some k) (e : gGet kvs k = some v) (q : Q v G) : qIx2 (.ad p) y G Q := .inr ⟨p, kvs, k, v, rfl, h, ek, e, q⟩
theorem at_nat {α : Type} {xs : List α} {i : Nat} {v : α} (e : xs[i]? = some v) : atI xs (i : Int) = some v := atI_nat e
theorem q_int {i : Int} (q : Q (.int i) G) : qInt [.int i] G Q := q
theorem q_intB {b : Bool} (q : Q (.int (if b then 1 else 0)) G) : qInt [.bl b] G Q := q
theorem q_add {i j : Int} (q : Q (.int (i + j)) G) : qAdd (.int i) (.int j) G Q := q
theorem q_addS {a b : Str} (h : a.length + b.length ≤ sizeLine) (q : Q (.str (a ++ b)) G) : qAdd (.str a) (.str b) G Q := ⟨h, q⟩
theorem q_addT {a b : List Dv} (h : a.length + b.length ≤ sizeLine) (q : Q (.tup (a ++ b)) G) : qAdd (.tup a) (.tup b) G Q := ⟨h, q⟩
theorem q_addL {a b : Addr} {xs ys : List Dv} (ha : G a = some (.lst xs)) (hb : G b = some (.lst ys)) (h : xs.length + ys.length ≤ sizeLine) (q : qNew (.lst (xs ++ ys)) G Q) : qAdd (.ad a) (.ad b) G Q := ⟨xs, ys, ha, hb, h, q⟩
theorem q_I {C : Int → Int → Prop} {g : Int → Int → Dv} {i j : Int} (c : C i j) (q : Q (g i j) G) : qI C g (.int i) (.int j) G Q := ⟨i, j, rfl, rfl, c, q⟩
theorem q_sub {i j : Int} (q : Q (.int (i - j)) G) : qSub (.int i) (.int j) G Q := q_I trivial q
theorem q_neg {i : Int} (q : Q (.int (-i)) G) : qNeg (.int i) G Q := ⟨i, rfl, q⟩
theorem q_negI {i : Int} (q : Q (.int (-i)) G) : (fun (x : Dv) (G : Hq) (Q : KQ) => ∃ i, x = .int i ∧ Q (.int (-i)) G) (.int i) G Q := ⟨i, rfl, q⟩
theorem q_ord {f : Int → Int → Bool} {g : Str → Str → Bool} {i j : Int} (q : Q (.bl (f i j)) G) : qOrd f g (.int i) (.int j) G Q := q
theorem q_ordS {f : Int → Int → Bool} {g : Str → Str → Bool} {a b : Str} (q : Q (.bl (g a b)) G) : qOrd f g (.str a) (.str b) G Q := q
theorem q_tuple_ad {p : Addr} {xs : List Dv} (h : G p = some (.lst xs)) (q : Q (.tup xs) G) : qTuple [.ad p] G Q := ⟨xs, h, q⟩
theorem q_tuple_tup {xs : List Dv} (q : Q (.tup xs) G) : qTuple [.tup xs] G Q := q
theorem q_list_ad {p : Addr} {xs : List Dv} (h : G p = some (.lst xs)) (q : qNew (.lst xs) G Q) : qList [.ad p] G Q := ⟨xs, h, q⟩
theorem q_list_tup {xs : List Dv} (q : qNew (.lst xs) G Q) : qList [.tup xs] G Q := q
theorem q_all {f : List Bool → Bool} {p : Addr} {bs : List Bool} (h : G p = some (.lst (bs.map Dv.bl))) (q : Q (.bl (f bs)) G) : qAll f [.ad p] G Q := ⟨p, bs, rfl, h, q⟩
theorem q_sl_ad {p : Addr} {xs : List Dv} {l u : Option Int} (h : G p = some (.lst xs)) (q : qNew (.lst (cutL xs l u)) G Q) : qSl (.ad p) l u G Q := ⟨xs, h, q⟩
theorem q_slD_ad {p : Addr} {xs : List Dv} {u : Option Int} (h : G p = some (.lst xs)) (q : qNew (.lst (revCut xs u)) G Q) : qSlD (.ad p) u G Q := ⟨xs, h, q⟩
theorem rowOf.src {G : Hq} {x : Dv} {xs : List Dv} (r : rowOf x G xs) : Src G x xs := by
  rcases r with ⟨p, rfl, h⟩ | rfl | rfl
  · exact .ad h
  · exact .tup _
  · exact .fl _
theorem rowOf.sub {G G' : Hq} {x : Dv} {xs : List Dv} (r : rowOf x G xs) (s : HSub G G') : rowOf x G' xs := r.imp (fun ⟨p, e, h⟩ => ⟨p, e, s _ _ h⟩) id
theorem rowOf.ad {G : Hq} {p : Addr} {xs : List Dv} (h : G p = some (.lst xs)) : rowOf (.ad p) G xs := .inl ⟨p, rfl, h⟩
theorem Ev.tup2 {a b : Dv} (ha : Ev a) (hb : Ev b) (da : (dP a).depth ≤ 7) (db : (dP b).depth ≤ 7) : Ev (.tup [a, b]) := by
  refine ⟨?_, ?_⟩
  · unfold isE isEs isEs isEs; rw [ha.1, hb.1]; rfl
  · simp only [dP, dPs, PyData.depth, PyData.depthAll]; omega
theorem Ev.edge {a b : Str} (ha : PyData.strOk a = true) (hb : PyData.strOk b = true) : Ev (.tup [.str a, .str b]) := Ev.tup2 (.str ha) (.str hb) (by simp [dP, PyData.depth]) (by simp [dP, PyData.depth])
end


end J

set_option Elab.async false
set_option linter.all false
set_option maxRecDepth 100000
set_option maxHeartbeats 4000000
/-! P5: graphs as data. -/
namespace M
open PySem PySem.Spec L2 S J
def dS (ns : List Str) : List Dv := ns.map Dv.str
abbrev dEdge (e : Str × Str) : Dv := .tup [.str e.1, .str e.2]
def dEs (es : List (Str × Str)) : List Dv := es.map dEdge
theorem call_same {v0 : Dv} {G : Hq} {Q : KQ} (q : Q v0 G) : ∀ v G1, (v = v0 ∧ G1 = G) → Q v G1 := by rintro _ _ ⟨rfl, rfl⟩; exact q
theorem rep_true : ∀ l : List Dv, l.map (fun _ => Dv.bl true) = (List.replicate l.length true).map Dv.bl
  | [] => rfl
  | x :: l => by rw [List.map_cons, rep_true l]; rfl
theorem all_rep {n : Nat} : (List.replicate n true).all id = true := by simp
/-- right vertices -/
structure OkV (ns : List Str) : Prop where
  pos : 1 ≤ ns.length
  few : ns.length ≤ 10
  name : ∀ n ∈ ns, isName n = true
  nd : ns.Nodup
/-- right edges -/
structure OkE (ns : List Str) (es : List (Str × Str)) : Prop where
  few : es.length ≤ 15
  ends : ∀ e ∈ es, e.1 ∈ ns ∧ e.2 ∈ ns ∧ ltS e.1 e.2 = true
  nd : es.Nodup
theorem isName_ok {z : Str} (h : isName z = true) : PyData.strOk z = true := by
  unfold isName at h
  simp only [Bool.and_eq_true, decide_eq_true_eq, List.all_eq_true] at h
  unfold PyData.strOk
  rw [← Array.all_toList, List.all_eq_true]
  intro c hc
  have := h.2 c hc
  unfold isLet at this
  simp only [Bool.and_eq_true, decide_eq_true_eq] at this
  exact decide_eq_true (by omega)
theorem isName_len {z : Str} (h : isName z = true) : z.length ≤ 8 := by
  unfold isName at h
  simp only [Bool.and_eq_true, decide_eq_true_eq] at h
  rw [len_str]; exact h.1.2
theorem isName_fits {z : Str} (h : isName z = true) : z.length ≤ sizeLine := size_ge (Nat.le_trans (isName_len h) (by decide))
theorem isName_ev {z : Str} (h : isName z = true) : Ev (.str z) := .str (isName_ok h)
theorem dS_ev {ns : List Str} (h : ∀ n ∈ ns, isName n = true) : Evs (dS ns) := fun x hx => by
  obtain ⟨n, hn, rfl⟩ := List.mem_map.mp hx
  exact isName_ev (h n hn)
theorem mem_dS {ns : List Str} {a : Str} : Dv.str a ∈ dS ns ↔ a ∈ ns := by
  unfold dS
  rw [List.mem_map]
  constructor
  · rintro ⟨n, h, e⟩; cases e; exact h
  · intro h; exact ⟨a, h, rfl⟩
theorem dEdge_inj {e f : Str × Str} (h : dEdge e = dEdge f) : e = f := by
  unfold dEdge at h
  simp only [Dv.tup.injEq, List.cons.injEq, Dv.str.injEq, and_true] at h
  exact Prod.ext h.1 h.2
theorem mem_dEs {es : List (Str × Str)} {e : Str × Str} : dEdge e ∈ dEs es ↔ e ∈ es := by
  unfold dEs
  rw [List.mem_map]
  constructor
  · rintro ⟨f, h, e⟩; rw [← dEdge_inj e]; exact h
  · intro h; exact ⟨e, h, rfl⟩
theorem OkE.name1 {ns es} (v : OkV ns) (h : OkE ns es) {e : Str × Str} (he : e ∈ es) : isName e.1 = true := v.name _ (h.ends e he).1
theorem OkE.name2 {ns es} (v : OkV ns) (h : OkE ns es) {e : Str × Str} (he : e ∈ es) : isName e.2 = true := v.name _ (h.ends e he).2.1
theorem dEs_ev {es : List (Str × Str)} (h : ∀ e ∈ es, isName e.1 = true ∧ isName e.2 = true) : Evs (dEs es) := fun x hx => by
  obtain ⟨n, hn, rfl⟩ := List.mem_map.mp hx
  exact .edge (isName_ok (h n hn).1) (isName_ok (h n hn).2)
theorem OkE.ev {ns es} (v : OkV ns) (h : OkE ns es) : Evs (dEs es) := dEs_ev fun e he => ⟨h.name1 v he, h.name2 v he⟩
theorem dS_len (ns : List Str) : (dS ns).length = ns.length := List.length_map ..
theorem dEs_len (es : List (Str × Str)) : (dEs es).length = es.length := List.length_map ..
/-- nothing is taken twice: len(set(xs)) == len(xs) -/
theorem nubS {ns : List Str} (h : ns.Nodup) : (nub ((dS ns).map kd)).length = ns.length := by
  have e : (dS ns).map kd = ns.map (kd ∘ Dv.str) := by unfold dS; rw [List.map_map]
  rw [e]
  exact (congrArg List.length (nub_map (kd ∘ Dv.str) kd_str ns)).trans ((List.length_map ..).trans (nub_full.mpr h))
theorem kd_edge (e f : Str × Str) (h : kd (dEdge e) = kd (dEdge f)) : e = f := by
  unfold dEdge at h
  simp only [kd, kds, NestedKey.tup.injEq, List.cons.injEq, NestedKey.text.injEq, and_true] at h
  exact Prod.ext h.1 h.2
theorem nubE {es : List (Str × Str)} (h : es.Nodup) : (nub ((dEs es).map kd)).length = es.length := by
  have e : (dEs es).map kd = es.map (kd ∘ dEdge) := by unfold dEs; rw [List.map_map]
  rw [e]
  exact (congrArg List.length (nub_map (kd ∘ dEdge) kd_edge es)).trans ((List.length_map ..).trans (nub_full.mpr h))
theorem setOkS (ns : List Str) (h : ns.length < 4000) : SetOk (dS ns) := .inr ⟨by rw [dS_len]; exact h, ns, rfl⟩
theorem setOkE (es : List (Str × Str)) (h : es.length < 64) : SetOk (dEs es) := .inl ⟨by rw [dEs_len]; exact h, fun x hx => by
  obtain ⟨e, _, rfl⟩ := List.mem_map.mp hx
  exact ⟨rfl, by simp [dEdge, isK, isKs], by simp [dEdge, kd, kds, NestedKey.depth, NestedKey.depthAll]⟩⟩
end M

set_option Elab.async false
set_option linter.all false
set_option maxRecDepth 100000
set_option maxHeartbeats 4000000
/-! P6: the class Graph, its facts and its objects. -/
namespace J
open PySem PySem.Spec L2 S
theorem HSub.put {G G' : Hq} {p : Addr} {u : Ob} (h : ∀ a o, a ≠ p → G a = some o → G' a = some o) : HSub (J.up G p u) (J.up G' p u) := fun a o e => by
  by_cases z : a = p
  · subst z; rw [up_same] at e ⊢; exact e
  · rw [up_ne z] at e ⊢; exact h a o z e
end J
namespace M
open PySem PySem.Spec L2 S J
def tyNames : List String := ["NoneType", "bool", "int", "str", "tuple", "list"]
/-- the facts of the class Graph -/
structure GF (K : PySem.W.Frag) (c : Ad) : Prop where
  cl : Cls K c.cGraph
  ha : PySem.W.findIn K (.ref c.cGraph) "__class__" = some (some (.builtin "object.__class__"))
  hn : PySem.W.specialIn K (.builtin "object.__class__") "__get__" = some (some (.builtin "getset_descriptor.__get__"))
  htk : PySem.W.takesIn K (.builtin "object.__class__") = some true
  hm : PySem.W.mroIn K c.cGraph (.type "object") = some true
  no : ∀ n ∈ tyNames, PySem.W.kitCls K (.type n) (.ref c.cGraph) = some false
  sub : ∀ n ∈ tyNames, PySem.W.subIn K (.type n) (.ref c.cGraph) = some false
theorem GF.ins {K c} (f : GF K c) {G : Hq} {a : Addr} {fs : List (Str × Dv)} (e : G a = some (.ins c.cGraph fs)) : TyD K G (.ad a) (.ref c.cGraph) := .ins e f.cl f.ha f.hn f.htk f.hm
theorem GF.self {K : PySem.W.Frag} {C : Addr} : PySem.W.kitOne K (.ref C) (.ref C) = some true := by unfold PySem.W.kitOne; rw [if_pos (beq_self_eq_true _)]
theorem ty_ne {n : String} {C : Addr} : ¬ ((Value.type n == Value.ref C) = true) := fun h => by have := eq_of_beq h; cases this
theorem GF.other {K c} (f : GF K c) {n : String} (h : n ∈ tyNames) : PySem.W.kitOne K (.type n) (.ref c.cGraph) = some false := by
  unfold PySem.W.kitOne; rw [if_neg ty_ne]; exact f.no n h
theorem GF.nf {K : PySem.W.Frag} {C : Addr} : PySem.W.notFirst K C (.ref C) = true := by unfold PySem.W.notFirst; rw [beq_self_eq_true, Bool.true_or]
theorem GF.nfo {K c} (f : GF K c) {n : String} (h : n ∈ tyNames) : PySem.W.notFirst K c.cGraph (.type n) = true := by
  unfold PySem.W.notFirst; rw [f.sub n h, beq_self_eq_true, Bool.or_true]
def leE (e f : Str × Str) : Bool := leD (dEdge e) (dEdge f)
def sortE (es : List (Str × Str)) : List (Str × Str) := es.mergeSort leE
theorem sortE_d (es : List (Str × Str)) : (dEs es).mergeSort leD = dEs (sortE es) := by
  unfold dEs sortE
  rw [List.map_mergeSort (r := leE) (s := leD) (fun _ _ _ _ => rfl)]
theorem sortOkE (es : List (Str × Str)) : SortOk (dEs es) := by
  refine ⟨⟨fun x hx => ?_, fun d hd d' hd' => ?_, fun x hx => ?_⟩, .inl fun d hd => ?_⟩
  · obtain ⟨e, _, rfl⟩ := List.mem_map.mp hx; simp [isK, isKs]
  · obtain ⟨x, hx, rfl⟩ := List.mem_map.mp hd
    obtain ⟨y, hy, rfl⟩ := List.mem_map.mp hd'
    obtain ⟨e, _, rfl⟩ := List.mem_map.mp hx
    obtain ⟨f, _, rfl⟩ := List.mem_map.mp hy
    simp [dP, dPs, PySem.W.alike, PySem.W.alikeAll]
  · obtain ⟨e, _, rfl⟩ := List.mem_map.mp hx; simp [dP, dPs, PyData.depth, PyData.depthAll]
  · obtain ⟨x, hx, rfl⟩ := List.mem_map.mp hd
    obtain ⟨e, _, rfl⟩ := List.mem_map.mp hx
    exact ⟨.str e.1, [.str e.2], by simp only [dP, dPs]⟩
/-- the fields of a graph -/
def gFs (ns : List Str) (es : List (Str × Str)) : List (Str × Dv) := [("vertices", .tup (dS ns)), ("edges", .tup (dEs (sortE es)))]
theorem gFs_v {ns es} : (gFs ns es).lookup ("vertices" : Str) = some (.tup (dS ns)) := by unfold gFs; rfl
theorem gFs_e {ns es} : (gFs ns es).lookup ("edges" : Str) = some (.tup (dEs (sortE es))) := by unfold gFs; rfl
theorem put_v {x : Dv} : putD "vertices" x [] = ([("vertices", x)] : List (Str × Dv)) := rfl
theorem put_e {x y : Dv} : putD "edges" y [("vertices", x)] = ([("vertices", x), ("edges", y)] : List (Str × Dv)) := by
  unfold putD
  rw [if_neg (by decide)]; rfl
/-- a list or a tuple that may be handed on -/
def rowT (x : Dv) (G : Hq) (xs : List Dv) : Prop := (∃ p, x = .ad p ∧ G p = some (.lst xs)) ∨ x = .tup xs
theorem rowT.row {x : Dv} {G : Hq} {xs : List Dv} (h : rowT x G xs) : rowOf x G xs := h.imp id .inl
theorem rowT.sub {G G' : Hq} {x : Dv} {xs : List Dv} (r : rowT x G xs) (s : HSub G G') : rowT x G' xs := r.imp (fun ⟨p, e, h⟩ => ⟨p, e, s _ _ h⟩) id
theorem q_tuple_row {x : Dv} {xs : List Dv} {G : Hq} {Q : KQ} (r : rowT x G xs) (q : Q (.tup xs) G) : qTuple [x] G Q := by
  rcases r with ⟨p, rfl, h⟩ | rfl
  · exact ⟨xs, h, q⟩
  · exact q
end M

set_option Elab.async false
set_option linter.all false
set_option maxRecDepth 100000
set_option maxHeartbeats 4000000
namespace M
open PySem PySem.Spec L2 S J
/-! ### is_row -/
abbrev N_is_row : List Str := ["value"]
def t_is_row (K : PySem.W.Frag) (c : Ad) : JSt := (jRet (jCl (qIsiT K) (jCons (jVar 0) (jCons (jTup (jCons (jC (.ty "list")) (jCons (jC (.ty "tuple")) jNil))) jNil))))
/-- is x a row: a list or a tuple (or not: a text, a number) -/
def sp_is_row (K : PySem.W.Frag) (c : Ad) : Sq := spA fun ws G po => ∃ x xs, ws = [x] ∧ rowOf x G xs ∧ po = fun v G1 => v = .bl true ∧ G1 = G
theorem mono_is_row {K : PySem.W.Frag} {c : Ad} : MonoSq (sp_is_row K c) := spA.mono
theorem len_is_row {K : PySem.W.Frag} {c : Ad} : ∀ ws G Q E, sp_is_row K c ws G Q E → ws.length = (["value"] : List Str).length := by
  rintro _ _ _ _ ⟨_, ⟨_, _, rfl, _⟩, _⟩; rfl
theorem pure_is_row {K : PySem.W.Frag} {c : Ad} : ∀ ws G Q E, Up Q → UpX E → sp_is_row K c ws G Q E → t_is_row K c (fun c f _ G => E c f G) { nx := fun _ G => Q .non G, rt := Q } (startT N_is_row ws) G := by
  rintro _ G Q E _ _ ⟨_, ⟨x, xs, rfl, h, rfl⟩, q⟩
  unfold t_is_row
  (with_reducible (repeat (first | (first | refine w_var rfl ?_ | refine w_c ?_ | refine w_op ?_ | refine w_un ?_ | refine w_cl ?_ | refine w_nil ?_ | refine w_cons ?_ | refine w_tup ?_ | refine w_lst ?_ | refine w_test ?_ | refine w_not ?_ | refine w_and ?_ | refine w_or ?_ | refine w_andV ?_ | refine w_orV ?_ | refine w_notV ?_ | refine w_if ?_ | refine w_chn ?_ | refine w_call ?_ | refine w_make ?_ | refine w_fld ?_ | refine w_ml ?_ | refine w_ml0 ?_ | refine w_sl ?_ | refine w_slD ?_ | refine w_noPart ?_ | refine w_part ?_ | refine w_dictZ ?_ | refine w_lcA ?_ | refine w_ret ?_ | refine w_rt ?_ | refine w_ifS ?_ | refine w_next ?_ | refine w_break ?_ | refine w_cont ?_ | refine w_seq ?_ | refine w_asg ?_ | refine w_drop ?_ | refine w_par ?_ | refine w_sfld ?_ | refine w_asgT ?_ | refine w_gset ?_ | refine w_gname ?_ | refine w_gtup rfl ?_ | refine w_gcons ?_ | refine w_gnil ?_ | refine w_yes ?_) | refine w_bl ?_ | refine w_int ?_ | refine w_T ?_ | refine w_F ?_ | refine w_nT ?_ | refine w_nF ?_ | refine q_len_tup ?_ | refine q_int ?_ | refine q_intB ?_ | refine q_add ?_ | refine q_sub ?_ | refine q_neg ?_ | refine q_ord ?_ | refine q_ordS ?_ | refine q_tuple_tup ?_ | refine qEq_int ?_)))
  refine ⟨by decide, ?_⟩
  rcases h with ⟨p, rfl, h⟩ | rfl | rfl
  · exact ⟨_, ["list", "tuple"], _, true, rfl, .lst h, by rfl, q _ _ ⟨rfl, rfl⟩⟩
  · exact ⟨_, ["list", "tuple"], _, true, rfl, .tup _, by rfl, q _ _ ⟨rfl, rfl⟩⟩
  · exact ⟨_, ["list", "tuple"], _, true, rfl, .fl _, by rfl, q _ _ ⟨rfl, rfl⟩⟩

/-! ### is_name -/
abbrev N_is_name : List Str := ["value", "letter"]
def t_is_name (K : PySem.W.Frag) (c : Ad) : JSt := (jRet (jAndV (jCl (qIsi K) (jCons (jVar 0) (jCons (jC (.ty "str")) jNil))) (jAndV (jChn qLe qLe (jC (.int 1)) (jCl qLen (jCons (jVar 0) jNil)) (jC (.int 8))) (jCl (qAll fun bs => bs.all id) (jCons (jLc (jiAny (jVar 0)) (jgName 1) jYes (jOp (qIn2 false) (jVar 1) (jC (.str "abcdefghijklmnopqrstuvwxyz"))) [1]) jNil)))))
def sp_is_name (K : PySem.W.Frag) (c : Ad) : Sq := spA fun ws G po => ∃ z : Str, ws = [.str z] ∧ z.length ≤ sizeLine ∧ po = fun v G1 => v = .bl (isName z) ∧ G1 = G
theorem mono_is_name {K : PySem.W.Frag} {c : Ad} : MonoSq (sp_is_name K c) := spA.mono
theorem len_is_name {K : PySem.W.Frag} {c : Ad} : ∀ ws G Q E, sp_is_name K c ws G Q E → ws.length = (["value"] : List Str).length := by
  rintro _ _ _ _ ⟨_, ⟨_, rfl, _⟩, _⟩; rfl
theorem pure_is_name {K : PySem.W.Frag} {c : Ad} : ∀ ws G Q E, Up Q → UpX E → sp_is_name K c ws G Q E → t_is_name K c (fun c f _ G => E c f G) { nx := fun _ G => Q .non G, rt := Q } (startT N_is_name ws) G := by
  rintro _ G Q E hU _ ⟨_, ⟨z, rfl, hz, rfl⟩, q⟩
  unfold t_is_name
  (with_reducible (repeat (first | (first | refine w_var rfl ?_ | refine w_c ?_ | refine w_op ?_ | refine w_un ?_ | refine w_cl ?_ | refine w_nil ?_ | refine w_cons ?_ | refine w_tup ?_ | refine w_lst ?_ | refine w_test ?_ | refine w_not ?_ | refine w_and ?_ | refine w_or ?_ | refine w_andV ?_ | refine w_orV ?_ | refine w_notV ?_ | refine w_if ?_ | refine w_chn ?_ | refine w_call ?_ | refine w_make ?_ | refine w_fld ?_ | refine w_ml ?_ | refine w_ml0 ?_ | refine w_sl ?_ | refine w_slD ?_ | refine w_noPart ?_ | refine w_part ?_ | refine w_dictZ ?_ | refine w_lcA ?_ | refine w_ret ?_ | refine w_rt ?_ | refine w_ifS ?_ | refine w_next ?_ | refine w_break ?_ | refine w_cont ?_ | refine w_seq ?_ | refine w_asg ?_ | refine w_drop ?_ | refine w_par ?_ | refine w_sfld ?_ | refine w_asgT ?_ | refine w_gset ?_ | refine w_gname ?_ | refine w_gtup rfl ?_ | refine w_gcons ?_ | refine w_gnil ?_ | refine w_yes ?_) | refine w_bl ?_ | refine w_int ?_ | refine w_T ?_ | refine w_F ?_ | refine w_nT ?_ | refine w_nF ?_ | refine q_len_tup ?_ | refine q_int ?_ | refine q_intB ?_ | refine q_add ?_ | refine q_sub ?_ | refine q_neg ?_ | refine q_ord ?_ | refine q_ordS ?_ | refine q_tuple_tup ?_ | refine qEq_int ?_)))
  refine qIsi_str ?_
  (with_reducible (repeat (first | (first | refine w_var rfl ?_ | refine w_c ?_ | refine w_op ?_ | refine w_un ?_ | refine w_cl ?_ | refine w_nil ?_ | refine w_cons ?_ | refine w_tup ?_ | refine w_lst ?_ | refine w_test ?_ | refine w_not ?_ | refine w_and ?_ | refine w_or ?_ | refine w_andV ?_ | refine w_orV ?_ | refine w_notV ?_ | refine w_if ?_ | refine w_chn ?_ | refine w_call ?_ | refine w_make ?_ | refine w_fld ?_ | refine w_ml ?_ | refine w_ml0 ?_ | refine w_sl ?_ | refine w_slD ?_ | refine w_noPart ?_ | refine w_part ?_ | refine w_dictZ ?_ | refine w_lcA ?_ | refine w_ret ?_ | refine w_rt ?_ | refine w_ifS ?_ | refine w_next ?_ | refine w_break ?_ | refine w_cont ?_ | refine w_seq ?_ | refine w_asg ?_ | refine w_drop ?_ | refine w_par ?_ | refine w_sfld ?_ | refine w_asgT ?_ | refine w_gset ?_ | refine w_gname ?_ | refine w_gtup rfl ?_ | refine w_gcons ?_ | refine w_gnil ?_ | refine w_yes ?_) | refine w_bl ?_ | refine w_int ?_ | refine w_T ?_ | refine w_F ?_ | refine w_nT ?_ | refine w_nF ?_ | refine q_len_tup ?_ | refine q_int ?_ | refine q_intB ?_ | refine q_add ?_ | refine q_sub ?_ | refine q_neg ?_ | refine q_ord ?_ | refine q_ordS ?_ | refine q_tuple_tup ?_ | refine qEq_int ?_)))
  refine q_len_str hz ?_
  (with_reducible (repeat (first | (first | refine w_var rfl ?_ | refine w_c ?_ | refine w_op ?_ | refine w_un ?_ | refine w_cl ?_ | refine w_nil ?_ | refine w_cons ?_ | refine w_tup ?_ | refine w_lst ?_ | refine w_test ?_ | refine w_not ?_ | refine w_and ?_ | refine w_or ?_ | refine w_andV ?_ | refine w_orV ?_ | refine w_notV ?_ | refine w_if ?_ | refine w_chn ?_ | refine w_call ?_ | refine w_make ?_ | refine w_fld ?_ | refine w_ml ?_ | refine w_ml0 ?_ | refine w_sl ?_ | refine w_slD ?_ | refine w_noPart ?_ | refine w_part ?_ | refine w_dictZ ?_ | refine w_lcA ?_ | refine w_ret ?_ | refine w_rt ?_ | refine w_ifS ?_ | refine w_next ?_ | refine w_break ?_ | refine w_cont ?_ | refine w_seq ?_ | refine w_asg ?_ | refine w_drop ?_ | refine w_par ?_ | refine w_sfld ?_ | refine w_asgT ?_ | refine w_gset ?_ | refine w_gname ?_ | refine w_gtup rfl ?_ | refine w_gcons ?_ | refine w_gnil ?_ | refine w_yes ?_) | refine w_bl ?_ | refine w_int ?_ | refine w_T ?_ | refine w_F ?_ | refine w_nT ?_ | refine w_nF ?_ | refine q_len_tup ?_ | refine q_int ?_ | refine q_intB ?_ | refine q_add ?_ | refine q_sub ?_ | refine q_neg ?_ | refine q_ord ?_ | refine q_ordS ?_ | refine q_tuple_tup ?_ | refine qEq_int ?_)))
  refine iteB (fun h1 => ?_) (fun h1 => ?_)
  · (with_reducible (repeat (first | (first | refine w_var rfl ?_ | refine w_c ?_ | refine w_op ?_ | refine w_un ?_ | refine w_cl ?_ | refine w_nil ?_ | refine w_cons ?_ | refine w_tup ?_ | refine w_lst ?_ | refine w_test ?_ | refine w_not ?_ | refine w_and ?_ | refine w_or ?_ | refine w_andV ?_ | refine w_orV ?_ | refine w_notV ?_ | refine w_if ?_ | refine w_chn ?_ | refine w_call ?_ | refine w_make ?_ | refine w_fld ?_ | refine w_ml ?_ | refine w_ml0 ?_ | refine w_sl ?_ | refine w_slD ?_ | refine w_noPart ?_ | refine w_part ?_ | refine w_dictZ ?_ | refine w_lcA ?_ | refine w_ret ?_ | refine w_rt ?_ | refine w_ifS ?_ | refine w_next ?_ | refine w_break ?_ | refine w_cont ?_ | refine w_seq ?_ | refine w_asg ?_ | refine w_drop ?_ | refine w_par ?_ | refine w_sfld ?_ | refine w_asgT ?_ | refine w_gset ?_ | refine w_gname ?_ | refine w_gtup rfl ?_ | refine w_gcons ?_ | refine w_gnil ?_ | refine w_yes ?_) | refine w_bl ?_ | refine w_int ?_ | refine w_T ?_ | refine w_F ?_ | refine w_nT ?_ | refine w_nF ?_ | refine q_len_tup ?_ | refine q_int ?_ | refine q_intB ?_ | refine q_add ?_ | refine q_sub ?_ | refine q_neg ?_ | refine q_ord ?_ | refine q_ordS ?_ | refine q_tuple_tup ?_ | refine qEq_int ?_)))
    refine iteB (fun h2 => ?_) (fun h2 => ?_)
    · (with_reducible (repeat (first | (first | refine w_var rfl ?_ | refine w_c ?_ | refine w_op ?_ | refine w_un ?_ | refine w_cl ?_ | refine w_nil ?_ | refine w_cons ?_ | refine w_tup ?_ | refine w_lst ?_ | refine w_test ?_ | refine w_not ?_ | refine w_and ?_ | refine w_or ?_ | refine w_andV ?_ | refine w_orV ?_ | refine w_notV ?_ | refine w_if ?_ | refine w_chn ?_ | refine w_call ?_ | refine w_make ?_ | refine w_fld ?_ | refine w_ml ?_ | refine w_ml0 ?_ | refine w_sl ?_ | refine w_slD ?_ | refine w_noPart ?_ | refine w_part ?_ | refine w_dictZ ?_ | refine w_lcA ?_ | refine w_ret ?_ | refine w_rt ?_ | refine w_ifS ?_ | refine w_next ?_ | refine w_break ?_ | refine w_cont ?_ | refine w_seq ?_ | refine w_asg ?_ | refine w_drop ?_ | refine w_par ?_ | refine w_sfld ?_ | refine w_asgT ?_ | refine w_gset ?_ | refine w_gname ?_ | refine w_gtup rfl ?_ | refine w_gcons ?_ | refine w_gnil ?_ | refine w_yes ?_) | refine w_bl ?_ | refine w_int ?_ | refine w_T ?_ | refine w_F ?_ | refine w_nT ?_ | refine w_nF ?_ | refine q_len_tup ?_ | refine q_int ?_ | refine q_intB ?_ | refine q_add ?_ | refine q_sub ?_ | refine q_neg ?_ | refine q_ord ?_ | refine q_ordS ?_ | refine q_tuple_tup ?_ | refine qEq_int ?_)))
      refine lc_at (.str z) (by rw [signs_len, ← len_str]; exact hz) (fun _ => true) (fun x => .bl (match x with | .str y => y.cps.toList.all isLet | _ => false)) (fun x hx => ?_) (fun p hp => ?_)
      · obtain ⟨k, hk, rfl⟩ := mem_signs hx
        intro G2 s N A _ ha
        (with_reducible (repeat (first | (first | refine w_var rfl ?_ | refine w_c ?_ | refine w_op ?_ | refine w_un ?_ | refine w_cl ?_ | refine w_nil ?_ | refine w_cons ?_ | refine w_tup ?_ | refine w_lst ?_ | refine w_test ?_ | refine w_not ?_ | refine w_and ?_ | refine w_or ?_ | refine w_andV ?_ | refine w_orV ?_ | refine w_notV ?_ | refine w_if ?_ | refine w_chn ?_ | refine w_call ?_ | refine w_make ?_ | refine w_fld ?_ | refine w_ml ?_ | refine w_ml0 ?_ | refine w_sl ?_ | refine w_slD ?_ | refine w_noPart ?_ | refine w_part ?_ | refine w_dictZ ?_ | refine w_lcA ?_ | refine w_ret ?_ | refine w_rt ?_ | refine w_ifS ?_ | refine w_next ?_ | refine w_break ?_ | refine w_cont ?_ | refine w_seq ?_ | refine w_asg ?_ | refine w_drop ?_ | refine w_par ?_ | refine w_sfld ?_ | refine w_asgT ?_ | refine w_gset ?_ | refine w_gname ?_ | refine w_gtup rfl ?_ | refine w_gcons ?_ | refine w_gnil ?_ | refine w_yes ?_) | refine w_bl ?_ | refine w_int ?_ | refine w_T ?_ | refine w_F ?_ | refine w_nT ?_ | refine w_nF ?_ | refine q_len_tup ?_ | refine q_int ?_ | refine q_intB ?_ | refine q_add ?_ | refine q_sub ?_ | refine q_neg ?_ | refine q_ord ?_ | refine q_ordS ?_ | refine q_tuple_tup ?_ | refine qEq_int ?_)))
        refine .inl (.inr ⟨k, letters, rfl, rfl, ?_⟩)
        have := ha rfl G2 (HSub.refl _)
        rw [Bool.false_xor]
        have e := letters_mem k
        rw [Bool.eq_iff_iff, List.contains_iff_mem] at e
        rw [show decide (k ∈ letters.cps.toList) = isLet k by rw [Bool.eq_iff_iff, decide_eq_true_iff]; exact e]
        simpa using this
      · (with_reducible (repeat (first | (first | refine w_var rfl ?_ | refine w_c ?_ | refine w_op ?_ | refine w_un ?_ | refine w_cl ?_ | refine w_nil ?_ | refine w_cons ?_ | refine w_tup ?_ | refine w_lst ?_ | refine w_test ?_ | refine w_not ?_ | refine w_and ?_ | refine w_or ?_ | refine w_andV ?_ | refine w_orV ?_ | refine w_notV ?_ | refine w_if ?_ | refine w_chn ?_ | refine w_call ?_ | refine w_make ?_ | refine w_fld ?_ | refine w_ml ?_ | refine w_ml0 ?_ | refine w_sl ?_ | refine w_slD ?_ | refine w_noPart ?_ | refine w_part ?_ | refine w_dictZ ?_ | refine w_lcA ?_ | refine w_ret ?_ | refine w_rt ?_ | refine w_ifS ?_ | refine w_next ?_ | refine w_break ?_ | refine w_cont ?_ | refine w_seq ?_ | refine w_asg ?_ | refine w_drop ?_ | refine w_par ?_ | refine w_sfld ?_ | refine w_asgT ?_ | refine w_gset ?_ | refine w_gname ?_ | refine w_gtup rfl ?_ | refine w_gcons ?_ | refine w_gnil ?_ | refine w_yes ?_) | refine w_bl ?_ | refine w_int ?_ | refine w_T ?_ | refine w_F ?_ | refine w_nT ?_ | refine w_nF ?_ | refine q_len_tup ?_ | refine q_int ?_ | refine q_intB ?_ | refine q_add ?_ | refine q_sub ?_ | refine q_neg ?_ | refine q_ord ?_ | refine q_ordS ?_ | refine q_tuple_tup ?_ | refine qEq_int ?_)))
        refine ⟨p, z.cps.toList.map isLet, rfl, ?_, ?_⟩
        · rw [up_same, List.filter_eq_self.mpr (by intros; rfl)]
          unfold J.signs
          simp
        · refine hU _ G _ (HSub.new hp) (q _ _ ⟨?_, rfl⟩)
          have h1' : 1 ≤ z.cps.toList.length := by have := of_decide_eq_true h1; rw [← len_str]; omega
          have h2' : z.cps.toList.length ≤ 8 := by have := of_decide_eq_true h2; rw [← len_str]; omega
          unfold isName
          rw [decide_eq_true h1', decide_eq_true h2']
          simp
    · refine q _ _ ⟨?_, rfl⟩
      have h2' : ¬ z.cps.toList.length ≤ 8 := by have := of_decide_eq_false h2; rw [← len_str]; omega
      unfold isName
      rw [decide_eq_false h2']
      simp
  · (with_reducible (repeat (first | (first | refine w_var rfl ?_ | refine w_c ?_ | refine w_op ?_ | refine w_un ?_ | refine w_cl ?_ | refine w_nil ?_ | refine w_cons ?_ | refine w_tup ?_ | refine w_lst ?_ | refine w_test ?_ | refine w_not ?_ | refine w_and ?_ | refine w_or ?_ | refine w_andV ?_ | refine w_orV ?_ | refine w_notV ?_ | refine w_if ?_ | refine w_chn ?_ | refine w_call ?_ | refine w_make ?_ | refine w_fld ?_ | refine w_ml ?_ | refine w_ml0 ?_ | refine w_sl ?_ | refine w_slD ?_ | refine w_noPart ?_ | refine w_part ?_ | refine w_dictZ ?_ | refine w_lcA ?_ | refine w_ret ?_ | refine w_rt ?_ | refine w_ifS ?_ | refine w_next ?_ | refine w_break ?_ | refine w_cont ?_ | refine w_seq ?_ | refine w_asg ?_ | refine w_drop ?_ | refine w_par ?_ | refine w_sfld ?_ | refine w_asgT ?_ | refine w_gset ?_ | refine w_gname ?_ | refine w_gtup rfl ?_ | refine w_gcons ?_ | refine w_gnil ?_ | refine w_yes ?_) | refine w_bl ?_ | refine w_int ?_ | refine w_T ?_ | refine w_F ?_ | refine w_nT ?_ | refine w_nF ?_ | refine q_len_tup ?_ | refine q_int ?_ | refine q_intB ?_ | refine q_add ?_ | refine q_sub ?_ | refine q_neg ?_ | refine q_ord ?_ | refine q_ordS ?_ | refine q_tuple_tup ?_ | refine qEq_int ?_)))
    refine q _ _ ⟨?_, rfl⟩
    have h1' : ¬ 1 ≤ z.cps.toList.length := by have := of_decide_eq_false h1; rw [← len_str]; omega
    unfold isName
    rw [decide_eq_false h1']
    simp

/-! ### joins -/
abbrev N_joins : List Str := ["vertices", "value", "end"]
def t_joins_1 (K : PySem.W.Frag) (c : Ad) : JSt := (jRet (jAndV (jCl (qAll fun bs => bs.all id) (jCons (jLc (jiAny (jVar 1)) (jgName 2) jYes (jAndV (jCall (sp_is_name K c) (jCons (jVar 2) jNil)) (jOp (qIn2 false) (jVar 2) (jVar 0))) [2]) jNil)) (jOp qLt (jOp qIx2 (jVar 1) (jC (.int 0))) (jOp qIx2 (jVar 1) (jC (.int 1))))))
def t_joins (K : PySem.W.Frag) (c : Ad) : JSt := (jSeq (jIfS (jOr (jNot (jTest (jCl (qIsi K) (jCons (jVar 1) (jCons (jC (.ty "tuple")) jNil))))) (jTest (jOp (qEq true) (jCl qLen (jCons (jVar 1) jNil)) (jC (.int 2))))) (jRet (jC (.bl false))) jNext) (t_joins_1 K c))
def sp_joins (K : PySem.W.Frag) (c : Ad) : Sq := spA fun ws G po => ∃ x ns e, ws = [x, dEdge e] ∧ rowOf x G (dS ns) ∧ (∀ n ∈ ns, isName n = true) ∧ e.1 ∈ ns ∧ e.2 ∈ ns ∧ ltS e.1 e.2 = true ∧ po = fun v G1 => v = .bl true ∧ G1 = G
theorem mono_joins {K : PySem.W.Frag} {c : Ad} : MonoSq (sp_joins K c) := spA.mono
theorem len_joins {K : PySem.W.Frag} {c : Ad} : ∀ ws G Q E, sp_joins K c ws G Q E → ws.length = (["vertices", "value"] : List Str).length := by
  rintro _ _ _ _ ⟨_, ⟨_, _, _, rfl, _⟩, _⟩; rfl
theorem pure_joins {K : PySem.W.Frag} {c : Ad} : ∀ ws G Q E, Up Q → UpX E → sp_joins K c ws G Q E → t_joins K c (fun c f _ G => E c f G) { nx := fun _ G => Q .non G, rt := Q } (startT N_joins ws) G := by
  rintro _ G Q E hU _ ⟨_, ⟨x, ns, ⟨a, b⟩, rfl, row, nm, ha, hb, lt, rfl⟩, q⟩
  unfold t_joins
  (with_reducible (repeat (first | (first | refine w_var rfl ?_ | refine w_c ?_ | refine w_op ?_ | refine w_un ?_ | refine w_cl ?_ | refine w_nil ?_ | refine w_cons ?_ | refine w_tup ?_ | refine w_lst ?_ | refine w_test ?_ | refine w_not ?_ | refine w_and ?_ | refine w_or ?_ | refine w_andV ?_ | refine w_orV ?_ | refine w_notV ?_ | refine w_if ?_ | refine w_chn ?_ | refine w_call ?_ | refine w_make ?_ | refine w_fld ?_ | refine w_ml ?_ | refine w_ml0 ?_ | refine w_sl ?_ | refine w_slD ?_ | refine w_noPart ?_ | refine w_part ?_ | refine w_dictZ ?_ | refine w_lcA ?_ | refine w_ret ?_ | refine w_rt ?_ | refine w_ifS ?_ | refine w_next ?_ | refine w_break ?_ | refine w_cont ?_ | refine w_seq ?_ | refine w_asg ?_ | refine w_drop ?_ | refine w_par ?_ | refine w_sfld ?_ | refine w_asgT ?_ | refine w_gset ?_ | refine w_gname ?_ | refine w_gtup rfl ?_ | refine w_gcons ?_ | refine w_gnil ?_ | refine w_yes ?_) | refine w_bl ?_ | refine w_int ?_ | refine w_T ?_ | refine w_F ?_ | refine w_nT ?_ | refine w_nF ?_ | refine q_len_tup ?_ | refine q_int ?_ | refine q_intB ?_ | refine q_add ?_ | refine q_sub ?_ | refine q_neg ?_ | refine q_ord ?_ | refine q_ordS ?_ | refine q_tuple_tup ?_ | refine qEq_int ?_)))
  refine ⟨_, _, _, _, true, rfl, .ty "tuple", .tup _, by rfl, ?_⟩
  (with_reducible (repeat (first | (first | refine w_var rfl ?_ | refine w_c ?_ | refine w_op ?_ | refine w_un ?_ | refine w_cl ?_ | refine w_nil ?_ | refine w_cons ?_ | refine w_tup ?_ | refine w_lst ?_ | refine w_test ?_ | refine w_not ?_ | refine w_and ?_ | refine w_or ?_ | refine w_andV ?_ | refine w_orV ?_ | refine w_notV ?_ | refine w_if ?_ | refine w_chn ?_ | refine w_call ?_ | refine w_make ?_ | refine w_fld ?_ | refine w_ml ?_ | refine w_ml0 ?_ | refine w_sl ?_ | refine w_slD ?_ | refine w_noPart ?_ | refine w_part ?_ | refine w_dictZ ?_ | refine w_lcA ?_ | refine w_ret ?_ | refine w_rt ?_ | refine w_ifS ?_ | refine w_next ?_ | refine w_break ?_ | refine w_cont ?_ | refine w_seq ?_ | refine w_asg ?_ | refine w_drop ?_ | refine w_par ?_ | refine w_sfld ?_ | refine w_asgT ?_ | refine w_gset ?_ | refine w_gname ?_ | refine w_gtup rfl ?_ | refine w_gcons ?_ | refine w_gnil ?_ | refine w_yes ?_) | refine w_bl ?_ | refine w_int ?_ | refine w_T ?_ | refine w_F ?_ | refine w_nT ?_ | refine w_nF ?_ | refine q_len_tup ?_ | refine q_int ?_ | refine q_intB ?_ | refine q_add ?_ | refine q_sub ?_ | refine q_neg ?_ | refine q_ord ?_ | refine q_ordS ?_ | refine q_tuple_tup ?_ | refine qEq_int ?_)))
  refine iteF rfl ?_
  (with_reducible (repeat (first | (first | refine w_var rfl ?_ | refine w_c ?_ | refine w_op ?_ | refine w_un ?_ | refine w_cl ?_ | refine w_nil ?_ | refine w_cons ?_ | refine w_tup ?_ | refine w_lst ?_ | refine w_test ?_ | refine w_not ?_ | refine w_and ?_ | refine w_or ?_ | refine w_andV ?_ | refine w_orV ?_ | refine w_notV ?_ | refine w_if ?_ | refine w_chn ?_ | refine w_call ?_ | refine w_make ?_ | refine w_fld ?_ | refine w_ml ?_ | refine w_ml0 ?_ | refine w_sl ?_ | refine w_slD ?_ | refine w_noPart ?_ | refine w_part ?_ | refine w_dictZ ?_ | refine w_lcA ?_ | refine w_ret ?_ | refine w_rt ?_ | refine w_ifS ?_ | refine w_next ?_ | refine w_break ?_ | refine w_cont ?_ | refine w_seq ?_ | refine w_asg ?_ | refine w_drop ?_ | refine w_par ?_ | refine w_sfld ?_ | refine w_asgT ?_ | refine w_gset ?_ | refine w_gname ?_ | refine w_gtup rfl ?_ | refine w_gcons ?_ | refine w_gnil ?_ | refine w_yes ?_) | refine w_bl ?_ | refine w_int ?_ | refine w_T ?_ | refine w_F ?_ | refine w_nT ?_ | refine w_nF ?_ | refine q_len_tup ?_ | refine q_int ?_ | refine q_intB ?_ | refine q_add ?_ | refine q_sub ?_ | refine q_neg ?_ | refine q_ord ?_ | refine q_ordS ?_ | refine q_tuple_tup ?_ | refine qEq_int ?_)))
  unfold t_joins_1
  (with_reducible (repeat (first | (first | refine w_var rfl ?_ | refine w_c ?_ | refine w_op ?_ | refine w_un ?_ | refine w_cl ?_ | refine w_nil ?_ | refine w_cons ?_ | refine w_tup ?_ | refine w_lst ?_ | refine w_test ?_ | refine w_not ?_ | refine w_and ?_ | refine w_or ?_ | refine w_andV ?_ | refine w_orV ?_ | refine w_notV ?_ | refine w_if ?_ | refine w_chn ?_ | refine w_call ?_ | refine w_make ?_ | refine w_fld ?_ | refine w_ml ?_ | refine w_ml0 ?_ | refine w_sl ?_ | refine w_slD ?_ | refine w_noPart ?_ | refine w_part ?_ | refine w_dictZ ?_ | refine w_lcA ?_ | refine w_ret ?_ | refine w_rt ?_ | refine w_ifS ?_ | refine w_next ?_ | refine w_break ?_ | refine w_cont ?_ | refine w_seq ?_ | refine w_asg ?_ | refine w_drop ?_ | refine w_par ?_ | refine w_sfld ?_ | refine w_asgT ?_ | refine w_gset ?_ | refine w_gname ?_ | refine w_gtup rfl ?_ | refine w_gcons ?_ | refine w_gnil ?_ | refine w_yes ?_) | refine w_bl ?_ | refine w_int ?_ | refine w_T ?_ | refine w_F ?_ | refine w_nT ?_ | refine w_nF ?_ | refine q_len_tup ?_ | refine q_int ?_ | refine q_intB ?_ | refine q_add ?_ | refine q_sub ?_ | refine q_neg ?_ | refine q_ord ?_ | refine q_ordS ?_ | refine q_tuple_tup ?_ | refine qEq_int ?_)))
  refine lc_at (.tup _) (size_ge (by show 2 ≤ 4000; decide)) (fun _ => true) (fun _ => .bl true) (fun y hy => ?_) (fun p hp => ?_)
  · intro G2 s N A _ hA
    have row2 := row.sub s
    obtain ⟨z, hz, rfl⟩ : ∃ z, z ∈ ns ∧ y = .str z := by
      rcases List.mem_cons.mp hy with e | hy
      · exact ⟨a, ha, e⟩
      · rcases List.mem_cons.mp hy with e | hy
        · exact ⟨b, hb, e⟩
        · cases hy
    (with_reducible (repeat (first | (first | refine w_var rfl ?_ | refine w_c ?_ | refine w_op ?_ | refine w_un ?_ | refine w_cl ?_ | refine w_nil ?_ | refine w_cons ?_ | refine w_tup ?_ | refine w_lst ?_ | refine w_test ?_ | refine w_not ?_ | refine w_and ?_ | refine w_or ?_ | refine w_andV ?_ | refine w_orV ?_ | refine w_notV ?_ | refine w_if ?_ | refine w_chn ?_ | refine w_call ?_ | refine w_make ?_ | refine w_fld ?_ | refine w_ml ?_ | refine w_ml0 ?_ | refine w_sl ?_ | refine w_slD ?_ | refine w_noPart ?_ | refine w_part ?_ | refine w_dictZ ?_ | refine w_lcA ?_ | refine w_ret ?_ | refine w_rt ?_ | refine w_ifS ?_ | refine w_next ?_ | refine w_break ?_ | refine w_cont ?_ | refine w_seq ?_ | refine w_asg ?_ | refine w_drop ?_ | refine w_par ?_ | refine w_sfld ?_ | refine w_asgT ?_ | refine w_gset ?_ | refine w_gname ?_ | refine w_gtup rfl ?_ | refine w_gcons ?_ | refine w_gnil ?_ | refine w_yes ?_) | refine w_bl ?_ | refine w_int ?_ | refine w_T ?_ | refine w_F ?_ | refine w_nT ?_ | refine w_nF ?_ | refine q_len_tup ?_ | refine q_int ?_ | refine q_intB ?_ | refine q_add ?_ | refine q_sub ?_ | refine q_neg ?_ | refine q_ord ?_ | refine q_ordS ?_ | refine q_tuple_tup ?_ | refine qEq_int ?_)))
    refine ⟨_, ⟨z, rfl, isName_fits (nm z hz), rfl⟩, call_same ?_⟩
    rw [nm z hz]
    (with_reducible (repeat (first | (first | refine w_var rfl ?_ | refine w_c ?_ | refine w_op ?_ | refine w_un ?_ | refine w_cl ?_ | refine w_nil ?_ | refine w_cons ?_ | refine w_tup ?_ | refine w_lst ?_ | refine w_test ?_ | refine w_not ?_ | refine w_and ?_ | refine w_or ?_ | refine w_andV ?_ | refine w_orV ?_ | refine w_notV ?_ | refine w_if ?_ | refine w_chn ?_ | refine w_call ?_ | refine w_make ?_ | refine w_fld ?_ | refine w_ml ?_ | refine w_ml0 ?_ | refine w_sl ?_ | refine w_slD ?_ | refine w_noPart ?_ | refine w_part ?_ | refine w_dictZ ?_ | refine w_lcA ?_ | refine w_ret ?_ | refine w_rt ?_ | refine w_ifS ?_ | refine w_next ?_ | refine w_break ?_ | refine w_cont ?_ | refine w_seq ?_ | refine w_asg ?_ | refine w_drop ?_ | refine w_par ?_ | refine w_sfld ?_ | refine w_asgT ?_ | refine w_gset ?_ | refine w_gname ?_ | refine w_gtup rfl ?_ | refine w_gcons ?_ | refine w_gnil ?_ | refine w_yes ?_) | refine w_bl ?_ | refine w_int ?_ | refine w_T ?_ | refine w_F ?_ | refine w_nT ?_ | refine w_nF ?_ | refine q_len_tup ?_ | refine q_int ?_ | refine q_intB ?_ | refine q_add ?_ | refine q_sub ?_ | refine q_neg ?_ | refine q_ord ?_ | refine q_ordS ?_ | refine q_tuple_tup ?_ | refine qEq_int ?_)))
    refine qIn_row row2 (isName_ev (nm z hz)) (dS_ev nm) fun k hk => ?_
    rw [hk.mpr (mem_dS.mpr hz)]
    exact hA rfl _ (HSub.refl _)
  · (with_reducible (repeat (first | (first | refine w_var rfl ?_ | refine w_c ?_ | refine w_op ?_ | refine w_un ?_ | refine w_cl ?_ | refine w_nil ?_ | refine w_cons ?_ | refine w_tup ?_ | refine w_lst ?_ | refine w_test ?_ | refine w_not ?_ | refine w_and ?_ | refine w_or ?_ | refine w_andV ?_ | refine w_orV ?_ | refine w_notV ?_ | refine w_if ?_ | refine w_chn ?_ | refine w_call ?_ | refine w_make ?_ | refine w_fld ?_ | refine w_ml ?_ | refine w_ml0 ?_ | refine w_sl ?_ | refine w_slD ?_ | refine w_noPart ?_ | refine w_part ?_ | refine w_dictZ ?_ | refine w_lcA ?_ | refine w_ret ?_ | refine w_rt ?_ | refine w_ifS ?_ | refine w_next ?_ | refine w_break ?_ | refine w_cont ?_ | refine w_seq ?_ | refine w_asg ?_ | refine w_drop ?_ | refine w_par ?_ | refine w_sfld ?_ | refine w_asgT ?_ | refine w_gset ?_ | refine w_gname ?_ | refine w_gtup rfl ?_ | refine w_gcons ?_ | refine w_gnil ?_ | refine w_yes ?_) | refine w_bl ?_ | refine w_int ?_ | refine w_T ?_ | refine w_F ?_ | refine w_nT ?_ | refine w_nF ?_ | refine q_len_tup ?_ | refine q_int ?_ | refine q_intB ?_ | refine q_add ?_ | refine q_sub ?_ | refine q_neg ?_ | refine q_ord ?_ | refine q_ordS ?_ | refine q_tuple_tup ?_ | refine qEq_int ?_)))
    refine q_all (bs := [true, true]) (by rw [up_same]; rfl) ?_
    (with_reducible (repeat (first | (first | refine w_var rfl ?_ | refine w_c ?_ | refine w_op ?_ | refine w_un ?_ | refine w_cl ?_ | refine w_nil ?_ | refine w_cons ?_ | refine w_tup ?_ | refine w_lst ?_ | refine w_test ?_ | refine w_not ?_ | refine w_and ?_ | refine w_or ?_ | refine w_andV ?_ | refine w_orV ?_ | refine w_notV ?_ | refine w_if ?_ | refine w_chn ?_ | refine w_call ?_ | refine w_make ?_ | refine w_fld ?_ | refine w_ml ?_ | refine w_ml0 ?_ | refine w_sl ?_ | refine w_slD ?_ | refine w_noPart ?_ | refine w_part ?_ | refine w_dictZ ?_ | refine w_lcA ?_ | refine w_ret ?_ | refine w_rt ?_ | refine w_ifS ?_ | refine w_next ?_ | refine w_break ?_ | refine w_cont ?_ | refine w_seq ?_ | refine w_asg ?_ | refine w_drop ?_ | refine w_par ?_ | refine w_sfld ?_ | refine w_asgT ?_ | refine w_gset ?_ | refine w_gname ?_ | refine w_gtup rfl ?_ | refine w_gcons ?_ | refine w_gnil ?_ | refine w_yes ?_) | refine w_bl ?_ | refine w_int ?_ | refine w_T ?_ | refine w_F ?_ | refine w_nT ?_ | refine w_nF ?_ | refine q_len_tup ?_ | refine q_int ?_ | refine q_intB ?_ | refine q_add ?_ | refine q_sub ?_ | refine q_neg ?_ | refine q_ord ?_ | refine q_ordS ?_ | refine q_tuple_tup ?_ | refine qEq_int ?_)))
    refine w_T ?_
    (with_reducible (repeat (first | (first | refine w_var rfl ?_ | refine w_c ?_ | refine w_op ?_ | refine w_un ?_ | refine w_cl ?_ | refine w_nil ?_ | refine w_cons ?_ | refine w_tup ?_ | refine w_lst ?_ | refine w_test ?_ | refine w_not ?_ | refine w_and ?_ | refine w_or ?_ | refine w_andV ?_ | refine w_orV ?_ | refine w_notV ?_ | refine w_if ?_ | refine w_chn ?_ | refine w_call ?_ | refine w_make ?_ | refine w_fld ?_ | refine w_ml ?_ | refine w_ml0 ?_ | refine w_sl ?_ | refine w_slD ?_ | refine w_noPart ?_ | refine w_part ?_ | refine w_dictZ ?_ | refine w_lcA ?_ | refine w_ret ?_ | refine w_rt ?_ | refine w_ifS ?_ | refine w_next ?_ | refine w_break ?_ | refine w_cont ?_ | refine w_seq ?_ | refine w_asg ?_ | refine w_drop ?_ | refine w_par ?_ | refine w_sfld ?_ | refine w_asgT ?_ | refine w_gset ?_ | refine w_gname ?_ | refine w_gtup rfl ?_ | refine w_gcons ?_ | refine w_gnil ?_ | refine w_yes ?_) | refine w_bl ?_ | refine w_int ?_ | refine w_T ?_ | refine w_F ?_ | refine w_nT ?_ | refine w_nF ?_ | refine q_len_tup ?_ | refine q_int ?_ | refine q_intB ?_ | refine q_add ?_ | refine q_sub ?_ | refine q_neg ?_ | refine q_ord ?_ | refine q_ordS ?_ | refine q_tuple_tup ?_ | refine qEq_int ?_)))
    refine q_ix_tup (at_nat (i := 0) rfl) ?_
    (with_reducible (repeat (first | (first | refine w_var rfl ?_ | refine w_c ?_ | refine w_op ?_ | refine w_un ?_ | refine w_cl ?_ | refine w_nil ?_ | refine w_cons ?_ | refine w_tup ?_ | refine w_lst ?_ | refine w_test ?_ | refine w_not ?_ | refine w_and ?_ | refine w_or ?_ | refine w_andV ?_ | refine w_orV ?_ | refine w_notV ?_ | refine w_if ?_ | refine w_chn ?_ | refine w_call ?_ | refine w_make ?_ | refine w_fld ?_ | refine w_ml ?_ | refine w_ml0 ?_ | refine w_sl ?_ | refine w_slD ?_ | refine w_noPart ?_ | refine w_part ?_ | refine w_dictZ ?_ | refine w_lcA ?_ | refine w_ret ?_ | refine w_rt ?_ | refine w_ifS ?_ | refine w_next ?_ | refine w_break ?_ | refine w_cont ?_ | refine w_seq ?_ | refine w_asg ?_ | refine w_drop ?_ | refine w_par ?_ | refine w_sfld ?_ | refine w_asgT ?_ | refine w_gset ?_ | refine w_gname ?_ | refine w_gtup rfl ?_ | refine w_gcons ?_ | refine w_gnil ?_ | refine w_yes ?_) | refine w_bl ?_ | refine w_int ?_ | refine w_T ?_ | refine w_F ?_ | refine w_nT ?_ | refine w_nF ?_ | refine q_len_tup ?_ | refine q_int ?_ | refine q_intB ?_ | refine q_add ?_ | refine q_sub ?_ | refine q_neg ?_ | refine q_ord ?_ | refine q_ordS ?_ | refine q_tuple_tup ?_ | refine qEq_int ?_)))
    refine q_ix_tup (at_nat (i := 1) rfl) ?_
    (with_reducible (repeat (first | (first | refine w_var rfl ?_ | refine w_c ?_ | refine w_op ?_ | refine w_un ?_ | refine w_cl ?_ | refine w_nil ?_ | refine w_cons ?_ | refine w_tup ?_ | refine w_lst ?_ | refine w_test ?_ | refine w_not ?_ | refine w_and ?_ | refine w_or ?_ | refine w_andV ?_ | refine w_orV ?_ | refine w_notV ?_ | refine w_if ?_ | refine w_chn ?_ | refine w_call ?_ | refine w_make ?_ | refine w_fld ?_ | refine w_ml ?_ | refine w_ml0 ?_ | refine w_sl ?_ | refine w_slD ?_ | refine w_noPart ?_ | refine w_part ?_ | refine w_dictZ ?_ | refine w_lcA ?_ | refine w_ret ?_ | refine w_rt ?_ | refine w_ifS ?_ | refine w_next ?_ | refine w_break ?_ | refine w_cont ?_ | refine w_seq ?_ | refine w_asg ?_ | refine w_drop ?_ | refine w_par ?_ | refine w_sfld ?_ | refine w_asgT ?_ | refine w_gset ?_ | refine w_gname ?_ | refine w_gtup rfl ?_ | refine w_gcons ?_ | refine w_gnil ?_ | refine w_yes ?_) | refine w_bl ?_ | refine w_int ?_ | refine w_T ?_ | refine w_F ?_ | refine w_nT ?_ | refine w_nF ?_ | refine q_len_tup ?_ | refine q_int ?_ | refine q_intB ?_ | refine q_add ?_ | refine q_sub ?_ | refine q_neg ?_ | refine q_ord ?_ | refine q_ordS ?_ | refine q_tuple_tup ?_ | refine qEq_int ?_)))
    exact hU _ G _ (HSub.new hp) (q _ _ ⟨by rw [lt], rfl⟩)

/-! ### are_edges -/
abbrev N_are_edges : List Str := ["vertices", "value", "edge"]
def t_are_edges_1 (K : PySem.W.Frag) (c : Ad) : JSt := (jRet (jAndV (jCl (qAll fun bs => bs.all id) (jCons (jLc (jiAny (jVar 1)) (jgName 2) jYes (jCall (sp_joins K c) (jCons (jVar 0) (jCons (jVar 2) jNil))) [2]) jNil)) (jOp (qEq false) (jUn qLenSet (jVar 1)) (jCl qLen (jCons (jVar 1) jNil)))))
def t_are_edges (K : PySem.W.Frag) (c : Ad) : JSt := (jSeq (jIfS (jOr (jNot (jTest (jCall (sp_is_row K c) (jCons (jVar 1) jNil)))) (jTest (jOp qGt (jCl qLen (jCons (jVar 1) jNil)) (jC (.int 15))))) (jRet (jC (.bl false))) jNext) (t_are_edges_1 K c))
def sp_are_edges (K : PySem.W.Frag) (c : Ad) : Sq := spA fun ws G po => ∃ x y ns es, ws = [x, y] ∧ rowOf x G (dS ns) ∧ rowOf y G (dEs es) ∧ OkV ns ∧ OkE ns es ∧ po = fun v G1 => v = .bl true ∧ G1 = G
theorem mono_are_edges {K : PySem.W.Frag} {c : Ad} : MonoSq (sp_are_edges K c) := spA.mono
theorem len_are_edges {K : PySem.W.Frag} {c : Ad} : ∀ ws G Q E, sp_are_edges K c ws G Q E → ws.length = (["vertices", "value"] : List Str).length := by
  rintro _ _ _ _ ⟨_, ⟨_, _, _, _, rfl, _⟩, _⟩; rfl
theorem pure_are_edges {K : PySem.W.Frag} {c : Ad} : ∀ ws G Q E, Up Q → UpX E → sp_are_edges K c ws G Q E → t_are_edges K c (fun c f _ G => E c f G) { nx := fun _ G => Q .non G, rt := Q } (startT N_are_edges ws) G := by
  rintro _ G Q E hU _ ⟨_, ⟨x, y, ns, es, rfl, rx, ry, v, h, rfl⟩, q⟩
  have fit : (dEs es).length ≤ sizeLine := by rw [dEs_len]; exact size_ge (Nat.le_trans h.few (by decide))
  unfold t_are_edges
  (with_reducible (repeat (first | (first | refine w_var rfl ?_ | refine w_c ?_ | refine w_op ?_ | refine w_un ?_ | refine w_cl ?_ | refine w_nil ?_ | refine w_cons ?_ | refine w_tup ?_ | refine w_lst ?_ | refine w_test ?_ | refine w_not ?_ | refine w_and ?_ | refine w_or ?_ | refine w_andV ?_ | refine w_orV ?_ | refine w_notV ?_ | refine w_if ?_ | refine w_chn ?_ | refine w_call ?_ | refine w_make ?_ | refine w_fld ?_ | refine w_ml ?_ | refine w_ml0 ?_ | refine w_sl ?_ | refine w_slD ?_ | refine w_noPart ?_ | refine w_part ?_ | refine w_dictZ ?_ | refine w_lcA ?_ | refine w_ret ?_ | refine w_rt ?_ | refine w_ifS ?_ | refine w_next ?_ | refine w_break ?_ | refine w_cont ?_ | refine w_seq ?_ | refine w_asg ?_ | refine w_drop ?_ | refine w_par ?_ | refine w_sfld ?_ | refine w_asgT ?_ | refine w_gset ?_ | refine w_gname ?_ | refine w_gtup rfl ?_ | refine w_gcons ?_ | refine w_gnil ?_ | refine w_yes ?_) | refine w_bl ?_ | refine w_int ?_ | refine w_T ?_ | refine w_F ?_ | refine w_nT ?_ | refine w_nF ?_ | refine q_len_tup ?_ | refine q_int ?_ | refine q_intB ?_ | refine q_add ?_ | refine q_sub ?_ | refine q_neg ?_ | refine q_ord ?_ | refine q_ordS ?_ | refine q_tuple_tup ?_ | refine qEq_int ?_)))
  refine ⟨_, ⟨y, _, rfl, ry, rfl⟩, call_same ?_⟩
  (with_reducible (repeat (first | (first | refine w_var rfl ?_ | refine w_c ?_ | refine w_op ?_ | refine w_un ?_ | refine w_cl ?_ | refine w_nil ?_ | refine w_cons ?_ | refine w_tup ?_ | refine w_lst ?_ | refine w_test ?_ | refine w_not ?_ | refine w_and ?_ | refine w_or ?_ | refine w_andV ?_ | refine w_orV ?_ | refine w_notV ?_ | refine w_if ?_ | refine w_chn ?_ | refine w_call ?_ | refine w_make ?_ | refine w_fld ?_ | refine w_ml ?_ | refine w_ml0 ?_ | refine w_sl ?_ | refine w_slD ?_ | refine w_noPart ?_ | refine w_part ?_ | refine w_dictZ ?_ | refine w_lcA ?_ | refine w_ret ?_ | refine w_rt ?_ | refine w_ifS ?_ | refine w_next ?_ | refine w_break ?_ | refine w_cont ?_ | refine w_seq ?_ | refine w_asg ?_ | refine w_drop ?_ | refine w_par ?_ | refine w_sfld ?_ | refine w_asgT ?_ | refine w_gset ?_ | refine w_gname ?_ | refine w_gtup rfl ?_ | refine w_gcons ?_ | refine w_gnil ?_ | refine w_yes ?_) | refine w_bl ?_ | refine w_int ?_ | refine w_T ?_ | refine w_F ?_ | refine w_nT ?_ | refine w_nF ?_ | refine q_len_tup ?_ | refine q_int ?_ | refine q_intB ?_ | refine q_add ?_ | refine q_sub ?_ | refine q_neg ?_ | refine q_ord ?_ | refine q_ordS ?_ | refine q_tuple_tup ?_ | refine qEq_int ?_)))
  refine q_len_row ry ?_
  (with_reducible (repeat (first | (first | refine w_var rfl ?_ | refine w_c ?_ | refine w_op ?_ | refine w_un ?_ | refine w_cl ?_ | refine w_nil ?_ | refine w_cons ?_ | refine w_tup ?_ | refine w_lst ?_ | refine w_test ?_ | refine w_not ?_ | refine w_and ?_ | refine w_or ?_ | refine w_andV ?_ | refine w_orV ?_ | refine w_notV ?_ | refine w_if ?_ | refine w_chn ?_ | refine w_call ?_ | refine w_make ?_ | refine w_fld ?_ | refine w_ml ?_ | refine w_ml0 ?_ | refine w_sl ?_ | refine w_slD ?_ | refine w_noPart ?_ | refine w_part ?_ | refine w_dictZ ?_ | refine w_lcA ?_ | refine w_ret ?_ | refine w_rt ?_ | refine w_ifS ?_ | refine w_next ?_ | refine w_break ?_ | refine w_cont ?_ | refine w_seq ?_ | refine w_asg ?_ | refine w_drop ?_ | refine w_par ?_ | refine w_sfld ?_ | refine w_asgT ?_ | refine w_gset ?_ | refine w_gname ?_ | refine w_gtup rfl ?_ | refine w_gcons ?_ | refine w_gnil ?_ | refine w_yes ?_) | refine w_bl ?_ | refine w_int ?_ | refine w_T ?_ | refine w_F ?_ | refine w_nT ?_ | refine w_nF ?_ | refine q_len_tup ?_ | refine q_int ?_ | refine q_intB ?_ | refine q_add ?_ | refine q_sub ?_ | refine q_neg ?_ | refine q_ord ?_ | refine q_ordS ?_ | refine q_tuple_tup ?_ | refine qEq_int ?_)))
  refine iteF (decide_eq_false (by rw [dEs_len]; have := h.few; omega)) ?_
  (with_reducible (repeat (first | (first | refine w_var rfl ?_ | refine w_c ?_ | refine w_op ?_ | refine w_un ?_ | refine w_cl ?_ | refine w_nil ?_ | refine w_cons ?_ | refine w_tup ?_ | refine w_lst ?_ | refine w_test ?_ | refine w_not ?_ | refine w_and ?_ | refine w_or ?_ | refine w_andV ?_ | refine w_orV ?_ | refine w_notV ?_ | refine w_if ?_ | refine w_chn ?_ | refine w_call ?_ | refine w_make ?_ | refine w_fld ?_ | refine w_ml ?_ | refine w_ml0 ?_ | refine w_sl ?_ | refine w_slD ?_ | refine w_noPart ?_ | refine w_part ?_ | refine w_dictZ ?_ | refine w_lcA ?_ | refine w_ret ?_ | refine w_rt ?_ | refine w_ifS ?_ | refine w_next ?_ | refine w_break ?_ | refine w_cont ?_ | refine w_seq ?_ | refine w_asg ?_ | refine w_drop ?_ | refine w_par ?_ | refine w_sfld ?_ | refine w_asgT ?_ | refine w_gset ?_ | refine w_gname ?_ | refine w_gtup rfl ?_ | refine w_gcons ?_ | refine w_gnil ?_ | refine w_yes ?_) | refine w_bl ?_ | refine w_int ?_ | refine w_T ?_ | refine w_F ?_ | refine w_nT ?_ | refine w_nF ?_ | refine q_len_tup ?_ | refine q_int ?_ | refine q_intB ?_ | refine q_add ?_ | refine q_sub ?_ | refine q_neg ?_ | refine q_ord ?_ | refine q_ordS ?_ | refine q_tuple_tup ?_ | refine qEq_int ?_)))
  unfold t_are_edges_1
  (with_reducible (repeat (first | (first | refine w_var rfl ?_ | refine w_c ?_ | refine w_op ?_ | refine w_un ?_ | refine w_cl ?_ | refine w_nil ?_ | refine w_cons ?_ | refine w_tup ?_ | refine w_lst ?_ | refine w_test ?_ | refine w_not ?_ | refine w_and ?_ | refine w_or ?_ | refine w_andV ?_ | refine w_orV ?_ | refine w_notV ?_ | refine w_if ?_ | refine w_chn ?_ | refine w_call ?_ | refine w_make ?_ | refine w_fld ?_ | refine w_ml ?_ | refine w_ml0 ?_ | refine w_sl ?_ | refine w_slD ?_ | refine w_noPart ?_ | refine w_part ?_ | refine w_dictZ ?_ | refine w_lcA ?_ | refine w_ret ?_ | refine w_rt ?_ | refine w_ifS ?_ | refine w_next ?_ | refine w_break ?_ | refine w_cont ?_ | refine w_seq ?_ | refine w_asg ?_ | refine w_drop ?_ | refine w_par ?_ | refine w_sfld ?_ | refine w_asgT ?_ | refine w_gset ?_ | refine w_gname ?_ | refine w_gtup rfl ?_ | refine w_gcons ?_ | refine w_gnil ?_ | refine w_yes ?_) | refine w_bl ?_ | refine w_int ?_ | refine w_T ?_ | refine w_F ?_ | refine w_nT ?_ | refine w_nF ?_ | refine q_len_tup ?_ | refine q_int ?_ | refine q_intB ?_ | refine q_add ?_ | refine q_sub ?_ | refine q_neg ?_ | refine q_ord ?_ | refine q_ordS ?_ | refine q_tuple_tup ?_ | refine qEq_int ?_)))
  refine lc_at ry.src fit (fun _ => true) (fun _ => .bl true) (fun z hz => ?_) (fun p hp => ?_)
  · intro G2 s N A _ hA
    obtain ⟨e, he, rfl⟩ := List.mem_map.mp hz
    (with_reducible (repeat (first | (first | refine w_var rfl ?_ | refine w_c ?_ | refine w_op ?_ | refine w_un ?_ | refine w_cl ?_ | refine w_nil ?_ | refine w_cons ?_ | refine w_tup ?_ | refine w_lst ?_ | refine w_test ?_ | refine w_not ?_ | refine w_and ?_ | refine w_or ?_ | refine w_andV ?_ | refine w_orV ?_ | refine w_notV ?_ | refine w_if ?_ | refine w_chn ?_ | refine w_call ?_ | refine w_make ?_ | refine w_fld ?_ | refine w_ml ?_ | refine w_ml0 ?_ | refine w_sl ?_ | refine w_slD ?_ | refine w_noPart ?_ | refine w_part ?_ | refine w_dictZ ?_ | refine w_lcA ?_ | refine w_ret ?_ | refine w_rt ?_ | refine w_ifS ?_ | refine w_next ?_ | refine w_break ?_ | refine w_cont ?_ | refine w_seq ?_ | refine w_asg ?_ | refine w_drop ?_ | refine w_par ?_ | refine w_sfld ?_ | refine w_asgT ?_ | refine w_gset ?_ | refine w_gname ?_ | refine w_gtup rfl ?_ | refine w_gcons ?_ | refine w_gnil ?_ | refine w_yes ?_) | refine w_bl ?_ | refine w_int ?_ | refine w_T ?_ | refine w_F ?_ | refine w_nT ?_ | refine w_nF ?_ | refine q_len_tup ?_ | refine q_int ?_ | refine q_intB ?_ | refine q_add ?_ | refine q_sub ?_ | refine q_neg ?_ | refine q_ord ?_ | refine q_ordS ?_ | refine q_tuple_tup ?_ | refine qEq_int ?_)))
    refine ⟨_, ⟨x, ns, e, rfl, rx.sub s, v.name, (h.ends e he).1, (h.ends e he).2.1, (h.ends e he).2.2, rfl⟩, call_same ?_⟩
    exact hA rfl _ (HSub.refl _)
  · (with_reducible (repeat (first | (first | refine w_var rfl ?_ | refine w_c ?_ | refine w_op ?_ | refine w_un ?_ | refine w_cl ?_ | refine w_nil ?_ | refine w_cons ?_ | refine w_tup ?_ | refine w_lst ?_ | refine w_test ?_ | refine w_not ?_ | refine w_and ?_ | refine w_or ?_ | refine w_andV ?_ | refine w_orV ?_ | refine w_notV ?_ | refine w_if ?_ | refine w_chn ?_ | refine w_call ?_ | refine w_make ?_ | refine w_fld ?_ | refine w_ml ?_ | refine w_ml0 ?_ | refine w_sl ?_ | refine w_slD ?_ | refine w_noPart ?_ | refine w_part ?_ | refine w_dictZ ?_ | refine w_lcA ?_ | refine w_ret ?_ | refine w_rt ?_ | refine w_ifS ?_ | refine w_next ?_ | refine w_break ?_ | refine w_cont ?_ | refine w_seq ?_ | refine w_asg ?_ | refine w_drop ?_ | refine w_par ?_ | refine w_sfld ?_ | refine w_asgT ?_ | refine w_gset ?_ | refine w_gname ?_ | refine w_gtup rfl ?_ | refine w_gcons ?_ | refine w_gnil ?_ | refine w_yes ?_) | refine w_bl ?_ | refine w_int ?_ | refine w_T ?_ | refine w_F ?_ | refine w_nT ?_ | refine w_nF ?_ | refine q_len_tup ?_ | refine q_int ?_ | refine q_intB ?_ | refine q_add ?_ | refine q_sub ?_ | refine q_neg ?_ | refine q_ord ?_ | refine q_ordS ?_ | refine q_tuple_tup ?_ | refine qEq_int ?_)))
    refine q_all (bs := List.replicate (dEs es).length true) (by rw [up_same, List.filter_eq_self.mpr (by intros; rfl), rep_true]) ?_
    rw [all_rep]
    (with_reducible (repeat (first | (first | refine w_var rfl ?_ | refine w_c ?_ | refine w_op ?_ | refine w_un ?_ | refine w_cl ?_ | refine w_nil ?_ | refine w_cons ?_ | refine w_tup ?_ | refine w_lst ?_ | refine w_test ?_ | refine w_not ?_ | refine w_and ?_ | refine w_or ?_ | refine w_andV ?_ | refine w_orV ?_ | refine w_notV ?_ | refine w_if ?_ | refine w_chn ?_ | refine w_call ?_ | refine w_make ?_ | refine w_fld ?_ | refine w_ml ?_ | refine w_ml0 ?_ | refine w_sl ?_ | refine w_slD ?_ | refine w_noPart ?_ | refine w_part ?_ | refine w_dictZ ?_ | refine w_lcA ?_ | refine w_ret ?_ | refine w_rt ?_ | refine w_ifS ?_ | refine w_next ?_ | refine w_break ?_ | refine w_cont ?_ | refine w_seq ?_ | refine w_asg ?_ | refine w_drop ?_ | refine w_par ?_ | refine w_sfld ?_ | refine w_asgT ?_ | refine w_gset ?_ | refine w_gname ?_ | refine w_gtup rfl ?_ | refine w_gcons ?_ | refine w_gnil ?_ | refine w_yes ?_) | refine w_bl ?_ | refine w_int ?_ | refine w_T ?_ | refine w_F ?_ | refine w_nT ?_ | refine w_nF ?_ | refine q_len_tup ?_ | refine q_int ?_ | refine q_intB ?_ | refine q_add ?_ | refine q_sub ?_ | refine q_neg ?_ | refine q_ord ?_ | refine q_ordS ?_ | refine q_tuple_tup ?_ | refine qEq_int ?_)))
    have ry2 := ry.sub (HSub.new (o := .lst (((dEs es).filter fun _ => true).map fun _ => .bl true)) hp)
    refine ⟨_, ry2, setOkE es (by have := h.few; omega), ?_⟩
    (with_reducible (repeat (first | (first | refine w_var rfl ?_ | refine w_c ?_ | refine w_op ?_ | refine w_un ?_ | refine w_cl ?_ | refine w_nil ?_ | refine w_cons ?_ | refine w_tup ?_ | refine w_lst ?_ | refine w_test ?_ | refine w_not ?_ | refine w_and ?_ | refine w_or ?_ | refine w_andV ?_ | refine w_orV ?_ | refine w_notV ?_ | refine w_if ?_ | refine w_chn ?_ | refine w_call ?_ | refine w_make ?_ | refine w_fld ?_ | refine w_ml ?_ | refine w_ml0 ?_ | refine w_sl ?_ | refine w_slD ?_ | refine w_noPart ?_ | refine w_part ?_ | refine w_dictZ ?_ | refine w_lcA ?_ | refine w_ret ?_ | refine w_rt ?_ | refine w_ifS ?_ | refine w_next ?_ | refine w_break ?_ | refine w_cont ?_ | refine w_seq ?_ | refine w_asg ?_ | refine w_drop ?_ | refine w_par ?_ | refine w_sfld ?_ | refine w_asgT ?_ | refine w_gset ?_ | refine w_gname ?_ | refine w_gtup rfl ?_ | refine w_gcons ?_ | refine w_gnil ?_ | refine w_yes ?_) | refine w_bl ?_ | refine w_int ?_ | refine w_T ?_ | refine w_F ?_ | refine w_nT ?_ | refine w_nF ?_ | refine q_len_tup ?_ | refine q_int ?_ | refine q_intB ?_ | refine q_add ?_ | refine q_sub ?_ | refine q_neg ?_ | refine q_ord ?_ | refine q_ordS ?_ | refine q_tuple_tup ?_ | refine qEq_int ?_)))
    refine q_len_row ry2 ?_
    (with_reducible (repeat (first | (first | refine w_var rfl ?_ | refine w_c ?_ | refine w_op ?_ | refine w_un ?_ | refine w_cl ?_ | refine w_nil ?_ | refine w_cons ?_ | refine w_tup ?_ | refine w_lst ?_ | refine w_test ?_ | refine w_not ?_ | refine w_and ?_ | refine w_or ?_ | refine w_andV ?_ | refine w_orV ?_ | refine w_notV ?_ | refine w_if ?_ | refine w_chn ?_ | refine w_call ?_ | refine w_make ?_ | refine w_fld ?_ | refine w_ml ?_ | refine w_ml0 ?_ | refine w_sl ?_ | refine w_slD ?_ | refine w_noPart ?_ | refine w_part ?_ | refine w_dictZ ?_ | refine w_lcA ?_ | refine w_ret ?_ | refine w_rt ?_ | refine w_ifS ?_ | refine w_next ?_ | refine w_break ?_ | refine w_cont ?_ | refine w_seq ?_ | refine w_asg ?_ | refine w_drop ?_ | refine w_par ?_ | refine w_sfld ?_ | refine w_asgT ?_ | refine w_gset ?_ | refine w_gname ?_ | refine w_gtup rfl ?_ | refine w_gcons ?_ | refine w_gnil ?_ | refine w_yes ?_) | refine w_bl ?_ | refine w_int ?_ | refine w_T ?_ | refine w_F ?_ | refine w_nT ?_ | refine w_nF ?_ | refine q_len_tup ?_ | refine q_int ?_ | refine q_intB ?_ | refine q_add ?_ | refine q_sub ?_ | refine q_neg ?_ | refine q_ord ?_ | refine q_ordS ?_ | refine q_tuple_tup ?_ | refine qEq_int ?_)))
    refine hU _ G _ (HSub.new hp) (q _ _ ⟨?_, rfl⟩)
    rw [nubE h.nd, dEs_len]
    simp

/-! ### are_vertices -/
abbrev N_are_vertices : List Str := ["value", "name"]
def t_are_vertices_1 (K : PySem.W.Frag) (c : Ad) : JSt := (jRet (jAndV (jCl (qAll fun bs => bs.all id) (jCons (jLc (jiAny (jVar 0)) (jgName 1) jYes (jCall (sp_is_name K c) (jCons (jVar 1) jNil)) [1]) jNil)) (jOp (qEq false) (jUn qLenSet (jVar 0)) (jCl qLen (jCons (jVar 0) jNil)))))
def t_are_vertices (K : PySem.W.Frag) (c : Ad) : JSt := (jSeq (jIfS (jOr (jNot (jTest (jCall (sp_is_row K c) (jCons (jVar 0) jNil)))) (jNot (jTest (jChn qLe qLe (jC (.int 1)) (jCl qLen (jCons (jVar 0) jNil)) (jC (.int 10)))))) (jRet (jC (.bl false))) jNext) (t_are_vertices_1 K c))
def sp_are_vertices (K : PySem.W.Frag) (c : Ad) : Sq := spA fun ws G po => ∃ x ns, ws = [x] ∧ rowOf x G (dS ns) ∧ OkV ns ∧ po = fun v G1 => v = .bl true ∧ G1 = G
theorem mono_are_vertices {K : PySem.W.Frag} {c : Ad} : MonoSq (sp_are_vertices K c) := spA.mono
theorem len_are_vertices {K : PySem.W.Frag} {c : Ad} : ∀ ws G Q E, sp_are_vertices K c ws G Q E → ws.length = (["value"] : List Str).length := by
  rintro _ _ _ _ ⟨_, ⟨_, _, rfl, _⟩, _⟩; rfl
theorem pure_are_vertices {K : PySem.W.Frag} {c : Ad} : ∀ ws G Q E, Up Q → UpX E → sp_are_vertices K c ws G Q E → t_are_vertices K c (fun c f _ G => E c f G) { nx := fun _ G => Q .non G, rt := Q } (startT N_are_vertices ws) G := by
  rintro _ G Q E hU _ ⟨_, ⟨x, ns, rfl, rx, v, rfl⟩, q⟩
  have fit : (dS ns).length ≤ sizeLine := by rw [dS_len]; exact size_ge (Nat.le_trans v.few (by decide))
  have l1 : decide ((1 : Int) ≤ ((dS ns).length : Int)) = true := decide_eq_true (by rw [dS_len]; have := v.pos; omega)
  have l2 : decide (((dS ns).length : Int) ≤ (10 : Int)) = true := decide_eq_true (by rw [dS_len]; have := v.few; omega)
  unfold t_are_vertices
  (with_reducible (repeat (first | (first | refine w_var rfl ?_ | refine w_c ?_ | refine w_op ?_ | refine w_un ?_ | refine w_cl ?_ | refine w_nil ?_ | refine w_cons ?_ | refine w_tup ?_ | refine w_lst ?_ | refine w_test ?_ | refine w_not ?_ | refine w_and ?_ | refine w_or ?_ | refine w_andV ?_ | refine w_orV ?_ | refine w_notV ?_ | refine w_if ?_ | refine w_chn ?_ | refine w_call ?_ | refine w_make ?_ | refine w_fld ?_ | refine w_ml ?_ | refine w_ml0 ?_ | refine w_sl ?_ | refine w_slD ?_ | refine w_noPart ?_ | refine w_part ?_ | refine w_dictZ ?_ | refine w_lcA ?_ | refine w_ret ?_ | refine w_rt ?_ | refine w_ifS ?_ | refine w_next ?_ | refine w_break ?_ | refine w_cont ?_ | refine w_seq ?_ | refine w_asg ?_ | refine w_drop ?_ | refine w_par ?_ | refine w_sfld ?_ | refine w_asgT ?_ | refine w_gset ?_ | refine w_gname ?_ | refine w_gtup rfl ?_ | refine w_gcons ?_ | refine w_gnil ?_ | refine w_yes ?_) | refine w_bl ?_ | refine w_int ?_ | refine w_T ?_ | refine w_F ?_ | refine w_nT ?_ | refine w_nF ?_ | refine q_len_tup ?_ | refine q_int ?_ | refine q_intB ?_ | refine q_add ?_ | refine q_sub ?_ | refine q_neg ?_ | refine q_ord ?_ | refine q_ordS ?_ | refine q_tuple_tup ?_ | refine qEq_int ?_)))
  refine ⟨_, ⟨x, _, rfl, rx, rfl⟩, call_same ?_⟩
  (with_reducible (repeat (first | (first | refine w_var rfl ?_ | refine w_c ?_ | refine w_op ?_ | refine w_un ?_ | refine w_cl ?_ | refine w_nil ?_ | refine w_cons ?_ | refine w_tup ?_ | refine w_lst ?_ | refine w_test ?_ | refine w_not ?_ | refine w_and ?_ | refine w_or ?_ | refine w_andV ?_ | refine w_orV ?_ | refine w_notV ?_ | refine w_if ?_ | refine w_chn ?_ | refine w_call ?_ | refine w_make ?_ | refine w_fld ?_ | refine w_ml ?_ | refine w_ml0 ?_ | refine w_sl ?_ | refine w_slD ?_ | refine w_noPart ?_ | refine w_part ?_ | refine w_dictZ ?_ | refine w_lcA ?_ | refine w_ret ?_ | refine w_rt ?_ | refine w_ifS ?_ | refine w_next ?_ | refine w_break ?_ | refine w_cont ?_ | refine w_seq ?_ | refine w_asg ?_ | refine w_drop ?_ | refine w_par ?_ | refine w_sfld ?_ | refine w_asgT ?_ | refine w_gset ?_ | refine w_gname ?_ | refine w_gtup rfl ?_ | refine w_gcons ?_ | refine w_gnil ?_ | refine w_yes ?_) | refine w_bl ?_ | refine w_int ?_ | refine w_T ?_ | refine w_F ?_ | refine w_nT ?_ | refine w_nF ?_ | refine q_len_tup ?_ | refine q_int ?_ | refine q_intB ?_ | refine q_add ?_ | refine q_sub ?_ | refine q_neg ?_ | refine q_ord ?_ | refine q_ordS ?_ | refine q_tuple_tup ?_ | refine qEq_int ?_)))
  refine q_len_row rx ?_
  (with_reducible (repeat (first | (first | refine w_var rfl ?_ | refine w_c ?_ | refine w_op ?_ | refine w_un ?_ | refine w_cl ?_ | refine w_nil ?_ | refine w_cons ?_ | refine w_tup ?_ | refine w_lst ?_ | refine w_test ?_ | refine w_not ?_ | refine w_and ?_ | refine w_or ?_ | refine w_andV ?_ | refine w_orV ?_ | refine w_notV ?_ | refine w_if ?_ | refine w_chn ?_ | refine w_call ?_ | refine w_make ?_ | refine w_fld ?_ | refine w_ml ?_ | refine w_ml0 ?_ | refine w_sl ?_ | refine w_slD ?_ | refine w_noPart ?_ | refine w_part ?_ | refine w_dictZ ?_ | refine w_lcA ?_ | refine w_ret ?_ | refine w_rt ?_ | refine w_ifS ?_ | refine w_next ?_ | refine w_break ?_ | refine w_cont ?_ | refine w_seq ?_ | refine w_asg ?_ | refine w_drop ?_ | refine w_par ?_ | refine w_sfld ?_ | refine w_asgT ?_ | refine w_gset ?_ | refine w_gname ?_ | refine w_gtup rfl ?_ | refine w_gcons ?_ | refine w_gnil ?_ | refine w_yes ?_) | refine w_bl ?_ | refine w_int ?_ | refine w_T ?_ | refine w_F ?_ | refine w_nT ?_ | refine w_nF ?_ | refine q_len_tup ?_ | refine q_int ?_ | refine q_intB ?_ | refine q_add ?_ | refine q_sub ?_ | refine q_neg ?_ | refine q_ord ?_ | refine q_ordS ?_ | refine q_tuple_tup ?_ | refine qEq_int ?_)))
  refine iteT l1 ?_
  (with_reducible (repeat (first | (first | refine w_var rfl ?_ | refine w_c ?_ | refine w_op ?_ | refine w_un ?_ | refine w_cl ?_ | refine w_nil ?_ | refine w_cons ?_ | refine w_tup ?_ | refine w_lst ?_ | refine w_test ?_ | refine w_not ?_ | refine w_and ?_ | refine w_or ?_ | refine w_andV ?_ | refine w_orV ?_ | refine w_notV ?_ | refine w_if ?_ | refine w_chn ?_ | refine w_call ?_ | refine w_make ?_ | refine w_fld ?_ | refine w_ml ?_ | refine w_ml0 ?_ | refine w_sl ?_ | refine w_slD ?_ | refine w_noPart ?_ | refine w_part ?_ | refine w_dictZ ?_ | refine w_lcA ?_ | refine w_ret ?_ | refine w_rt ?_ | refine w_ifS ?_ | refine w_next ?_ | refine w_break ?_ | refine w_cont ?_ | refine w_seq ?_ | refine w_asg ?_ | refine w_drop ?_ | refine w_par ?_ | refine w_sfld ?_ | refine w_asgT ?_ | refine w_gset ?_ | refine w_gname ?_ | refine w_gtup rfl ?_ | refine w_gcons ?_ | refine w_gnil ?_ | refine w_yes ?_) | refine w_bl ?_ | refine w_int ?_ | refine w_T ?_ | refine w_F ?_ | refine w_nT ?_ | refine w_nF ?_ | refine q_len_tup ?_ | refine q_int ?_ | refine q_intB ?_ | refine q_add ?_ | refine q_sub ?_ | refine q_neg ?_ | refine q_ord ?_ | refine q_ordS ?_ | refine q_tuple_tup ?_ | refine qEq_int ?_)))
  rw [l2]
  (with_reducible (repeat (first | (first | refine w_var rfl ?_ | refine w_c ?_ | refine w_op ?_ | refine w_un ?_ | refine w_cl ?_ | refine w_nil ?_ | refine w_cons ?_ | refine w_tup ?_ | refine w_lst ?_ | refine w_test ?_ | refine w_not ?_ | refine w_and ?_ | refine w_or ?_ | refine w_andV ?_ | refine w_orV ?_ | refine w_notV ?_ | refine w_if ?_ | refine w_chn ?_ | refine w_call ?_ | refine w_make ?_ | refine w_fld ?_ | refine w_ml ?_ | refine w_ml0 ?_ | refine w_sl ?_ | refine w_slD ?_ | refine w_noPart ?_ | refine w_part ?_ | refine w_dictZ ?_ | refine w_lcA ?_ | refine w_ret ?_ | refine w_rt ?_ | refine w_ifS ?_ | refine w_next ?_ | refine w_break ?_ | refine w_cont ?_ | refine w_seq ?_ | refine w_asg ?_ | refine w_drop ?_ | refine w_par ?_ | refine w_sfld ?_ | refine w_asgT ?_ | refine w_gset ?_ | refine w_gname ?_ | refine w_gtup rfl ?_ | refine w_gcons ?_ | refine w_gnil ?_ | refine w_yes ?_) | refine w_bl ?_ | refine w_int ?_ | refine w_T ?_ | refine w_F ?_ | refine w_nT ?_ | refine w_nF ?_ | refine q_len_tup ?_ | refine q_int ?_ | refine q_intB ?_ | refine q_add ?_ | refine q_sub ?_ | refine q_neg ?_ | refine q_ord ?_ | refine q_ordS ?_ | refine q_tuple_tup ?_ | refine qEq_int ?_)))
  unfold t_are_vertices_1
  (with_reducible (repeat (first | (first | refine w_var rfl ?_ | refine w_c ?_ | refine w_op ?_ | refine w_un ?_ | refine w_cl ?_ | refine w_nil ?_ | refine w_cons ?_ | refine w_tup ?_ | refine w_lst ?_ | refine w_test ?_ | refine w_not ?_ | refine w_and ?_ | refine w_or ?_ | refine w_andV ?_ | refine w_orV ?_ | refine w_notV ?_ | refine w_if ?_ | refine w_chn ?_ | refine w_call ?_ | refine w_make ?_ | refine w_fld ?_ | refine w_ml ?_ | refine w_ml0 ?_ | refine w_sl ?_ | refine w_slD ?_ | refine w_noPart ?_ | refine w_part ?_ | refine w_dictZ ?_ | refine w_lcA ?_ | refine w_ret ?_ | refine w_rt ?_ | refine w_ifS ?_ | refine w_next ?_ | refine w_break ?_ | refine w_cont ?_ | refine w_seq ?_ | refine w_asg ?_ | refine w_drop ?_ | refine w_par ?_ | refine w_sfld ?_ | refine w_asgT ?_ | refine w_gset ?_ | refine w_gname ?_ | refine w_gtup rfl ?_ | refine w_gcons ?_ | refine w_gnil ?_ | refine w_yes ?_) | refine w_bl ?_ | refine w_int ?_ | refine w_T ?_ | refine w_F ?_ | refine w_nT ?_ | refine w_nF ?_ | refine q_len_tup ?_ | refine q_int ?_ | refine q_intB ?_ | refine q_add ?_ | refine q_sub ?_ | refine q_neg ?_ | refine q_ord ?_ | refine q_ordS ?_ | refine q_tuple_tup ?_ | refine qEq_int ?_)))
  refine lc_at rx.src fit (fun _ => true) (fun _ => .bl true) (fun z hz => ?_) (fun p hp => ?_)
  · intro G2 s N A _ hA
    obtain ⟨n, hn, rfl⟩ := List.mem_map.mp hz
    (with_reducible (repeat (first | (first | refine w_var rfl ?_ | refine w_c ?_ | refine w_op ?_ | refine w_un ?_ | refine w_cl ?_ | refine w_nil ?_ | refine w_cons ?_ | refine w_tup ?_ | refine w_lst ?_ | refine w_test ?_ | refine w_not ?_ | refine w_and ?_ | refine w_or ?_ | refine w_andV ?_ | refine w_orV ?_ | refine w_notV ?_ | refine w_if ?_ | refine w_chn ?_ | refine w_call ?_ | refine w_make ?_ | refine w_fld ?_ | refine w_ml ?_ | refine w_ml0 ?_ | refine w_sl ?_ | refine w_slD ?_ | refine w_noPart ?_ | refine w_part ?_ | refine w_dictZ ?_ | refine w_lcA ?_ | refine w_ret ?_ | refine w_rt ?_ | refine w_ifS ?_ | refine w_next ?_ | refine w_break ?_ | refine w_cont ?_ | refine w_seq ?_ | refine w_asg ?_ | refine w_drop ?_ | refine w_par ?_ | refine w_sfld ?_ | refine w_asgT ?_ | refine w_gset ?_ | refine w_gname ?_ | refine w_gtup rfl ?_ | refine w_gcons ?_ | refine w_gnil ?_ | refine w_yes ?_) | refine w_bl ?_ | refine w_int ?_ | refine w_T ?_ | refine w_F ?_ | refine w_nT ?_ | refine w_nF ?_ | refine q_len_tup ?_ | refine q_int ?_ | refine q_intB ?_ | refine q_add ?_ | refine q_sub ?_ | refine q_neg ?_ | refine q_ord ?_ | refine q_ordS ?_ | refine q_tuple_tup ?_ | refine qEq_int ?_)))
    refine ⟨_, ⟨n, rfl, isName_fits (v.name n hn), rfl⟩, call_same ?_⟩
    rw [v.name n hn]
    exact hA rfl _ (HSub.refl _)
  · (with_reducible (repeat (first | (first | refine w_var rfl ?_ | refine w_c ?_ | refine w_op ?_ | refine w_un ?_ | refine w_cl ?_ | refine w_nil ?_ | refine w_cons ?_ | refine w_tup ?_ | refine w_lst ?_ | refine w_test ?_ | refine w_not ?_ | refine w_and ?_ | refine w_or ?_ | refine w_andV ?_ | refine w_orV ?_ | refine w_notV ?_ | refine w_if ?_ | refine w_chn ?_ | refine w_call ?_ | refine w_make ?_ | refine w_fld ?_ | refine w_ml ?_ | refine w_ml0 ?_ | refine w_sl ?_ | refine w_slD ?_ | refine w_noPart ?_ | refine w_part ?_ | refine w_dictZ ?_ | refine w_lcA ?_ | refine w_ret ?_ | refine w_rt ?_ | refine w_ifS ?_ | refine w_next ?_ | refine w_break ?_ | refine w_cont ?_ | refine w_seq ?_ | refine w_asg ?_ | refine w_drop ?_ | refine w_par ?_ | refine w_sfld ?_ | refine w_asgT ?_ | refine w_gset ?_ | refine w_gname ?_ | refine w_gtup rfl ?_ | refine w_gcons ?_ | refine w_gnil ?_ | refine w_yes ?_) | refine w_bl ?_ | refine w_int ?_ | refine w_T ?_ | refine w_F ?_ | refine w_nT ?_ | refine w_nF ?_ | refine q_len_tup ?_ | refine q_int ?_ | refine q_intB ?_ | refine q_add ?_ | refine q_sub ?_ | refine q_neg ?_ | refine q_ord ?_ | refine q_ordS ?_ | refine q_tuple_tup ?_ | refine qEq_int ?_)))
    refine q_all (bs := List.replicate (dS ns).length true) (by rw [up_same, List.filter_eq_self.mpr (by intros; rfl), rep_true]) ?_
    rw [all_rep]
    (with_reducible (repeat (first | (first | refine w_var rfl ?_ | refine w_c ?_ | refine w_op ?_ | refine w_un ?_ | refine w_cl ?_ | refine w_nil ?_ | refine w_cons ?_ | refine w_tup ?_ | refine w_lst ?_ | refine w_test ?_ | refine w_not ?_ | refine w_and ?_ | refine w_or ?_ | refine w_andV ?_ | refine w_orV ?_ | refine w_notV ?_ | refine w_if ?_ | refine w_chn ?_ | refine w_call ?_ | refine w_make ?_ | refine w_fld ?_ | refine w_ml ?_ | refine w_ml0 ?_ | refine w_sl ?_ | refine w_slD ?_ | refine w_noPart ?_ | refine w_part ?_ | refine w_dictZ ?_ | refine w_lcA ?_ | refine w_ret ?_ | refine w_rt ?_ | refine w_ifS ?_ | refine w_next ?_ | refine w_break ?_ | refine w_cont ?_ | refine w_seq ?_ | refine w_asg ?_ | refine w_drop ?_ | refine w_par ?_ | refine w_sfld ?_ | refine w_asgT ?_ | refine w_gset ?_ | refine w_gname ?_ | refine w_gtup rfl ?_ | refine w_gcons ?_ | refine w_gnil ?_ | refine w_yes ?_) | refine w_bl ?_ | refine w_int ?_ | refine w_T ?_ | refine w_F ?_ | refine w_nT ?_ | refine w_nF ?_ | refine q_len_tup ?_ | refine q_int ?_ | refine q_intB ?_ | refine q_add ?_ | refine q_sub ?_ | refine q_neg ?_ | refine q_ord ?_ | refine q_ordS ?_ | refine q_tuple_tup ?_ | refine qEq_int ?_)))
    have rx2 := rx.sub (HSub.new (o := .lst (((dS ns).filter fun _ => true).map fun _ => .bl true)) hp)
    refine ⟨_, rx2, setOkS ns (by have := v.few; omega), ?_⟩
    (with_reducible (repeat (first | (first | refine w_var rfl ?_ | refine w_c ?_ | refine w_op ?_ | refine w_un ?_ | refine w_cl ?_ | refine w_nil ?_ | refine w_cons ?_ | refine w_tup ?_ | refine w_lst ?_ | refine w_test ?_ | refine w_not ?_ | refine w_and ?_ | refine w_or ?_ | refine w_andV ?_ | refine w_orV ?_ | refine w_notV ?_ | refine w_if ?_ | refine w_chn ?_ | refine w_call ?_ | refine w_make ?_ | refine w_fld ?_ | refine w_ml ?_ | refine w_ml0 ?_ | refine w_sl ?_ | refine w_slD ?_ | refine w_noPart ?_ | refine w_part ?_ | refine w_dictZ ?_ | refine w_lcA ?_ | refine w_ret ?_ | refine w_rt ?_ | refine w_ifS ?_ | refine w_next ?_ | refine w_break ?_ | refine w_cont ?_ | refine w_seq ?_ | refine w_asg ?_ | refine w_drop ?_ | refine w_par ?_ | refine w_sfld ?_ | refine w_asgT ?_ | refine w_gset ?_ | refine w_gname ?_ | refine w_gtup rfl ?_ | refine w_gcons ?_ | refine w_gnil ?_ | refine w_yes ?_) | refine w_bl ?_ | refine w_int ?_ | refine w_T ?_ | refine w_F ?_ | refine w_nT ?_ | refine w_nF ?_ | refine q_len_tup ?_ | refine q_int ?_ | refine q_intB ?_ | refine q_add ?_ | refine q_sub ?_ | refine q_neg ?_ | refine q_ord ?_ | refine q_ordS ?_ | refine q_tuple_tup ?_ | refine qEq_int ?_)))
    refine q_len_row rx2 ?_
    (with_reducible (repeat (first | (first | refine w_var rfl ?_ | refine w_c ?_ | refine w_op ?_ | refine w_un ?_ | refine w_cl ?_ | refine w_nil ?_ | refine w_cons ?_ | refine w_tup ?_ | refine w_lst ?_ | refine w_test ?_ | refine w_not ?_ | refine w_and ?_ | refine w_or ?_ | refine w_andV ?_ | refine w_orV ?_ | refine w_notV ?_ | refine w_if ?_ | refine w_chn ?_ | refine w_call ?_ | refine w_make ?_ | refine w_fld ?_ | refine w_ml ?_ | refine w_ml0 ?_ | refine w_sl ?_ | refine w_slD ?_ | refine w_noPart ?_ | refine w_part ?_ | refine w_dictZ ?_ | refine w_lcA ?_ | refine w_ret ?_ | refine w_rt ?_ | refine w_ifS ?_ | refine w_next ?_ | refine w_break ?_ | refine w_cont ?_ | refine w_seq ?_ | refine w_asg ?_ | refine w_drop ?_ | refine w_par ?_ | refine w_sfld ?_ | refine w_asgT ?_ | refine w_gset ?_ | refine w_gname ?_ | refine w_gtup rfl ?_ | refine w_gcons ?_ | refine w_gnil ?_ | refine w_yes ?_) | refine w_bl ?_ | refine w_int ?_ | refine w_T ?_ | refine w_F ?_ | refine w_nT ?_ | refine w_nF ?_ | refine q_len_tup ?_ | refine q_int ?_ | refine q_intB ?_ | refine q_add ?_ | refine q_sub ?_ | refine q_neg ?_ | refine q_ord ?_ | refine q_ordS ?_ | refine q_tuple_tup ?_ | refine qEq_int ?_)))
    refine hU _ G _ (HSub.new hp) (q _ _ ⟨?_, rfl⟩)
    rw [nubS v.nd, dS_len]
    simp

/-! ### Graph___init__ -/
abbrev N_Graph___init__ : List Str := ["self", "vertices", "edges"]
def t_Graph___init___1 (K : PySem.W.Frag) (c : Ad) : JSt := (jsFld c.cGraph "edges" (jVar 0) (jCl qTuple (jCons (jCl qSorted (jCons (jVar 2) jNil)) jNil)))
def t_Graph___init___2 (K : PySem.W.Frag) (c : Ad) : JSt := (jSeq (jsFld c.cGraph "vertices" (jVar 0) (jCl qTuple (jCons (jVar 1) jNil))) (t_Graph___init___1 K c))
def t_Graph___init___3 (K : PySem.W.Frag) (c : Ad) : JSt := (jSeq (jIfS (jNot (jTest (jCall (sp_are_edges K c) (jCons (jVar 1) (jCons (jVar 2) jNil))))) jNever jNext) (t_Graph___init___2 K c))
def t_Graph___init__ (K : PySem.W.Frag) (c : Ad) : JSt := (jSeq (jIfS (jNot (jTest (jCall (sp_are_vertices K c) (jCons (jVar 1) jNil)))) jNever jNext) (t_Graph___init___3 K c))
def sp_Graph___init__ (K : PySem.W.Frag) (c : Ad) : Sq := spA fun ws G po => ∃ p x y ns es, ws = [.ad p, x, y] ∧ rowT x G (dS ns) ∧ rowT y G (dEs es) ∧ OkV ns ∧ OkE ns es ∧ G p = some (.ins c.cGraph []) ∧ po = fun v G1 => v = .non ∧ G1 = up G p (.ins c.cGraph (gFs ns es))
theorem mono_Graph___init__ {K : PySem.W.Frag} {c : Ad} : MonoSq (sp_Graph___init__ K c) := spA.mono
theorem len_Graph___init__ {K : PySem.W.Frag} {c : Ad} : ∀ ws G Q E, sp_Graph___init__ K c ws G Q E → ws.length = (["self", "vertices", "edges"] : List Str).length := by
  rintro _ _ _ _ ⟨_, ⟨_, _, _, _, _, rfl, _⟩, _⟩; rfl
theorem pure_Graph___init__ {K : PySem.W.Frag} {c : Ad} : ∀ ws G Q E, Up Q → UpX E → sp_Graph___init__ K c ws G Q E → t_Graph___init__ K c (fun c f _ G => E c f G) { nx := fun _ G => Q .non G, rt := Q } (startT N_Graph___init__ ws) G := by
  rintro _ G Q E hU _ ⟨_, ⟨p, x, y, ns, es, rfl, rx, ry, v, h, hp, rfl⟩, q⟩
  have ne : ∀ {z : Dv} {xs : List Dv}, rowT z G xs → rowT z (up G p (.ins c.cGraph [("vertices", .tup (dS ns))])) xs := fun r => r.imp (fun ⟨a, e, h⟩ => ⟨a, e, by
    rw [up_ne (fun z => by subst z; rw [hp] at h; cases h)]; exact h⟩) id
  unfold t_Graph___init__
  (with_reducible (repeat (first | (first | refine w_var rfl ?_ | refine w_c ?_ | refine w_op ?_ | refine w_un ?_ | refine w_cl ?_ | refine w_nil ?_ | refine w_cons ?_ | refine w_tup ?_ | refine w_lst ?_ | refine w_test ?_ | refine w_not ?_ | refine w_and ?_ | refine w_or ?_ | refine w_andV ?_ | refine w_orV ?_ | refine w_notV ?_ | refine w_if ?_ | refine w_chn ?_ | refine w_call ?_ | refine w_make ?_ | refine w_fld ?_ | refine w_ml ?_ | refine w_ml0 ?_ | refine w_sl ?_ | refine w_slD ?_ | refine w_noPart ?_ | refine w_part ?_ | refine w_dictZ ?_ | refine w_lcA ?_ | refine w_ret ?_ | refine w_rt ?_ | refine w_ifS ?_ | refine w_next ?_ | refine w_break ?_ | refine w_cont ?_ | refine w_seq ?_ | refine w_asg ?_ | refine w_drop ?_ | refine w_par ?_ | refine w_sfld ?_ | refine w_asgT ?_ | refine w_gset ?_ | refine w_gname ?_ | refine w_gtup rfl ?_ | refine w_gcons ?_ | refine w_gnil ?_ | refine w_yes ?_) | refine w_bl ?_ | refine w_int ?_ | refine w_T ?_ | refine w_F ?_ | refine w_nT ?_ | refine w_nF ?_ | refine q_len_tup ?_ | refine q_int ?_ | refine q_intB ?_ | refine q_add ?_ | refine q_sub ?_ | refine q_neg ?_ | refine q_ord ?_ | refine q_ordS ?_ | refine q_tuple_tup ?_ | refine qEq_int ?_)))
  refine ⟨_, ⟨x, ns, rfl, rx.row, v, rfl⟩, call_same ?_⟩
  (with_reducible (repeat (first | (first | refine w_var rfl ?_ | refine w_c ?_ | refine w_op ?_ | refine w_un ?_ | refine w_cl ?_ | refine w_nil ?_ | refine w_cons ?_ | refine w_tup ?_ | refine w_lst ?_ | refine w_test ?_ | refine w_not ?_ | refine w_and ?_ | refine w_or ?_ | refine w_andV ?_ | refine w_orV ?_ | refine w_notV ?_ | refine w_if ?_ | refine w_chn ?_ | refine w_call ?_ | refine w_make ?_ | refine w_fld ?_ | refine w_ml ?_ | refine w_ml0 ?_ | refine w_sl ?_ | refine w_slD ?_ | refine w_noPart ?_ | refine w_part ?_ | refine w_dictZ ?_ | refine w_lcA ?_ | refine w_ret ?_ | refine w_rt ?_ | refine w_ifS ?_ | refine w_next ?_ | refine w_break ?_ | refine w_cont ?_ | refine w_seq ?_ | refine w_asg ?_ | refine w_drop ?_ | refine w_par ?_ | refine w_sfld ?_ | refine w_asgT ?_ | refine w_gset ?_ | refine w_gname ?_ | refine w_gtup rfl ?_ | refine w_gcons ?_ | refine w_gnil ?_ | refine w_yes ?_) | refine w_bl ?_ | refine w_int ?_ | refine w_T ?_ | refine w_F ?_ | refine w_nT ?_ | refine w_nF ?_ | refine q_len_tup ?_ | refine q_int ?_ | refine q_intB ?_ | refine q_add ?_ | refine q_sub ?_ | refine q_neg ?_ | refine q_ord ?_ | refine q_ordS ?_ | refine q_tuple_tup ?_ | refine qEq_int ?_)))
  unfold t_Graph___init___3
  (with_reducible (repeat (first | (first | refine w_var rfl ?_ | refine w_c ?_ | refine w_op ?_ | refine w_un ?_ | refine w_cl ?_ | refine w_nil ?_ | refine w_cons ?_ | refine w_tup ?_ | refine w_lst ?_ | refine w_test ?_ | refine w_not ?_ | refine w_and ?_ | refine w_or ?_ | refine w_andV ?_ | refine w_orV ?_ | refine w_notV ?_ | refine w_if ?_ | refine w_chn ?_ | refine w_call ?_ | refine w_make ?_ | refine w_fld ?_ | refine w_ml ?_ | refine w_ml0 ?_ | refine w_sl ?_ | refine w_slD ?_ | refine w_noPart ?_ | refine w_part ?_ | refine w_dictZ ?_ | refine w_lcA ?_ | refine w_ret ?_ | refine w_rt ?_ | refine w_ifS ?_ | refine w_next ?_ | refine w_break ?_ | refine w_cont ?_ | refine w_seq ?_ | refine w_asg ?_ | refine w_drop ?_ | refine w_par ?_ | refine w_sfld ?_ | refine w_asgT ?_ | refine w_gset ?_ | refine w_gname ?_ | refine w_gtup rfl ?_ | refine w_gcons ?_ | refine w_gnil ?_ | refine w_yes ?_) | refine w_bl ?_ | refine w_int ?_ | refine w_T ?_ | refine w_F ?_ | refine w_nT ?_ | refine w_nF ?_ | refine q_len_tup ?_ | refine q_int ?_ | refine q_intB ?_ | refine q_add ?_ | refine q_sub ?_ | refine q_neg ?_ | refine q_ord ?_ | refine q_ordS ?_ | refine q_tuple_tup ?_ | refine qEq_int ?_)))
  refine ⟨_, ⟨x, y, ns, es, rfl, rx.row, ry.row, v, h, rfl⟩, call_same ?_⟩
  (with_reducible (repeat (first | (first | refine w_var rfl ?_ | refine w_c ?_ | refine w_op ?_ | refine w_un ?_ | refine w_cl ?_ | refine w_nil ?_ | refine w_cons ?_ | refine w_tup ?_ | refine w_lst ?_ | refine w_test ?_ | refine w_not ?_ | refine w_and ?_ | refine w_or ?_ | refine w_andV ?_ | refine w_orV ?_ | refine w_notV ?_ | refine w_if ?_ | refine w_chn ?_ | refine w_call ?_ | refine w_make ?_ | refine w_fld ?_ | refine w_ml ?_ | refine w_ml0 ?_ | refine w_sl ?_ | refine w_slD ?_ | refine w_noPart ?_ | refine w_part ?_ | refine w_dictZ ?_ | refine w_lcA ?_ | refine w_ret ?_ | refine w_rt ?_ | refine w_ifS ?_ | refine w_next ?_ | refine w_break ?_ | refine w_cont ?_ | refine w_seq ?_ | refine w_asg ?_ | refine w_drop ?_ | refine w_par ?_ | refine w_sfld ?_ | refine w_asgT ?_ | refine w_gset ?_ | refine w_gname ?_ | refine w_gtup rfl ?_ | refine w_gcons ?_ | refine w_gnil ?_ | refine w_yes ?_) | refine w_bl ?_ | refine w_int ?_ | refine w_T ?_ | refine w_F ?_ | refine w_nT ?_ | refine w_nF ?_ | refine q_len_tup ?_ | refine q_int ?_ | refine q_intB ?_ | refine q_add ?_ | refine q_sub ?_ | refine q_neg ?_ | refine q_ord ?_ | refine q_ordS ?_ | refine q_tuple_tup ?_ | refine qEq_int ?_)))
  unfold t_Graph___init___2
  (with_reducible (repeat (first | (first | refine w_var rfl ?_ | refine w_c ?_ | refine w_op ?_ | refine w_un ?_ | refine w_cl ?_ | refine w_nil ?_ | refine w_cons ?_ | refine w_tup ?_ | refine w_lst ?_ | refine w_test ?_ | refine w_not ?_ | refine w_and ?_ | refine w_or ?_ | refine w_andV ?_ | refine w_orV ?_ | refine w_notV ?_ | refine w_if ?_ | refine w_chn ?_ | refine w_call ?_ | refine w_make ?_ | refine w_fld ?_ | refine w_ml ?_ | refine w_ml0 ?_ | refine w_sl ?_ | refine w_slD ?_ | refine w_noPart ?_ | refine w_part ?_ | refine w_dictZ ?_ | refine w_lcA ?_ | refine w_ret ?_ | refine w_rt ?_ | refine w_ifS ?_ | refine w_next ?_ | refine w_break ?_ | refine w_cont ?_ | refine w_seq ?_ | refine w_asg ?_ | refine w_drop ?_ | refine w_par ?_ | refine w_sfld ?_ | refine w_asgT ?_ | refine w_gset ?_ | refine w_gname ?_ | refine w_gtup rfl ?_ | refine w_gcons ?_ | refine w_gnil ?_ | refine w_yes ?_) | refine w_bl ?_ | refine w_int ?_ | refine w_T ?_ | refine w_F ?_ | refine w_nT ?_ | refine w_nF ?_ | refine q_len_tup ?_ | refine q_int ?_ | refine q_intB ?_ | refine q_add ?_ | refine q_sub ?_ | refine q_neg ?_ | refine q_ord ?_ | refine q_ordS ?_ | refine q_tuple_tup ?_ | refine qEq_int ?_)))
  refine q_tuple_row rx ?_
  (with_reducible (repeat (first | (first | refine w_var rfl ?_ | refine w_c ?_ | refine w_op ?_ | refine w_un ?_ | refine w_cl ?_ | refine w_nil ?_ | refine w_cons ?_ | refine w_tup ?_ | refine w_lst ?_ | refine w_test ?_ | refine w_not ?_ | refine w_and ?_ | refine w_or ?_ | refine w_andV ?_ | refine w_orV ?_ | refine w_notV ?_ | refine w_if ?_ | refine w_chn ?_ | refine w_call ?_ | refine w_make ?_ | refine w_fld ?_ | refine w_ml ?_ | refine w_ml0 ?_ | refine w_sl ?_ | refine w_slD ?_ | refine w_noPart ?_ | refine w_part ?_ | refine w_dictZ ?_ | refine w_lcA ?_ | refine w_ret ?_ | refine w_rt ?_ | refine w_ifS ?_ | refine w_next ?_ | refine w_break ?_ | refine w_cont ?_ | refine w_seq ?_ | refine w_asg ?_ | refine w_drop ?_ | refine w_par ?_ | refine w_sfld ?_ | refine w_asgT ?_ | refine w_gset ?_ | refine w_gname ?_ | refine w_gtup rfl ?_ | refine w_gcons ?_ | refine w_gnil ?_ | refine w_yes ?_) | refine w_bl ?_ | refine w_int ?_ | refine w_T ?_ | refine w_F ?_ | refine w_nT ?_ | refine w_nF ?_ | refine q_len_tup ?_ | refine q_int ?_ | refine q_intB ?_ | refine q_add ?_ | refine q_sub ?_ | refine q_neg ?_ | refine q_ord ?_ | refine q_ordS ?_ | refine q_tuple_tup ?_ | refine qEq_int ?_)))
  refine ⟨p, [], rfl, hp, by decide, ?_⟩
  rw [put_v]
  show t_Graph___init___1 K c _ _ _ _
  unfold t_Graph___init___1
  (with_reducible (repeat (first | (first | refine w_var rfl ?_ | refine w_c ?_ | refine w_op ?_ | refine w_un ?_ | refine w_cl ?_ | refine w_nil ?_ | refine w_cons ?_ | refine w_tup ?_ | refine w_lst ?_ | refine w_test ?_ | refine w_not ?_ | refine w_and ?_ | refine w_or ?_ | refine w_andV ?_ | refine w_orV ?_ | refine w_notV ?_ | refine w_if ?_ | refine w_chn ?_ | refine w_call ?_ | refine w_make ?_ | refine w_fld ?_ | refine w_ml ?_ | refine w_ml0 ?_ | refine w_sl ?_ | refine w_slD ?_ | refine w_noPart ?_ | refine w_part ?_ | refine w_dictZ ?_ | refine w_lcA ?_ | refine w_ret ?_ | refine w_rt ?_ | refine w_ifS ?_ | refine w_next ?_ | refine w_break ?_ | refine w_cont ?_ | refine w_seq ?_ | refine w_asg ?_ | refine w_drop ?_ | refine w_par ?_ | refine w_sfld ?_ | refine w_asgT ?_ | refine w_gset ?_ | refine w_gname ?_ | refine w_gtup rfl ?_ | refine w_gcons ?_ | refine w_gnil ?_ | refine w_yes ?_) | refine w_bl ?_ | refine w_int ?_ | refine w_T ?_ | refine w_F ?_ | refine w_nT ?_ | refine w_nF ?_ | refine q_len_tup ?_ | refine q_int ?_ | refine q_intB ?_ | refine q_add ?_ | refine q_sub ?_ | refine q_neg ?_ | refine q_ord ?_ | refine q_ordS ?_ | refine q_tuple_tup ?_ | refine qEq_int ?_)))
  refine ⟨y, _, rfl, (ne ry).row, sortOkE es, fun l hl => ?_⟩
  rw [sortE_d]
  (with_reducible (repeat (first | (first | refine w_var rfl ?_ | refine w_c ?_ | refine w_op ?_ | refine w_un ?_ | refine w_cl ?_ | refine w_nil ?_ | refine w_cons ?_ | refine w_tup ?_ | refine w_lst ?_ | refine w_test ?_ | refine w_not ?_ | refine w_and ?_ | refine w_or ?_ | refine w_andV ?_ | refine w_orV ?_ | refine w_notV ?_ | refine w_if ?_ | refine w_chn ?_ | refine w_call ?_ | refine w_make ?_ | refine w_fld ?_ | refine w_ml ?_ | refine w_ml0 ?_ | refine w_sl ?_ | refine w_slD ?_ | refine w_noPart ?_ | refine w_part ?_ | refine w_dictZ ?_ | refine w_lcA ?_ | refine w_ret ?_ | refine w_rt ?_ | refine w_ifS ?_ | refine w_next ?_ | refine w_break ?_ | refine w_cont ?_ | refine w_seq ?_ | refine w_asg ?_ | refine w_drop ?_ | refine w_par ?_ | refine w_sfld ?_ | refine w_asgT ?_ | refine w_gset ?_ | refine w_gname ?_ | refine w_gtup rfl ?_ | refine w_gcons ?_ | refine w_gnil ?_ | refine w_yes ?_) | refine w_bl ?_ | refine w_int ?_ | refine w_T ?_ | refine w_F ?_ | refine w_nT ?_ | refine w_nF ?_ | refine q_len_tup ?_ | refine q_int ?_ | refine q_intB ?_ | refine q_add ?_ | refine q_sub ?_ | refine q_neg ?_ | refine q_ord ?_ | refine q_ordS ?_ | refine q_tuple_tup ?_ | refine qEq_int ?_)))
  refine q_tuple_ad up_same ?_
  (with_reducible (repeat (first | (first | refine w_var rfl ?_ | refine w_c ?_ | refine w_op ?_ | refine w_un ?_ | refine w_cl ?_ | refine w_nil ?_ | refine w_cons ?_ | refine w_tup ?_ | refine w_lst ?_ | refine w_test ?_ | refine w_not ?_ | refine w_and ?_ | refine w_or ?_ | refine w_andV ?_ | refine w_orV ?_ | refine w_notV ?_ | refine w_if ?_ | refine w_chn ?_ | refine w_call ?_ | refine w_make ?_ | refine w_fld ?_ | refine w_ml ?_ | refine w_ml0 ?_ | refine w_sl ?_ | refine w_slD ?_ | refine w_noPart ?_ | refine w_part ?_ | refine w_dictZ ?_ | refine w_lcA ?_ | refine w_ret ?_ | refine w_rt ?_ | refine w_ifS ?_ | refine w_next ?_ | refine w_break ?_ | refine w_cont ?_ | refine w_seq ?_ | refine w_asg ?_ | refine w_drop ?_ | refine w_par ?_ | refine w_sfld ?_ | refine w_asgT ?_ | refine w_gset ?_ | refine w_gname ?_ | refine w_gtup rfl ?_ | refine w_gcons ?_ | refine w_gnil ?_ | refine w_yes ?_) | refine w_bl ?_ | refine w_int ?_ | refine w_T ?_ | refine w_F ?_ | refine w_nT ?_ | refine w_nF ?_ | refine q_len_tup ?_ | refine q_int ?_ | refine q_intB ?_ | refine q_add ?_ | refine q_sub ?_ | refine q_neg ?_ | refine q_ord ?_ | refine q_ordS ?_ | refine q_tuple_tup ?_ | refine qEq_int ?_)))
  have pl : p ≠ l := fun z => by subst z; rw [up_same] at hl; cases hl
  refine ⟨p, _, rfl, by rw [up_ne pl, up_same], (by show 1 < 1000; decide), ?_⟩
  rw [put_e]
  refine hU _ _ _ ?_ (q _ _ ⟨rfl, rfl⟩)
  refine HSub.put fun a o na e => ?_
  have al : a ≠ l := fun z => by subst z; rw [up_ne na] at hl; rw [e] at hl; cases hl
  rw [up_ne al, up_ne na]; exact e

/-! ### Graph___eq__ -/
abbrev N_Graph___eq__ : List Str := ["self", "other"]
def t_Graph___eq__ (K : PySem.W.Frag) (c : Ad) : JSt := (jRet (jAndV (jCl (qIsi K) (jCons (jVar 1) (jCons (jC (.ad c.cGraph)) jNil))) (jAndV (jOp (qEq false) (jFld c.cGraph "vertices" (jVar 0)) (jFld c.cGraph "vertices" (jVar 1))) (jOp (qEq false) (jFld c.cGraph "edges" (jVar 0)) (jFld c.cGraph "edges" (jVar 1))))))
/-- what a value is to a graph of ns and es: another graph, or of another class -/
def eqTo (K : PySem.W.Frag) (c : Ad) (ns : List Str) (es : List (Str × Str)) (y : Dv) (G : Hq) (b : Bool) : Prop :=
  (∃ q ms fs, y = .ad q ∧ G q = some (.ins c.cGraph (gFs ms fs)) ∧ OkV ms ∧ OkE ms fs ∧ (b = true ↔ ns = ms ∧ sortE es = sortE fs)) ∨ ∃ n, n ∈ tyNames ∧ TyD K G y (.type n) ∧ b = false
def sp_Graph___eq__ (K : PySem.W.Frag) (c : Ad) : Sq := spA fun ws G po => ∃ p y ns es b, ws = [.ad p, y] ∧ G p = some (.ins c.cGraph (gFs ns es)) ∧ OkV ns ∧ OkE ns es ∧ eqTo K c ns es y G b ∧ po = fun v G1 => v = .bl b ∧ G1 = G
theorem mono_Graph___eq__ {K : PySem.W.Frag} {c : Ad} : MonoSq (sp_Graph___eq__ K c) := spA.mono
theorem len_Graph___eq__ {K : PySem.W.Frag} {c : Ad} : ∀ ws G Q E, sp_Graph___eq__ K c ws G Q E → ws.length = (["self", "other"] : List Str).length := by
  rintro _ _ _ _ ⟨_, ⟨_, _, _, _, _, rfl, _⟩, _⟩; rfl
theorem sortE_ev {ns es} (v : OkV ns) (h : OkE ns es) : Evs (dEs (sortE es)) := dEs_ev fun e he => by
  have he := (List.mergeSort_perm es leE).mem_iff.mp he
  exact ⟨h.name1 v he, h.name2 v he⟩
theorem dS_inj {a b : List Str} : dS a = dS b ↔ a = b := by
  constructor
  · intro h; exact List.map_inj_right (f := Dv.str) (fun x y e => by injection e) |>.mp h
  · intro h; rw [h]
theorem dEs_inj {a b : List (Str × Str)} : dEs a = dEs b ↔ a = b := by
  constructor
  · intro h; exact List.map_inj_right (f := dEdge) (fun x y e => dEdge_inj e) |>.mp h
  · intro h; rw [h]
theorem pure_Graph___eq__ {K : PySem.W.Frag} {c : Ad} (gf : GF K c) : ∀ ws G Q E, Up Q → UpX E → sp_Graph___eq__ K c ws G Q E → t_Graph___eq__ K c (fun c f _ G => E c f G) { nx := fun _ G => Q .non G, rt := Q } (startT N_Graph___eq__ ws) G := by
  rintro _ G Q E hU _ ⟨_, ⟨p, y, ns, es, b, rfl, hp, v, h, ⟨q', ms, fs, rfl, hq, v2, h2, hb⟩ | ⟨n, hn, ty, rfl⟩, rfl⟩, q⟩
  · unfold t_Graph___eq__
    (with_reducible (repeat (first | (first | refine w_var rfl ?_ | refine w_c ?_ | refine w_op ?_ | refine w_un ?_ | refine w_cl ?_ | refine w_nil ?_ | refine w_cons ?_ | refine w_tup ?_ | refine w_lst ?_ | refine w_test ?_ | refine w_not ?_ | refine w_and ?_ | refine w_or ?_ | refine w_andV ?_ | refine w_orV ?_ | refine w_notV ?_ | refine w_if ?_ | refine w_chn ?_ | refine w_call ?_ | refine w_make ?_ | refine w_fld ?_ | refine w_ml ?_ | refine w_ml0 ?_ | refine w_sl ?_ | refine w_slD ?_ | refine w_noPart ?_ | refine w_part ?_ | refine w_dictZ ?_ | refine w_lcA ?_ | refine w_ret ?_ | refine w_rt ?_ | refine w_ifS ?_ | refine w_next ?_ | refine w_break ?_ | refine w_cont ?_ | refine w_seq ?_ | refine w_asg ?_ | refine w_drop ?_ | refine w_par ?_ | refine w_sfld ?_ | refine w_asgT ?_ | refine w_gset ?_ | refine w_gname ?_ | refine w_gtup rfl ?_ | refine w_gcons ?_ | refine w_gnil ?_ | refine w_yes ?_) | refine w_bl ?_ | refine w_int ?_ | refine w_T ?_ | refine w_F ?_ | refine w_nT ?_ | refine w_nF ?_ | refine q_len_tup ?_ | refine q_int ?_ | refine q_intB ?_ | refine q_add ?_ | refine q_sub ?_ | refine q_neg ?_ | refine q_ord ?_ | refine q_ordS ?_ | refine q_tuple_tup ?_ | refine qEq_int ?_)))
    refine ⟨_, _, _, _, true, rfl, .own _, gf.ins hq, GF.self, ?_⟩
    (with_reducible (repeat (first | (first | refine w_var rfl ?_ | refine w_c ?_ | refine w_op ?_ | refine w_un ?_ | refine w_cl ?_ | refine w_nil ?_ | refine w_cons ?_ | refine w_tup ?_ | refine w_lst ?_ | refine w_test ?_ | refine w_not ?_ | refine w_and ?_ | refine w_or ?_ | refine w_andV ?_ | refine w_orV ?_ | refine w_notV ?_ | refine w_if ?_ | refine w_chn ?_ | refine w_call ?_ | refine w_make ?_ | refine w_fld ?_ | refine w_ml ?_ | refine w_ml0 ?_ | refine w_sl ?_ | refine w_slD ?_ | refine w_noPart ?_ | refine w_part ?_ | refine w_dictZ ?_ | refine w_lcA ?_ | refine w_ret ?_ | refine w_rt ?_ | refine w_ifS ?_ | refine w_next ?_ | refine w_break ?_ | refine w_cont ?_ | refine w_seq ?_ | refine w_asg ?_ | refine w_drop ?_ | refine w_par ?_ | refine w_sfld ?_ | refine w_asgT ?_ | refine w_gset ?_ | refine w_gname ?_ | refine w_gtup rfl ?_ | refine w_gcons ?_ | refine w_gnil ?_ | refine w_yes ?_) | refine w_bl ?_ | refine w_int ?_ | refine w_T ?_ | refine w_F ?_ | refine w_nT ?_ | refine w_nF ?_ | refine q_len_tup ?_ | refine q_int ?_ | refine q_intB ?_ | refine q_add ?_ | refine q_sub ?_ | refine q_neg ?_ | refine q_ord ?_ | refine q_ordS ?_ | refine q_tuple_tup ?_ | refine qEq_int ?_)))
    refine ⟨p, _, _, rfl, hp, gFs_v, ?_⟩
    (with_reducible (repeat (first | (first | refine w_var rfl ?_ | refine w_c ?_ | refine w_op ?_ | refine w_un ?_ | refine w_cl ?_ | refine w_nil ?_ | refine w_cons ?_ | refine w_tup ?_ | refine w_lst ?_ | refine w_test ?_ | refine w_not ?_ | refine w_and ?_ | refine w_or ?_ | refine w_andV ?_ | refine w_orV ?_ | refine w_notV ?_ | refine w_if ?_ | refine w_chn ?_ | refine w_call ?_ | refine w_make ?_ | refine w_fld ?_ | refine w_ml ?_ | refine w_ml0 ?_ | refine w_sl ?_ | refine w_slD ?_ | refine w_noPart ?_ | refine w_part ?_ | refine w_dictZ ?_ | refine w_lcA ?_ | refine w_ret ?_ | refine w_rt ?_ | refine w_ifS ?_ | refine w_next ?_ | refine w_break ?_ | refine w_cont ?_ | refine w_seq ?_ | refine w_asg ?_ | refine w_drop ?_ | refine w_par ?_ | refine w_sfld ?_ | refine w_asgT ?_ | refine w_gset ?_ | refine w_gname ?_ | refine w_gtup rfl ?_ | refine w_gcons ?_ | refine w_gnil ?_ | refine w_yes ?_) | refine w_bl ?_ | refine w_int ?_ | refine w_T ?_ | refine w_F ?_ | refine w_nT ?_ | refine w_nF ?_ | refine q_len_tup ?_ | refine q_int ?_ | refine q_intB ?_ | refine q_add ?_ | refine q_sub ?_ | refine q_neg ?_ | refine q_ord ?_ | refine q_ordS ?_ | refine q_tuple_tup ?_ | refine qEq_int ?_)))
    refine ⟨q', _, _, rfl, hq, gFs_v, ?_⟩
    (with_reducible (repeat (first | (first | refine w_var rfl ?_ | refine w_c ?_ | refine w_op ?_ | refine w_un ?_ | refine w_cl ?_ | refine w_nil ?_ | refine w_cons ?_ | refine w_tup ?_ | refine w_lst ?_ | refine w_test ?_ | refine w_not ?_ | refine w_and ?_ | refine w_or ?_ | refine w_andV ?_ | refine w_orV ?_ | refine w_notV ?_ | refine w_if ?_ | refine w_chn ?_ | refine w_call ?_ | refine w_make ?_ | refine w_fld ?_ | refine w_ml ?_ | refine w_ml0 ?_ | refine w_sl ?_ | refine w_slD ?_ | refine w_noPart ?_ | refine w_part ?_ | refine w_dictZ ?_ | refine w_lcA ?_ | refine w_ret ?_ | refine w_rt ?_ | refine w_ifS ?_ | refine w_next ?_ | refine w_break ?_ | refine w_cont ?_ | refine w_seq ?_ | refine w_asg ?_ | refine w_drop ?_ | refine w_par ?_ | refine w_sfld ?_ | refine w_asgT ?_ | refine w_gset ?_ | refine w_gname ?_ | refine w_gtup rfl ?_ | refine w_gcons ?_ | refine w_gnil ?_ | refine w_yes ?_) | refine w_bl ?_ | refine w_int ?_ | refine w_T ?_ | refine w_F ?_ | refine w_nT ?_ | refine w_nF ?_ | refine q_len_tup ?_ | refine q_int ?_ | refine q_intB ?_ | refine q_add ?_ | refine q_sub ?_ | refine q_neg ?_ | refine q_ord ?_ | refine q_ordS ?_ | refine q_tuple_tup ?_ | refine qEq_int ?_)))
    refine qEq_tup (dS_ev v.name) (dS_ev v2.name) fun b1 e1 => ?_
    rw [Bool.false_xor]
    (with_reducible (repeat (first | (first | refine w_var rfl ?_ | refine w_c ?_ | refine w_op ?_ | refine w_un ?_ | refine w_cl ?_ | refine w_nil ?_ | refine w_cons ?_ | refine w_tup ?_ | refine w_lst ?_ | refine w_test ?_ | refine w_not ?_ | refine w_and ?_ | refine w_or ?_ | refine w_andV ?_ | refine w_orV ?_ | refine w_notV ?_ | refine w_if ?_ | refine w_chn ?_ | refine w_call ?_ | refine w_make ?_ | refine w_fld ?_ | refine w_ml ?_ | refine w_ml0 ?_ | refine w_sl ?_ | refine w_slD ?_ | refine w_noPart ?_ | refine w_part ?_ | refine w_dictZ ?_ | refine w_lcA ?_ | refine w_ret ?_ | refine w_rt ?_ | refine w_ifS ?_ | refine w_next ?_ | refine w_break ?_ | refine w_cont ?_ | refine w_seq ?_ | refine w_asg ?_ | refine w_drop ?_ | refine w_par ?_ | refine w_sfld ?_ | refine w_asgT ?_ | refine w_gset ?_ | refine w_gname ?_ | refine w_gtup rfl ?_ | refine w_gcons ?_ | refine w_gnil ?_ | refine w_yes ?_) | refine w_bl ?_ | refine w_int ?_ | refine w_T ?_ | refine w_F ?_ | refine w_nT ?_ | refine w_nF ?_ | refine q_len_tup ?_ | refine q_int ?_ | refine q_intB ?_ | refine q_add ?_ | refine q_sub ?_ | refine q_neg ?_ | refine q_ord ?_ | refine q_ordS ?_ | refine q_tuple_tup ?_ | refine qEq_int ?_)))
    refine iteB (fun z => ?_) (fun z => ?_)
    · (with_reducible (repeat (first | (first | refine w_var rfl ?_ | refine w_c ?_ | refine w_op ?_ | refine w_un ?_ | refine w_cl ?_ | refine w_nil ?_ | refine w_cons ?_ | refine w_tup ?_ | refine w_lst ?_ | refine w_test ?_ | refine w_not ?_ | refine w_and ?_ | refine w_or ?_ | refine w_andV ?_ | refine w_orV ?_ | refine w_notV ?_ | refine w_if ?_ | refine w_chn ?_ | refine w_call ?_ | refine w_make ?_ | refine w_fld ?_ | refine w_ml ?_ | refine w_ml0 ?_ | refine w_sl ?_ | refine w_slD ?_ | refine w_noPart ?_ | refine w_part ?_ | refine w_dictZ ?_ | refine w_lcA ?_ | refine w_ret ?_ | refine w_rt ?_ | refine w_ifS ?_ | refine w_next ?_ | refine w_break ?_ | refine w_cont ?_ | refine w_seq ?_ | refine w_asg ?_ | refine w_drop ?_ | refine w_par ?_ | refine w_sfld ?_ | refine w_asgT ?_ | refine w_gset ?_ | refine w_gname ?_ | refine w_gtup rfl ?_ | refine w_gcons ?_ | refine w_gnil ?_ | refine w_yes ?_) | refine w_bl ?_ | refine w_int ?_ | refine w_T ?_ | refine w_F ?_ | refine w_nT ?_ | refine w_nF ?_ | refine q_len_tup ?_ | refine q_int ?_ | refine q_intB ?_ | refine q_add ?_ | refine q_sub ?_ | refine q_neg ?_ | refine q_ord ?_ | refine q_ordS ?_ | refine q_tuple_tup ?_ | refine qEq_int ?_)))
      refine ⟨p, _, _, rfl, hp, gFs_e, ?_⟩
      (with_reducible (repeat (first | (first | refine w_var rfl ?_ | refine w_c ?_ | refine w_op ?_ | refine w_un ?_ | refine w_cl ?_ | refine w_nil ?_ | refine w_cons ?_ | refine w_tup ?_ | refine w_lst ?_ | refine w_test ?_ | refine w_not ?_ | refine w_and ?_ | refine w_or ?_ | refine w_andV ?_ | refine w_orV ?_ | refine w_notV ?_ | refine w_if ?_ | refine w_chn ?_ | refine w_call ?_ | refine w_make ?_ | refine w_fld ?_ | refine w_ml ?_ | refine w_ml0 ?_ | refine w_sl ?_ | refine w_slD ?_ | refine w_noPart ?_ | refine w_part ?_ | refine w_dictZ ?_ | refine w_lcA ?_ | refine w_ret ?_ | refine w_rt ?_ | refine w_ifS ?_ | refine w_next ?_ | refine w_break ?_ | refine w_cont ?_ | refine w_seq ?_ | refine w_asg ?_ | refine w_drop ?_ | refine w_par ?_ | refine w_sfld ?_ | refine w_asgT ?_ | refine w_gset ?_ | refine w_gname ?_ | refine w_gtup rfl ?_ | refine w_gcons ?_ | refine w_gnil ?_ | refine w_yes ?_) | refine w_bl ?_ | refine w_int ?_ | refine w_T ?_ | refine w_F ?_ | refine w_nT ?_ | refine w_nF ?_ | refine q_len_tup ?_ | refine q_int ?_ | refine q_intB ?_ | refine q_add ?_ | refine q_sub ?_ | refine q_neg ?_ | refine q_ord ?_ | refine q_ordS ?_ | refine q_tuple_tup ?_ | refine qEq_int ?_)))
      refine ⟨q', _, _, rfl, hq, gFs_e, ?_⟩
      (with_reducible (repeat (first | (first | refine w_var rfl ?_ | refine w_c ?_ | refine w_op ?_ | refine w_un ?_ | refine w_cl ?_ | refine w_nil ?_ | refine w_cons ?_ | refine w_tup ?_ | refine w_lst ?_ | refine w_test ?_ | refine w_not ?_ | refine w_and ?_ | refine w_or ?_ | refine w_andV ?_ | refine w_orV ?_ | refine w_notV ?_ | refine w_if ?_ | refine w_chn ?_ | refine w_call ?_ | refine w_make ?_ | refine w_fld ?_ | refine w_ml ?_ | refine w_ml0 ?_ | refine w_sl ?_ | refine w_slD ?_ | refine w_noPart ?_ | refine w_part ?_ | refine w_dictZ ?_ | refine w_lcA ?_ | refine w_ret ?_ | refine w_rt ?_ | refine w_ifS ?_ | refine w_next ?_ | refine w_break ?_ | refine w_cont ?_ | refine w_seq ?_ | refine w_asg ?_ | refine w_drop ?_ | refine w_par ?_ | refine w_sfld ?_ | refine w_asgT ?_ | refine w_gset ?_ | refine w_gname ?_ | refine w_gtup rfl ?_ | refine w_gcons ?_ | refine w_gnil ?_ | refine w_yes ?_) | refine w_bl ?_ | refine w_int ?_ | refine w_T ?_ | refine w_F ?_ | refine w_nT ?_ | refine w_nF ?_ | refine q_len_tup ?_ | refine q_int ?_ | refine q_intB ?_ | refine q_add ?_ | refine q_sub ?_ | refine q_neg ?_ | refine q_ord ?_ | refine q_ordS ?_ | refine q_tuple_tup ?_ | refine qEq_int ?_)))
      refine qEq_tup (sortE_ev v h) (sortE_ev v2 h2) fun b2 e2 => ?_
      rw [Bool.false_xor]
      (with_reducible (repeat (first | (first | refine w_var rfl ?_ | refine w_c ?_ | refine w_op ?_ | refine w_un ?_ | refine w_cl ?_ | refine w_nil ?_ | refine w_cons ?_ | refine w_tup ?_ | refine w_lst ?_ | refine w_test ?_ | refine w_not ?_ | refine w_and ?_ | refine w_or ?_ | refine w_andV ?_ | refine w_orV ?_ | refine w_notV ?_ | refine w_if ?_ | refine w_chn ?_ | refine w_call ?_ | refine w_make ?_ | refine w_fld ?_ | refine w_ml ?_ | refine w_ml0 ?_ | refine w_sl ?_ | refine w_slD ?_ | refine w_noPart ?_ | refine w_part ?_ | refine w_dictZ ?_ | refine w_lcA ?_ | refine w_ret ?_ | refine w_rt ?_ | refine w_ifS ?_ | refine w_next ?_ | refine w_break ?_ | refine w_cont ?_ | refine w_seq ?_ | refine w_asg ?_ | refine w_drop ?_ | refine w_par ?_ | refine w_sfld ?_ | refine w_asgT ?_ | refine w_gset ?_ | refine w_gname ?_ | refine w_gtup rfl ?_ | refine w_gcons ?_ | refine w_gnil ?_ | refine w_yes ?_) | refine w_bl ?_ | refine w_int ?_ | refine w_T ?_ | refine w_F ?_ | refine w_nT ?_ | refine w_nF ?_ | refine q_len_tup ?_ | refine q_int ?_ | refine q_intB ?_ | refine q_add ?_ | refine q_sub ?_ | refine q_neg ?_ | refine q_ord ?_ | refine q_ordS ?_ | refine q_tuple_tup ?_ | refine qEq_int ?_)))
      have : b2 = b := by
        rw [Bool.eq_iff_iff, e2, hb, dEs_inj]
        have := dS_inj.mp (e1.mp z)
        exact ⟨fun e => ⟨this, e⟩, fun e => e.2⟩
      rw [this]
      exact q _ _ ⟨rfl, rfl⟩
    · have : b = false := by
        rw [← Bool.not_eq_true]
        intro hb'
        have := (hb.mp hb').1
        have := e1.mpr (dS_inj.mpr this)
        rw [z] at this; cases this
      rw [this] at q
      exact q _ _ ⟨rfl, rfl⟩
  · unfold t_Graph___eq__
    (with_reducible (repeat (first | (first | refine w_var rfl ?_ | refine w_c ?_ | refine w_op ?_ | refine w_un ?_ | refine w_cl ?_ | refine w_nil ?_ | refine w_cons ?_ | refine w_tup ?_ | refine w_lst ?_ | refine w_test ?_ | refine w_not ?_ | refine w_and ?_ | refine w_or ?_ | refine w_andV ?_ | refine w_orV ?_ | refine w_notV ?_ | refine w_if ?_ | refine w_chn ?_ | refine w_call ?_ | refine w_make ?_ | refine w_fld ?_ | refine w_ml ?_ | refine w_ml0 ?_ | refine w_sl ?_ | refine w_slD ?_ | refine w_noPart ?_ | refine w_part ?_ | refine w_dictZ ?_ | refine w_lcA ?_ | refine w_ret ?_ | refine w_rt ?_ | refine w_ifS ?_ | refine w_next ?_ | refine w_break ?_ | refine w_cont ?_ | refine w_seq ?_ | refine w_asg ?_ | refine w_drop ?_ | refine w_par ?_ | refine w_sfld ?_ | refine w_asgT ?_ | refine w_gset ?_ | refine w_gname ?_ | refine w_gtup rfl ?_ | refine w_gcons ?_ | refine w_gnil ?_ | refine w_yes ?_) | refine w_bl ?_ | refine w_int ?_ | refine w_T ?_ | refine w_F ?_ | refine w_nT ?_ | refine w_nF ?_ | refine q_len_tup ?_ | refine q_int ?_ | refine q_intB ?_ | refine q_add ?_ | refine q_sub ?_ | refine q_neg ?_ | refine q_ord ?_ | refine q_ordS ?_ | refine q_tuple_tup ?_ | refine qEq_int ?_)))
    refine ⟨_, _, _, _, false, rfl, .own _, ty, gf.other hn, ?_⟩
    (with_reducible (repeat (first | (first | refine w_var rfl ?_ | refine w_c ?_ | refine w_op ?_ | refine w_un ?_ | refine w_cl ?_ | refine w_nil ?_ | refine w_cons ?_ | refine w_tup ?_ | refine w_lst ?_ | refine w_test ?_ | refine w_not ?_ | refine w_and ?_ | refine w_or ?_ | refine w_andV ?_ | refine w_orV ?_ | refine w_notV ?_ | refine w_if ?_ | refine w_chn ?_ | refine w_call ?_ | refine w_make ?_ | refine w_fld ?_ | refine w_ml ?_ | refine w_ml0 ?_ | refine w_sl ?_ | refine w_slD ?_ | refine w_noPart ?_ | refine w_part ?_ | refine w_dictZ ?_ | refine w_lcA ?_ | refine w_ret ?_ | refine w_rt ?_ | refine w_ifS ?_ | refine w_next ?_ | refine w_break ?_ | refine w_cont ?_ | refine w_seq ?_ | refine w_asg ?_ | refine w_drop ?_ | refine w_par ?_ | refine w_sfld ?_ | refine w_asgT ?_ | refine w_gset ?_ | refine w_gname ?_ | refine w_gtup rfl ?_ | refine w_gcons ?_ | refine w_gnil ?_ | refine w_yes ?_) | refine w_bl ?_ | refine w_int ?_ | refine w_T ?_ | refine w_F ?_ | refine w_nT ?_ | refine w_nF ?_ | refine q_len_tup ?_ | refine q_int ?_ | refine q_intB ?_ | refine q_add ?_ | refine q_sub ?_ | refine q_neg ?_ | refine q_ord ?_ | refine q_ordS ?_ | refine q_tuple_tup ?_ | refine qEq_int ?_)))
    exact q _ _ ⟨rfl, rfl⟩

end M

set_option Elab.async false
set_option linter.all false
set_option maxRecDepth 100000
set_option maxHeartbeats 4000000
/-! P7: the source of a script's choices; nested heaps. -/
namespace J
open PySem PySem.Spec L2 S
theorem up_none {G : Hq} {a p : Addr} {o : Ob} : up G a o p = none ↔ p ≠ a ∧ G p = none := by
  unfold up
  by_cases h : p = a
  · simp [h]
  · simp [h]
theorem up_comm {G : Hq} {a b : Addr} {x y : Ob} (h : a ≠ b) : up (up G a x) b y = up (up G b y) a x := by
  funext c; unfold up
  by_cases h1 : c = b
  · subst h1; rw [if_pos rfl, if_neg (Ne.symm h), if_pos rfl]
  · rw [if_neg h1]
    by_cases h2 : c = a
    · rw [if_pos h2, if_pos h2]
    · rw [if_neg h2, if_neg h2, if_neg h1]


end J
namespace M
open PySem PySem.Spec L2 S J
/-- the list that a script's choices come from -/
def so (a b d : Int) : Ob := .lst [.int a, .int b, .int d]
theorem so_ix0 {G : Hq} {s : Addr} {a b d : Int} {Q : KQ} (h : G s = some (so a b d)) (q : Q (.int a) G) : qIx2 (.ad s) (.int 0) G Q := q_ix_ad h (at_nat (i := 0) rfl) q
theorem so_ix1 {G : Hq} {s : Addr} {a b d : Int} {Q : KQ} (h : G s = some (so a b d)) (q : Q (.int b) G) : qIx2 (.ad s) (.int 1) G Q := q_ix_ad h (at_nat (i := 1) rfl) q
theorem so_ix2 {G : Hq} {s : Addr} {a b d : Int} {Q : KQ} (h : G s = some (so a b d)) (q : Q (.int d) G) : qIx2 (.ad s) (.int 2) G Q := q_ix_ad h (at_nat (i := 2) rfl) q
theorem so_set0 {G : Hq} {s : Addr} {a b d w : Int} {Q : Hq → Prop} (h : G s = some (so a b d)) (q : Q (up G s (so w b d))) : qSet2 (.ad s) (.int 0) (.int w) G Q := .inl ⟨s, _, 0, 0, rfl, rfl, h, rfl, q⟩
theorem so_set2 {G : Hq} {s : Addr} {a b d w : Int} {Q : Hq → Prop} (h : G s = some (so a b d)) (q : Q (up G s (so a b w))) : qSet2 (.ad s) (.int 2) (.int w) G Q := .inl ⟨s, _, 2, 2, rfl, rfl, h, rfl, q⟩
theorem cm {i j : Int} (h : -(2 ^ 64) < i ∧ i < 2 ^ 64) : CM i j := .inl (.inl h)
theorem cd {i j : Int} (h : 0 < j) (k : j.natAbs.log2 < 9000) : CDivW i j := ⟨h, k⟩
theorem cdn {i : Int} {n : Nat} (h : 0 < n) (k : n < 2 ^ 60) : CDivW i (n : Int) := ⟨by omega, by
  have : ((n : Int)).natAbs = n := by omega
  rw [this]
  exact Nat.lt_of_le_of_lt (Nat.le_of_lt_succ (Nat.lt_succ_of_lt ((Nat.log2_lt (by omega)).mpr k))) (by decide)⟩
theorem emodN {x : Int} {n : Nat} (h : 0 < n) : ∃ r : Nat, x % (n : Int) = (r : Int) ∧ r < n := by
  have h1 := Int.emod_nonneg x (show (n : Int) ≠ 0 by omega)
  have h2 := Int.emod_lt_of_pos x (show (0 : Int) < n by omega)
  exact ⟨(x % n).toNat, by omega, by omega⟩
end M
namespace J
open PySem PySem.Spec L2 S
theorem up_self {G : Hq} {a : Addr} {o : Ob} (h : G a = some o) : up G a o = G := by
  funext b; unfold up
  by_cases z : b = a
  · rw [if_pos z, z, h]
  · rw [if_neg z]
theorem q_list_row {x : Dv} {xs : List Dv} {G : Hq} {Q : KQ} (r : rowOf x G xs) (q : qNew (.lst xs) G Q) : qList2 [x] G Q := by
  refine .inl ?_
  rcases r with ⟨p, rfl, h⟩ | rfl | rfl
  · exact ⟨xs, h, q⟩
  · exact q
  · exact q
theorem q_popAt {G : Hq} {p : Addr} {xs : List Dv} {r : Nat} {Q : KQ} (h : G p = some (.lst xs)) (hr : r < xs.length) (hz : xs.length < 2 ^ 60) (q : Q xs[r] (up G p (.lst (xs.eraseIdx r)))) : qPopAt (.ad p) [.int r] G Q := by
  refine ⟨p, xs, r, r, xs[r], rfl, rfl, h, by omega, by omega, ?_, List.getElem?_eq_getElem hr, q⟩
  have := seqIndex_of (show (0 : Int) ≤ (r : Int) by omega) (show (r : Int) < (xs.length : Int) by omega)
  rw [this]; simp
theorem q_append {G : Hq} {p : Addr} {xs : List Dv} {y : Dv} {Q : KQ} (h : G p = some (.lst xs)) (hl : xs.length < sizeLine) (q : Q .non (up G p (.lst (xs ++ [y])))) : qAppend (.ad p) [y] G Q := ⟨p, xs, y, rfl, rfl, h, hl, q⟩
theorem q_extend {G : Hq} {p b : Addr} {xs ys : List Dv} {Q : KQ} (h : G p = some (.lst xs)) (hb : G b = some (.lst ys)) (hl : xs.length + ys.length ≤ sizeLine) (q : Q .non (up G p (.lst (xs ++ ys)))) : qExtend (.ad p) [.ad b] G Q := ⟨p, b, xs, ys, rfl, rfl, h, hb, hl, q⟩
end J
theorem J.erase_perm {α : Type} {l : List α} {i : Nat} (h : i < l.length) : (l[i] :: l.eraseIdx i).Perm l := by
  rw [List.eraseIdx_eq_take_drop_succ]
  have e : l = l.take i ++ l[i] :: l.drop (i + 1) := by
    rw [← List.drop_eq_getElem_cons h, List.take_append_drop]
  refine List.Perm.trans List.perm_middle.symm ?_
  rw [← e]

set_option Elab.async false
set_option linter.all false
set_option maxRecDepth 100000
set_option maxHeartbeats 4000000
namespace M
open PySem PySem.Spec L2 S J
/-! ### L_next -/
abbrev N_L_next : List Str := ["_law_source", "_law_many", "_law_prime", "_law_number", "_law_found"]
def t_L_next_1 (K : PySem.W.Frag) (c : Ad) : JSt := (jRet (jVar 4))
def t_L_next_2 (K : PySem.W.Frag) (c : Ad) : JSt := (jSeq (jAsg (jOp qFdiv (jOp qIx2 (jVar 0) (jC (.int 0))) (jVar 1)) (jgSet (jVar 0) (jC (.int 0)))) (t_L_next_1 K c))
def t_L_next_3 (K : PySem.W.Frag) (c : Ad) : JSt := (jRet (jOp qMod (jCl qInt (jCons (jOp qFdiv (jVar 3) (jC (.int 7))) jNil)) (jVar 1)))
def t_L_next_4 (K : PySem.W.Frag) (c : Ad) : JSt := (jSeq (jAsg (jOp qMod (jCl qInt (jCons (jOp qMul (jVar 3) (jOp qAdd (jOp qFdiv (jVar 3) (jC (.int 2003))) (jC (.int 40692)))) jNil)) (jC (.int 2147483399))) (jgName 3)) (t_L_next_3 K c))
def t_L_next_5 (K : PySem.W.Frag) (c : Ad) : JSt := (jSeq (jAsg (jOp qMod (jCl qInt (jCons (jOp qMul (jVar 3) (jOp qAdd (jOp qFdiv (jVar 3) (jC (.int 1009))) (jC (.int 69621)))) jNil)) (jVar 2)) (jgName 3)) (t_L_next_4 K c))
def t_L_next_6 (K : PySem.W.Frag) (c : Ad) : JSt := (jSeq (jAsg (jOp qMod (jCl qInt (jCons (jOp qMul (jVar 3) (jC (.int 48271))) jNil)) (jVar 2)) (jgName 3)) (t_L_next_5 K c))
def t_L_next_7 (K : PySem.W.Frag) (c : Ad) : JSt := (jSeq (jAsg (jOp qMod (jCl qInt (jCons (jOp qAdd (jOp qAdd (jOp qIx2 (jVar 0) (jC (.int 1))) (jOp qMul (jC (.int 104729)) (jOp qIx2 (jVar 0) (jC (.int 2))))) (jC (.int 7919))) jNil)) (jVar 2)) (jgName 3)) (t_L_next_6 K c))
def t_L_next_8 (K : PySem.W.Frag) (c : Ad) : JSt := (jSeq (jAsg (jC (.int 2147483647)) (jgName 2)) (t_L_next_7 K c))
def t_L_next_9 (K : PySem.W.Frag) (c : Ad) : JSt := (jSeq (jAsg (jOp qAdd (jOp qIx2 (jVar 0) (jC (.int 2))) (jC (.int 1))) (jgSet (jVar 0) (jC (.int 2)))) (t_L_next_8 K c))
def t_L_next (K : PySem.W.Frag) (c : Ad) : JSt := (jSeq (jIfS (jTest (jOp qGt (jOp qIx2 (jVar 0) (jC (.int 0))) (jC (.int 0)))) (jSeq (jAsg (jOp qMod (jCl qInt (jCons (jOp qIx2 (jVar 0) (jC (.int 0))) jNil)) (jVar 1)) (jgName 4)) (t_L_next_2 K c)) jNext) (t_L_next_9 K c))
/-- a choice among n: some number below n, the source goes on -/
def sp_L_next (K : PySem.W.Frag) (c : Ad) : Sq := spA fun ws G po => ∃ s a b d, ∃ n : Nat, ws = [.ad s, .int n] ∧ G s = some (so a b d) ∧ 0 < n ∧ n < 2 ^ 60 ∧ po = fun v G1 => ∃ r : Nat, ∃ a b d, v = .int r ∧ r < n ∧ G1 = up G s (so a b d)
theorem mono_L_next {K : PySem.W.Frag} {c : Ad} : MonoSq (sp_L_next K c) := spA.mono
theorem len_L_next {K : PySem.W.Frag} {c : Ad} : ∀ ws G Q E, sp_L_next K c ws G Q E → ws.length = (["_law_source", "_law_many"] : List Str).length := by
  rintro _ _ _ _ ⟨_, ⟨_, _, _, _, _, rfl, _⟩, _⟩; rfl
theorem pure_L_next {K : PySem.W.Frag} {c : Ad} : ∀ ws G Q E, Up Q → UpX E → sp_L_next K c ws G Q E → t_L_next K c (fun c f _ G => E c f G) { nx := fun _ G => Q .non G, rt := Q } (startT N_L_next ws) G := by
  rintro _ G Q E hU _ ⟨_, ⟨s, a, b, d, n, rfl, hs, hn, hn2, rfl⟩, q⟩
  have hn' : (0 : Int) < n := by omega
  unfold t_L_next
  (with_reducible (repeat (first | (first | refine w_var rfl ?_ | refine w_c ?_ | refine w_op ?_ | refine w_un ?_ | refine w_cl ?_ | refine w_nil ?_ | refine w_cons ?_ | refine w_tup ?_ | refine w_lst ?_ | refine w_test ?_ | refine w_not ?_ | refine w_and ?_ | refine w_or ?_ | refine w_andV ?_ | refine w_orV ?_ | refine w_notV ?_ | refine w_if ?_ | refine w_chn ?_ | refine w_call ?_ | refine w_make ?_ | refine w_fld ?_ | refine w_ml ?_ | refine w_ml0 ?_ | refine w_sl ?_ | refine w_slD ?_ | refine w_noPart ?_ | refine w_part ?_ | refine w_dictZ ?_ | refine w_lcA ?_ | refine w_ret ?_ | refine w_rt ?_ | refine w_ifS ?_ | refine w_next ?_ | refine w_break ?_ | refine w_cont ?_ | refine w_seq ?_ | refine w_asg ?_ | refine w_drop ?_ | refine w_par ?_ | refine w_sfld ?_ | refine w_asgT ?_ | refine w_gset ?_ | refine w_gname ?_ | refine w_gtup rfl ?_ | refine w_gcons ?_ | refine w_gnil ?_ | refine w_yes ?_) | refine w_bl ?_ | refine w_int ?_ | refine w_T ?_ | refine w_F ?_ | refine w_nT ?_ | refine w_nF ?_ | refine q_len_tup ?_ | refine q_int ?_ | refine q_intB ?_ | refine q_add ?_ | refine q_sub ?_ | refine q_neg ?_ | refine q_ord ?_ | refine q_ordS ?_ | refine q_tuple_tup ?_ | refine qEq_int ?_)))
  refine so_ix0 hs ?_
  (with_reducible (repeat (first | (first | refine w_var rfl ?_ | refine w_c ?_ | refine w_op ?_ | refine w_un ?_ | refine w_cl ?_ | refine w_nil ?_ | refine w_cons ?_ | refine w_tup ?_ | refine w_lst ?_ | refine w_test ?_ | refine w_not ?_ | refine w_and ?_ | refine w_or ?_ | refine w_andV ?_ | refine w_orV ?_ | refine w_notV ?_ | refine w_if ?_ | refine w_chn ?_ | refine w_call ?_ | refine w_make ?_ | refine w_fld ?_ | refine w_ml ?_ | refine w_ml0 ?_ | refine w_sl ?_ | refine w_slD ?_ | refine w_noPart ?_ | refine w_part ?_ | refine w_dictZ ?_ | refine w_lcA ?_ | refine w_ret ?_ | refine w_rt ?_ | refine w_ifS ?_ | refine w_next ?_ | refine w_break ?_ | refine w_cont ?_ | refine w_seq ?_ | refine w_asg ?_ | refine w_drop ?_ | refine w_par ?_ | refine w_sfld ?_ | refine w_asgT ?_ | refine w_gset ?_ | refine w_gname ?_ | refine w_gtup rfl ?_ | refine w_gcons ?_ | refine w_gnil ?_ | refine w_yes ?_) | refine w_bl ?_ | refine w_int ?_ | refine w_T ?_ | refine w_F ?_ | refine w_nT ?_ | refine w_nF ?_ | refine q_len_tup ?_ | refine q_int ?_ | refine q_intB ?_ | refine q_add ?_ | refine q_sub ?_ | refine q_neg ?_ | refine q_ord ?_ | refine q_ordS ?_ | refine q_tuple_tup ?_ | refine qEq_int ?_)))
  refine iteB (fun z => ?_) (fun z => ?_)
  · (with_reducible (repeat (first | (first | refine w_var rfl ?_ | refine w_c ?_ | refine w_op ?_ | refine w_un ?_ | refine w_cl ?_ | refine w_nil ?_ | refine w_cons ?_ | refine w_tup ?_ | refine w_lst ?_ | refine w_test ?_ | refine w_not ?_ | refine w_and ?_ | refine w_or ?_ | refine w_andV ?_ | refine w_orV ?_ | refine w_notV ?_ | refine w_if ?_ | refine w_chn ?_ | refine w_call ?_ | refine w_make ?_ | refine w_fld ?_ | refine w_ml ?_ | refine w_ml0 ?_ | refine w_sl ?_ | refine w_slD ?_ | refine w_noPart ?_ | refine w_part ?_ | refine w_dictZ ?_ | refine w_lcA ?_ | refine w_ret ?_ | refine w_rt ?_ | refine w_ifS ?_ | refine w_next ?_ | refine w_break ?_ | refine w_cont ?_ | refine w_seq ?_ | refine w_asg ?_ | refine w_drop ?_ | refine w_par ?_ | refine w_sfld ?_ | refine w_asgT ?_ | refine w_gset ?_ | refine w_gname ?_ | refine w_gtup rfl ?_ | refine w_gcons ?_ | refine w_gnil ?_ | refine w_yes ?_) | refine w_bl ?_ | refine w_int ?_ | refine w_T ?_ | refine w_F ?_ | refine w_nT ?_ | refine w_nF ?_ | refine q_len_tup ?_ | refine q_int ?_ | refine q_intB ?_ | refine q_add ?_ | refine q_sub ?_ | refine q_neg ?_ | refine q_ord ?_ | refine q_ordS ?_ | refine q_tuple_tup ?_ | refine qEq_int ?_)))
    refine so_ix0 hs ?_
    (with_reducible (repeat (first | (first | refine w_var rfl ?_ | refine w_c ?_ | refine w_op ?_ | refine w_un ?_ | refine w_cl ?_ | refine w_nil ?_ | refine w_cons ?_ | refine w_tup ?_ | refine w_lst ?_ | refine w_test ?_ | refine w_not ?_ | refine w_and ?_ | refine w_or ?_ | refine w_andV ?_ | refine w_orV ?_ | refine w_notV ?_ | refine w_if ?_ | refine w_chn ?_ | refine w_call ?_ | refine w_make ?_ | refine w_fld ?_ | refine w_ml ?_ | refine w_ml0 ?_ | refine w_sl ?_ | refine w_slD ?_ | refine w_noPart ?_ | refine w_part ?_ | refine w_dictZ ?_ | refine w_lcA ?_ | refine w_ret ?_ | refine w_rt ?_ | refine w_ifS ?_ | refine w_next ?_ | refine w_break ?_ | refine w_cont ?_ | refine w_seq ?_ | refine w_asg ?_ | refine w_drop ?_ | refine w_par ?_ | refine w_sfld ?_ | refine w_asgT ?_ | refine w_gset ?_ | refine w_gname ?_ | refine w_gtup rfl ?_ | refine w_gcons ?_ | refine w_gnil ?_ | refine w_yes ?_) | refine w_bl ?_ | refine w_int ?_ | refine w_T ?_ | refine w_F ?_ | refine w_nT ?_ | refine w_nF ?_ | refine q_len_tup ?_ | refine q_int ?_ | refine q_intB ?_ | refine q_add ?_ | refine q_sub ?_ | refine q_neg ?_ | refine q_ord ?_ | refine q_ordS ?_ | refine q_tuple_tup ?_ | refine qEq_int ?_)))
    refine q_I hn' ?_
    (with_reducible (repeat (first | (first | refine w_var rfl ?_ | refine w_c ?_ | refine w_op ?_ | refine w_un ?_ | refine w_cl ?_ | refine w_nil ?_ | refine w_cons ?_ | refine w_tup ?_ | refine w_lst ?_ | refine w_test ?_ | refine w_not ?_ | refine w_and ?_ | refine w_or ?_ | refine w_andV ?_ | refine w_orV ?_ | refine w_notV ?_ | refine w_if ?_ | refine w_chn ?_ | refine w_call ?_ | refine w_make ?_ | refine w_fld ?_ | refine w_ml ?_ | refine w_ml0 ?_ | refine w_sl ?_ | refine w_slD ?_ | refine w_noPart ?_ | refine w_part ?_ | refine w_dictZ ?_ | refine w_lcA ?_ | refine w_ret ?_ | refine w_rt ?_ | refine w_ifS ?_ | refine w_next ?_ | refine w_break ?_ | refine w_cont ?_ | refine w_seq ?_ | refine w_asg ?_ | refine w_drop ?_ | refine w_par ?_ | refine w_sfld ?_ | refine w_asgT ?_ | refine w_gset ?_ | refine w_gname ?_ | refine w_gtup rfl ?_ | refine w_gcons ?_ | refine w_gnil ?_ | refine w_yes ?_) | refine w_bl ?_ | refine w_int ?_ | refine w_T ?_ | refine w_F ?_ | refine w_nT ?_ | refine w_nF ?_ | refine q_len_tup ?_ | refine q_int ?_ | refine q_intB ?_ | refine q_add ?_ | refine q_sub ?_ | refine q_neg ?_ | refine q_ord ?_ | refine q_ordS ?_ | refine q_tuple_tup ?_ | refine qEq_int ?_)))
    unfold t_L_next_2
    (with_reducible (repeat (first | (first | refine w_var rfl ?_ | refine w_c ?_ | refine w_op ?_ | refine w_un ?_ | refine w_cl ?_ | refine w_nil ?_ | refine w_cons ?_ | refine w_tup ?_ | refine w_lst ?_ | refine w_test ?_ | refine w_not ?_ | refine w_and ?_ | refine w_or ?_ | refine w_andV ?_ | refine w_orV ?_ | refine w_notV ?_ | refine w_if ?_ | refine w_chn ?_ | refine w_call ?_ | refine w_make ?_ | refine w_fld ?_ | refine w_ml ?_ | refine w_ml0 ?_ | refine w_sl ?_ | refine w_slD ?_ | refine w_noPart ?_ | refine w_part ?_ | refine w_dictZ ?_ | refine w_lcA ?_ | refine w_ret ?_ | refine w_rt ?_ | refine w_ifS ?_ | refine w_next ?_ | refine w_break ?_ | refine w_cont ?_ | refine w_seq ?_ | refine w_asg ?_ | refine w_drop ?_ | refine w_par ?_ | refine w_sfld ?_ | refine w_asgT ?_ | refine w_gset ?_ | refine w_gname ?_ | refine w_gtup rfl ?_ | refine w_gcons ?_ | refine w_gnil ?_ | refine w_yes ?_) | refine w_bl ?_ | refine w_int ?_ | refine w_T ?_ | refine w_F ?_ | refine w_nT ?_ | refine w_nF ?_ | refine q_len_tup ?_ | refine q_int ?_ | refine q_intB ?_ | refine q_add ?_ | refine q_sub ?_ | refine q_neg ?_ | refine q_ord ?_ | refine q_ordS ?_ | refine q_tuple_tup ?_ | refine qEq_int ?_)))
    refine so_ix0 hs ?_
    (with_reducible (repeat (first | (first | refine w_var rfl ?_ | refine w_c ?_ | refine w_op ?_ | refine w_un ?_ | refine w_cl ?_ | refine w_nil ?_ | refine w_cons ?_ | refine w_tup ?_ | refine w_lst ?_ | refine w_test ?_ | refine w_not ?_ | refine w_and ?_ | refine w_or ?_ | refine w_andV ?_ | refine w_orV ?_ | refine w_notV ?_ | refine w_if ?_ | refine w_chn ?_ | refine w_call ?_ | refine w_make ?_ | refine w_fld ?_ | refine w_ml ?_ | refine w_ml0 ?_ | refine w_sl ?_ | refine w_slD ?_ | refine w_noPart ?_ | refine w_part ?_ | refine w_dictZ ?_ | refine w_lcA ?_ | refine w_ret ?_ | refine w_rt ?_ | refine w_ifS ?_ | refine w_next ?_ | refine w_break ?_ | refine w_cont ?_ | refine w_seq ?_ | refine w_asg ?_ | refine w_drop ?_ | refine w_par ?_ | refine w_sfld ?_ | refine w_asgT ?_ | refine w_gset ?_ | refine w_gname ?_ | refine w_gtup rfl ?_ | refine w_gcons ?_ | refine w_gnil ?_ | refine w_yes ?_) | refine w_bl ?_ | refine w_int ?_ | refine w_T ?_ | refine w_F ?_ | refine w_nT ?_ | refine w_nF ?_ | refine q_len_tup ?_ | refine q_int ?_ | refine q_intB ?_ | refine q_add ?_ | refine q_sub ?_ | refine q_neg ?_ | refine q_ord ?_ | refine q_ordS ?_ | refine q_tuple_tup ?_ | refine qEq_int ?_)))
    refine q_I (cdn hn hn2) ?_
    (with_reducible (repeat (first | (first | refine w_var rfl ?_ | refine w_c ?_ | refine w_op ?_ | refine w_un ?_ | refine w_cl ?_ | refine w_nil ?_ | refine w_cons ?_ | refine w_tup ?_ | refine w_lst ?_ | refine w_test ?_ | refine w_not ?_ | refine w_and ?_ | refine w_or ?_ | refine w_andV ?_ | refine w_orV ?_ | refine w_notV ?_ | refine w_if ?_ | refine w_chn ?_ | refine w_call ?_ | refine w_make ?_ | refine w_fld ?_ | refine w_ml ?_ | refine w_ml0 ?_ | refine w_sl ?_ | refine w_slD ?_ | refine w_noPart ?_ | refine w_part ?_ | refine w_dictZ ?_ | refine w_lcA ?_ | refine w_ret ?_ | refine w_rt ?_ | refine w_ifS ?_ | refine w_next ?_ | refine w_break ?_ | refine w_cont ?_ | refine w_seq ?_ | refine w_asg ?_ | refine w_drop ?_ | refine w_par ?_ | refine w_sfld ?_ | refine w_asgT ?_ | refine w_gset ?_ | refine w_gname ?_ | refine w_gtup rfl ?_ | refine w_gcons ?_ | refine w_gnil ?_ | refine w_yes ?_) | refine w_bl ?_ | refine w_int ?_ | refine w_T ?_ | refine w_F ?_ | refine w_nT ?_ | refine w_nF ?_ | refine q_len_tup ?_ | refine q_int ?_ | refine q_intB ?_ | refine q_add ?_ | refine q_sub ?_ | refine q_neg ?_ | refine q_ord ?_ | refine q_ordS ?_ | refine q_tuple_tup ?_ | refine qEq_int ?_)))
    refine so_set0 hs ?_
    unfold t_L_next_1
    (with_reducible (repeat (first | (first | refine w_var rfl ?_ | refine w_c ?_ | refine w_op ?_ | refine w_un ?_ | refine w_cl ?_ | refine w_nil ?_ | refine w_cons ?_ | refine w_tup ?_ | refine w_lst ?_ | refine w_test ?_ | refine w_not ?_ | refine w_and ?_ | refine w_or ?_ | refine w_andV ?_ | refine w_orV ?_ | refine w_notV ?_ | refine w_if ?_ | refine w_chn ?_ | refine w_call ?_ | refine w_make ?_ | refine w_fld ?_ | refine w_ml ?_ | refine w_ml0 ?_ | refine w_sl ?_ | refine w_slD ?_ | refine w_noPart ?_ | refine w_part ?_ | refine w_dictZ ?_ | refine w_lcA ?_ | refine w_ret ?_ | refine w_rt ?_ | refine w_ifS ?_ | refine w_next ?_ | refine w_break ?_ | refine w_cont ?_ | refine w_seq ?_ | refine w_asg ?_ | refine w_drop ?_ | refine w_par ?_ | refine w_sfld ?_ | refine w_asgT ?_ | refine w_gset ?_ | refine w_gname ?_ | refine w_gtup rfl ?_ | refine w_gcons ?_ | refine w_gnil ?_ | refine w_yes ?_) | refine w_bl ?_ | refine w_int ?_ | refine w_T ?_ | refine w_F ?_ | refine w_nT ?_ | refine w_nF ?_ | refine q_len_tup ?_ | refine q_int ?_ | refine q_intB ?_ | refine q_add ?_ | refine q_sub ?_ | refine q_neg ?_ | refine q_ord ?_ | refine q_ordS ?_ | refine q_tuple_tup ?_ | refine qEq_int ?_)))
    obtain ⟨r, e, hr⟩ := emodN (x := a) hn
    rw [e]
    exact q _ _ ⟨r, _, _, _, rfl, hr, rfl⟩
  · (with_reducible (repeat (first | (first | refine w_var rfl ?_ | refine w_c ?_ | refine w_op ?_ | refine w_un ?_ | refine w_cl ?_ | refine w_nil ?_ | refine w_cons ?_ | refine w_tup ?_ | refine w_lst ?_ | refine w_test ?_ | refine w_not ?_ | refine w_and ?_ | refine w_or ?_ | refine w_andV ?_ | refine w_orV ?_ | refine w_notV ?_ | refine w_if ?_ | refine w_chn ?_ | refine w_call ?_ | refine w_make ?_ | refine w_fld ?_ | refine w_ml ?_ | refine w_ml0 ?_ | refine w_sl ?_ | refine w_slD ?_ | refine w_noPart ?_ | refine w_part ?_ | refine w_dictZ ?_ | refine w_lcA ?_ | refine w_ret ?_ | refine w_rt ?_ | refine w_ifS ?_ | refine w_next ?_ | refine w_break ?_ | refine w_cont ?_ | refine w_seq ?_ | refine w_asg ?_ | refine w_drop ?_ | refine w_par ?_ | refine w_sfld ?_ | refine w_asgT ?_ | refine w_gset ?_ | refine w_gname ?_ | refine w_gtup rfl ?_ | refine w_gcons ?_ | refine w_gnil ?_ | refine w_yes ?_) | refine w_bl ?_ | refine w_int ?_ | refine w_T ?_ | refine w_F ?_ | refine w_nT ?_ | refine w_nF ?_ | refine q_len_tup ?_ | refine q_int ?_ | refine q_intB ?_ | refine q_add ?_ | refine q_sub ?_ | refine q_neg ?_ | refine q_ord ?_ | refine q_ordS ?_ | refine q_tuple_tup ?_ | refine qEq_int ?_)))
    unfold t_L_next_9
    (with_reducible (repeat (first | (first | refine w_var rfl ?_ | refine w_c ?_ | refine w_op ?_ | refine w_un ?_ | refine w_cl ?_ | refine w_nil ?_ | refine w_cons ?_ | refine w_tup ?_ | refine w_lst ?_ | refine w_test ?_ | refine w_not ?_ | refine w_and ?_ | refine w_or ?_ | refine w_andV ?_ | refine w_orV ?_ | refine w_notV ?_ | refine w_if ?_ | refine w_chn ?_ | refine w_call ?_ | refine w_make ?_ | refine w_fld ?_ | refine w_ml ?_ | refine w_ml0 ?_ | refine w_sl ?_ | refine w_slD ?_ | refine w_noPart ?_ | refine w_part ?_ | refine w_dictZ ?_ | refine w_lcA ?_ | refine w_ret ?_ | refine w_rt ?_ | refine w_ifS ?_ | refine w_next ?_ | refine w_break ?_ | refine w_cont ?_ | refine w_seq ?_ | refine w_asg ?_ | refine w_drop ?_ | refine w_par ?_ | refine w_sfld ?_ | refine w_asgT ?_ | refine w_gset ?_ | refine w_gname ?_ | refine w_gtup rfl ?_ | refine w_gcons ?_ | refine w_gnil ?_ | refine w_yes ?_) | refine w_bl ?_ | refine w_int ?_ | refine w_T ?_ | refine w_F ?_ | refine w_nT ?_ | refine w_nF ?_ | refine q_len_tup ?_ | refine q_int ?_ | refine q_intB ?_ | refine q_add ?_ | refine q_sub ?_ | refine q_neg ?_ | refine q_ord ?_ | refine q_ordS ?_ | refine q_tuple_tup ?_ | refine qEq_int ?_)))
    refine so_ix2 hs ?_
    (with_reducible (repeat (first | (first | refine w_var rfl ?_ | refine w_c ?_ | refine w_op ?_ | refine w_un ?_ | refine w_cl ?_ | refine w_nil ?_ | refine w_cons ?_ | refine w_tup ?_ | refine w_lst ?_ | refine w_test ?_ | refine w_not ?_ | refine w_and ?_ | refine w_or ?_ | refine w_andV ?_ | refine w_orV ?_ | refine w_notV ?_ | refine w_if ?_ | refine w_chn ?_ | refine w_call ?_ | refine w_make ?_ | refine w_fld ?_ | refine w_ml ?_ | refine w_ml0 ?_ | refine w_sl ?_ | refine w_slD ?_ | refine w_noPart ?_ | refine w_part ?_ | refine w_dictZ ?_ | refine w_lcA ?_ | refine w_ret ?_ | refine w_rt ?_ | refine w_ifS ?_ | refine w_next ?_ | refine w_break ?_ | refine w_cont ?_ | refine w_seq ?_ | refine w_asg ?_ | refine w_drop ?_ | refine w_par ?_ | refine w_sfld ?_ | refine w_asgT ?_ | refine w_gset ?_ | refine w_gname ?_ | refine w_gtup rfl ?_ | refine w_gcons ?_ | refine w_gnil ?_ | refine w_yes ?_) | refine w_bl ?_ | refine w_int ?_ | refine w_T ?_ | refine w_F ?_ | refine w_nT ?_ | refine w_nF ?_ | refine q_len_tup ?_ | refine q_int ?_ | refine q_intB ?_ | refine q_add ?_ | refine q_sub ?_ | refine q_neg ?_ | refine q_ord ?_ | refine q_ordS ?_ | refine q_tuple_tup ?_ | refine qEq_int ?_)))
    refine so_set2 hs ?_
    have hs2 : up G s (so a b (d + 1)) s = some (so a b (d + 1)) := up_same
    unfold t_L_next_8
    (with_reducible (repeat (first | (first | refine w_var rfl ?_ | refine w_c ?_ | refine w_op ?_ | refine w_un ?_ | refine w_cl ?_ | refine w_nil ?_ | refine w_cons ?_ | refine w_tup ?_ | refine w_lst ?_ | refine w_test ?_ | refine w_not ?_ | refine w_and ?_ | refine w_or ?_ | refine w_andV ?_ | refine w_orV ?_ | refine w_notV ?_ | refine w_if ?_ | refine w_chn ?_ | refine w_call ?_ | refine w_make ?_ | refine w_fld ?_ | refine w_ml ?_ | refine w_ml0 ?_ | refine w_sl ?_ | refine w_slD ?_ | refine w_noPart ?_ | refine w_part ?_ | refine w_dictZ ?_ | refine w_lcA ?_ | refine w_ret ?_ | refine w_rt ?_ | refine w_ifS ?_ | refine w_next ?_ | refine w_break ?_ | refine w_cont ?_ | refine w_seq ?_ | refine w_asg ?_ | refine w_drop ?_ | refine w_par ?_ | refine w_sfld ?_ | refine w_asgT ?_ | refine w_gset ?_ | refine w_gname ?_ | refine w_gtup rfl ?_ | refine w_gcons ?_ | refine w_gnil ?_ | refine w_yes ?_) | refine w_bl ?_ | refine w_int ?_ | refine w_T ?_ | refine w_F ?_ | refine w_nT ?_ | refine w_nF ?_ | refine q_len_tup ?_ | refine q_int ?_ | refine q_intB ?_ | refine q_add ?_ | refine q_sub ?_ | refine q_neg ?_ | refine q_ord ?_ | refine q_ordS ?_ | refine q_tuple_tup ?_ | refine qEq_int ?_)))
    unfold t_L_next_7
    (with_reducible (repeat (first | (first | refine w_var rfl ?_ | refine w_c ?_ | refine w_op ?_ | refine w_un ?_ | refine w_cl ?_ | refine w_nil ?_ | refine w_cons ?_ | refine w_tup ?_ | refine w_lst ?_ | refine w_test ?_ | refine w_not ?_ | refine w_and ?_ | refine w_or ?_ | refine w_andV ?_ | refine w_orV ?_ | refine w_notV ?_ | refine w_if ?_ | refine w_chn ?_ | refine w_call ?_ | refine w_make ?_ | refine w_fld ?_ | refine w_ml ?_ | refine w_ml0 ?_ | refine w_sl ?_ | refine w_slD ?_ | refine w_noPart ?_ | refine w_part ?_ | refine w_dictZ ?_ | refine w_lcA ?_ | refine w_ret ?_ | refine w_rt ?_ | refine w_ifS ?_ | refine w_next ?_ | refine w_break ?_ | refine w_cont ?_ | refine w_seq ?_ | refine w_asg ?_ | refine w_drop ?_ | refine w_par ?_ | refine w_sfld ?_ | refine w_asgT ?_ | refine w_gset ?_ | refine w_gname ?_ | refine w_gtup rfl ?_ | refine w_gcons ?_ | refine w_gnil ?_ | refine w_yes ?_) | refine w_bl ?_ | refine w_int ?_ | refine w_T ?_ | refine w_F ?_ | refine w_nT ?_ | refine w_nF ?_ | refine q_len_tup ?_ | refine q_int ?_ | refine q_intB ?_ | refine q_add ?_ | refine q_sub ?_ | refine q_neg ?_ | refine q_ord ?_ | refine q_ordS ?_ | refine q_tuple_tup ?_ | refine qEq_int ?_)))
    refine so_ix1 hs2 ?_
    (with_reducible (repeat (first | (first | refine w_var rfl ?_ | refine w_c ?_ | refine w_op ?_ | refine w_un ?_ | refine w_cl ?_ | refine w_nil ?_ | refine w_cons ?_ | refine w_tup ?_ | refine w_lst ?_ | refine w_test ?_ | refine w_not ?_ | refine w_and ?_ | refine w_or ?_ | refine w_andV ?_ | refine w_orV ?_ | refine w_notV ?_ | refine w_if ?_ | refine w_chn ?_ | refine w_call ?_ | refine w_make ?_ | refine w_fld ?_ | refine w_ml ?_ | refine w_ml0 ?_ | refine w_sl ?_ | refine w_slD ?_ | refine w_noPart ?_ | refine w_part ?_ | refine w_dictZ ?_ | refine w_lcA ?_ | refine w_ret ?_ | refine w_rt ?_ | refine w_ifS ?_ | refine w_next ?_ | refine w_break ?_ | refine w_cont ?_ | refine w_seq ?_ | refine w_asg ?_ | refine w_drop ?_ | refine w_par ?_ | refine w_sfld ?_ | refine w_asgT ?_ | refine w_gset ?_ | refine w_gname ?_ | refine w_gtup rfl ?_ | refine w_gcons ?_ | refine w_gnil ?_ | refine w_yes ?_) | refine w_bl ?_ | refine w_int ?_ | refine w_T ?_ | refine w_F ?_ | refine w_nT ?_ | refine w_nF ?_ | refine q_len_tup ?_ | refine q_int ?_ | refine q_intB ?_ | refine q_add ?_ | refine q_sub ?_ | refine q_neg ?_ | refine q_ord ?_ | refine q_ordS ?_ | refine q_tuple_tup ?_ | refine qEq_int ?_)))
    refine so_ix2 hs2 ?_
    refine q_I (cm (by decide)) ?_
    (with_reducible (repeat (first | (first | refine w_var rfl ?_ | refine w_c ?_ | refine w_op ?_ | refine w_un ?_ | refine w_cl ?_ | refine w_nil ?_ | refine w_cons ?_ | refine w_tup ?_ | refine w_lst ?_ | refine w_test ?_ | refine w_not ?_ | refine w_and ?_ | refine w_or ?_ | refine w_andV ?_ | refine w_orV ?_ | refine w_notV ?_ | refine w_if ?_ | refine w_chn ?_ | refine w_call ?_ | refine w_make ?_ | refine w_fld ?_ | refine w_ml ?_ | refine w_ml0 ?_ | refine w_sl ?_ | refine w_slD ?_ | refine w_noPart ?_ | refine w_part ?_ | refine w_dictZ ?_ | refine w_lcA ?_ | refine w_ret ?_ | refine w_rt ?_ | refine w_ifS ?_ | refine w_next ?_ | refine w_break ?_ | refine w_cont ?_ | refine w_seq ?_ | refine w_asg ?_ | refine w_drop ?_ | refine w_par ?_ | refine w_sfld ?_ | refine w_asgT ?_ | refine w_gset ?_ | refine w_gname ?_ | refine w_gtup rfl ?_ | refine w_gcons ?_ | refine w_gnil ?_ | refine w_yes ?_) | refine w_bl ?_ | refine w_int ?_ | refine w_T ?_ | refine w_F ?_ | refine w_nT ?_ | refine w_nF ?_ | refine q_len_tup ?_ | refine q_int ?_ | refine q_intB ?_ | refine q_add ?_ | refine q_sub ?_ | refine q_neg ?_ | refine q_ord ?_ | refine q_ordS ?_ | refine q_tuple_tup ?_ | refine qEq_int ?_)))
    refine q_I (by decide) ?_
    (with_reducible (repeat (first | (first | refine w_var rfl ?_ | refine w_c ?_ | refine w_op ?_ | refine w_un ?_ | refine w_cl ?_ | refine w_nil ?_ | refine w_cons ?_ | refine w_tup ?_ | refine w_lst ?_ | refine w_test ?_ | refine w_not ?_ | refine w_and ?_ | refine w_or ?_ | refine w_andV ?_ | refine w_orV ?_ | refine w_notV ?_ | refine w_if ?_ | refine w_chn ?_ | refine w_call ?_ | refine w_make ?_ | refine w_fld ?_ | refine w_ml ?_ | refine w_ml0 ?_ | refine w_sl ?_ | refine w_slD ?_ | refine w_noPart ?_ | refine w_part ?_ | refine w_dictZ ?_ | refine w_lcA ?_ | refine w_ret ?_ | refine w_rt ?_ | refine w_ifS ?_ | refine w_next ?_ | refine w_break ?_ | refine w_cont ?_ | refine w_seq ?_ | refine w_asg ?_ | refine w_drop ?_ | refine w_par ?_ | refine w_sfld ?_ | refine w_asgT ?_ | refine w_gset ?_ | refine w_gname ?_ | refine w_gtup rfl ?_ | refine w_gcons ?_ | refine w_gnil ?_ | refine w_yes ?_) | refine w_bl ?_ | refine w_int ?_ | refine w_T ?_ | refine w_F ?_ | refine w_nT ?_ | refine w_nF ?_ | refine q_len_tup ?_ | refine q_int ?_ | refine q_intB ?_ | refine q_add ?_ | refine q_sub ?_ | refine q_neg ?_ | refine q_ord ?_ | refine q_ordS ?_ | refine q_tuple_tup ?_ | refine qEq_int ?_)))
    unfold t_L_next_6
    (with_reducible (repeat (first | (first | refine w_var rfl ?_ | refine w_c ?_ | refine w_op ?_ | refine w_un ?_ | refine w_cl ?_ | refine w_nil ?_ | refine w_cons ?_ | refine w_tup ?_ | refine w_lst ?_ | refine w_test ?_ | refine w_not ?_ | refine w_and ?_ | refine w_or ?_ | refine w_andV ?_ | refine w_orV ?_ | refine w_notV ?_ | refine w_if ?_ | refine w_chn ?_ | refine w_call ?_ | refine w_make ?_ | refine w_fld ?_ | refine w_ml ?_ | refine w_ml0 ?_ | refine w_sl ?_ | refine w_slD ?_ | refine w_noPart ?_ | refine w_part ?_ | refine w_dictZ ?_ | refine w_lcA ?_ | refine w_ret ?_ | refine w_rt ?_ | refine w_ifS ?_ | refine w_next ?_ | refine w_break ?_ | refine w_cont ?_ | refine w_seq ?_ | refine w_asg ?_ | refine w_drop ?_ | refine w_par ?_ | refine w_sfld ?_ | refine w_asgT ?_ | refine w_gset ?_ | refine w_gname ?_ | refine w_gtup rfl ?_ | refine w_gcons ?_ | refine w_gnil ?_ | refine w_yes ?_) | refine w_bl ?_ | refine w_int ?_ | refine w_T ?_ | refine w_F ?_ | refine w_nT ?_ | refine w_nF ?_ | refine q_len_tup ?_ | refine q_int ?_ | refine q_intB ?_ | refine q_add ?_ | refine q_sub ?_ | refine q_neg ?_ | refine q_ord ?_ | refine q_ordS ?_ | refine q_tuple_tup ?_ | refine qEq_int ?_)))
    refine q_I (cm (by omega)) ?_
    (with_reducible (repeat (first | (first | refine w_var rfl ?_ | refine w_c ?_ | refine w_op ?_ | refine w_un ?_ | refine w_cl ?_ | refine w_nil ?_ | refine w_cons ?_ | refine w_tup ?_ | refine w_lst ?_ | refine w_test ?_ | refine w_not ?_ | refine w_and ?_ | refine w_or ?_ | refine w_andV ?_ | refine w_orV ?_ | refine w_notV ?_ | refine w_if ?_ | refine w_chn ?_ | refine w_call ?_ | refine w_make ?_ | refine w_fld ?_ | refine w_ml ?_ | refine w_ml0 ?_ | refine w_sl ?_ | refine w_slD ?_ | refine w_noPart ?_ | refine w_part ?_ | refine w_dictZ ?_ | refine w_lcA ?_ | refine w_ret ?_ | refine w_rt ?_ | refine w_ifS ?_ | refine w_next ?_ | refine w_break ?_ | refine w_cont ?_ | refine w_seq ?_ | refine w_asg ?_ | refine w_drop ?_ | refine w_par ?_ | refine w_sfld ?_ | refine w_asgT ?_ | refine w_gset ?_ | refine w_gname ?_ | refine w_gtup rfl ?_ | refine w_gcons ?_ | refine w_gnil ?_ | refine w_yes ?_) | refine w_bl ?_ | refine w_int ?_ | refine w_T ?_ | refine w_F ?_ | refine w_nT ?_ | refine w_nF ?_ | refine q_len_tup ?_ | refine q_int ?_ | refine q_intB ?_ | refine q_add ?_ | refine q_sub ?_ | refine q_neg ?_ | refine q_ord ?_ | refine q_ordS ?_ | refine q_tuple_tup ?_ | refine qEq_int ?_)))
    refine q_I (by decide) ?_
    (with_reducible (repeat (first | (first | refine w_var rfl ?_ | refine w_c ?_ | refine w_op ?_ | refine w_un ?_ | refine w_cl ?_ | refine w_nil ?_ | refine w_cons ?_ | refine w_tup ?_ | refine w_lst ?_ | refine w_test ?_ | refine w_not ?_ | refine w_and ?_ | refine w_or ?_ | refine w_andV ?_ | refine w_orV ?_ | refine w_notV ?_ | refine w_if ?_ | refine w_chn ?_ | refine w_call ?_ | refine w_make ?_ | refine w_fld ?_ | refine w_ml ?_ | refine w_ml0 ?_ | refine w_sl ?_ | refine w_slD ?_ | refine w_noPart ?_ | refine w_part ?_ | refine w_dictZ ?_ | refine w_lcA ?_ | refine w_ret ?_ | refine w_rt ?_ | refine w_ifS ?_ | refine w_next ?_ | refine w_break ?_ | refine w_cont ?_ | refine w_seq ?_ | refine w_asg ?_ | refine w_drop ?_ | refine w_par ?_ | refine w_sfld ?_ | refine w_asgT ?_ | refine w_gset ?_ | refine w_gname ?_ | refine w_gtup rfl ?_ | refine w_gcons ?_ | refine w_gnil ?_ | refine w_yes ?_) | refine w_bl ?_ | refine w_int ?_ | refine w_T ?_ | refine w_F ?_ | refine w_nT ?_ | refine w_nF ?_ | refine q_len_tup ?_ | refine q_int ?_ | refine q_intB ?_ | refine q_add ?_ | refine q_sub ?_ | refine q_neg ?_ | refine q_ord ?_ | refine q_ordS ?_ | refine q_tuple_tup ?_ | refine qEq_int ?_)))
    unfold t_L_next_5
    (with_reducible (repeat (first | (first | refine w_var rfl ?_ | refine w_c ?_ | refine w_op ?_ | refine w_un ?_ | refine w_cl ?_ | refine w_nil ?_ | refine w_cons ?_ | refine w_tup ?_ | refine w_lst ?_ | refine w_test ?_ | refine w_not ?_ | refine w_and ?_ | refine w_or ?_ | refine w_andV ?_ | refine w_orV ?_ | refine w_notV ?_ | refine w_if ?_ | refine w_chn ?_ | refine w_call ?_ | refine w_make ?_ | refine w_fld ?_ | refine w_ml ?_ | refine w_ml0 ?_ | refine w_sl ?_ | refine w_slD ?_ | refine w_noPart ?_ | refine w_part ?_ | refine w_dictZ ?_ | refine w_lcA ?_ | refine w_ret ?_ | refine w_rt ?_ | refine w_ifS ?_ | refine w_next ?_ | refine w_break ?_ | refine w_cont ?_ | refine w_seq ?_ | refine w_asg ?_ | refine w_drop ?_ | refine w_par ?_ | refine w_sfld ?_ | refine w_asgT ?_ | refine w_gset ?_ | refine w_gname ?_ | refine w_gtup rfl ?_ | refine w_gcons ?_ | refine w_gnil ?_ | refine w_yes ?_) | refine w_bl ?_ | refine w_int ?_ | refine w_T ?_ | refine w_F ?_ | refine w_nT ?_ | refine w_nF ?_ | refine q_len_tup ?_ | refine q_int ?_ | refine q_intB ?_ | refine q_add ?_ | refine q_sub ?_ | refine q_neg ?_ | refine q_ord ?_ | refine q_ordS ?_ | refine q_tuple_tup ?_ | refine qEq_int ?_)))
    refine q_I (cd (by decide) (by decide)) ?_
    (with_reducible (repeat (first | (first | refine w_var rfl ?_ | refine w_c ?_ | refine w_op ?_ | refine w_un ?_ | refine w_cl ?_ | refine w_nil ?_ | refine w_cons ?_ | refine w_tup ?_ | refine w_lst ?_ | refine w_test ?_ | refine w_not ?_ | refine w_and ?_ | refine w_or ?_ | refine w_andV ?_ | refine w_orV ?_ | refine w_notV ?_ | refine w_if ?_ | refine w_chn ?_ | refine w_call ?_ | refine w_make ?_ | refine w_fld ?_ | refine w_ml ?_ | refine w_ml0 ?_ | refine w_sl ?_ | refine w_slD ?_ | refine w_noPart ?_ | refine w_part ?_ | refine w_dictZ ?_ | refine w_lcA ?_ | refine w_ret ?_ | refine w_rt ?_ | refine w_ifS ?_ | refine w_next ?_ | refine w_break ?_ | refine w_cont ?_ | refine w_seq ?_ | refine w_asg ?_ | refine w_drop ?_ | refine w_par ?_ | refine w_sfld ?_ | refine w_asgT ?_ | refine w_gset ?_ | refine w_gname ?_ | refine w_gtup rfl ?_ | refine w_gcons ?_ | refine w_gnil ?_ | refine w_yes ?_) | refine w_bl ?_ | refine w_int ?_ | refine w_T ?_ | refine w_F ?_ | refine w_nT ?_ | refine w_nF ?_ | refine q_len_tup ?_ | refine q_int ?_ | refine q_intB ?_ | refine q_add ?_ | refine q_sub ?_ | refine q_neg ?_ | refine q_ord ?_ | refine q_ordS ?_ | refine q_tuple_tup ?_ | refine qEq_int ?_)))
    refine q_I (cm (by omega)) ?_
    (with_reducible (repeat (first | (first | refine w_var rfl ?_ | refine w_c ?_ | refine w_op ?_ | refine w_un ?_ | refine w_cl ?_ | refine w_nil ?_ | refine w_cons ?_ | refine w_tup ?_ | refine w_lst ?_ | refine w_test ?_ | refine w_not ?_ | refine w_and ?_ | refine w_or ?_ | refine w_andV ?_ | refine w_orV ?_ | refine w_notV ?_ | refine w_if ?_ | refine w_chn ?_ | refine w_call ?_ | refine w_make ?_ | refine w_fld ?_ | refine w_ml ?_ | refine w_ml0 ?_ | refine w_sl ?_ | refine w_slD ?_ | refine w_noPart ?_ | refine w_part ?_ | refine w_dictZ ?_ | refine w_lcA ?_ | refine w_ret ?_ | refine w_rt ?_ | refine w_ifS ?_ | refine w_next ?_ | refine w_break ?_ | refine w_cont ?_ | refine w_seq ?_ | refine w_asg ?_ | refine w_drop ?_ | refine w_par ?_ | refine w_sfld ?_ | refine w_asgT ?_ | refine w_gset ?_ | refine w_gname ?_ | refine w_gtup rfl ?_ | refine w_gcons ?_ | refine w_gnil ?_ | refine w_yes ?_) | refine w_bl ?_ | refine w_int ?_ | refine w_T ?_ | refine w_F ?_ | refine w_nT ?_ | refine w_nF ?_ | refine q_len_tup ?_ | refine q_int ?_ | refine q_intB ?_ | refine q_add ?_ | refine q_sub ?_ | refine q_neg ?_ | refine q_ord ?_ | refine q_ordS ?_ | refine q_tuple_tup ?_ | refine qEq_int ?_)))
    refine q_I (by decide) ?_
    (with_reducible (repeat (first | (first | refine w_var rfl ?_ | refine w_c ?_ | refine w_op ?_ | refine w_un ?_ | refine w_cl ?_ | refine w_nil ?_ | refine w_cons ?_ | refine w_tup ?_ | refine w_lst ?_ | refine w_test ?_ | refine w_not ?_ | refine w_and ?_ | refine w_or ?_ | refine w_andV ?_ | refine w_orV ?_ | refine w_notV ?_ | refine w_if ?_ | refine w_chn ?_ | refine w_call ?_ | refine w_make ?_ | refine w_fld ?_ | refine w_ml ?_ | refine w_ml0 ?_ | refine w_sl ?_ | refine w_slD ?_ | refine w_noPart ?_ | refine w_part ?_ | refine w_dictZ ?_ | refine w_lcA ?_ | refine w_ret ?_ | refine w_rt ?_ | refine w_ifS ?_ | refine w_next ?_ | refine w_break ?_ | refine w_cont ?_ | refine w_seq ?_ | refine w_asg ?_ | refine w_drop ?_ | refine w_par ?_ | refine w_sfld ?_ | refine w_asgT ?_ | refine w_gset ?_ | refine w_gname ?_ | refine w_gtup rfl ?_ | refine w_gcons ?_ | refine w_gnil ?_ | refine w_yes ?_) | refine w_bl ?_ | refine w_int ?_ | refine w_T ?_ | refine w_F ?_ | refine w_nT ?_ | refine w_nF ?_ | refine q_len_tup ?_ | refine q_int ?_ | refine q_intB ?_ | refine q_add ?_ | refine q_sub ?_ | refine q_neg ?_ | refine q_ord ?_ | refine q_ordS ?_ | refine q_tuple_tup ?_ | refine qEq_int ?_)))
    unfold t_L_next_4
    (with_reducible (repeat (first | (first | refine w_var rfl ?_ | refine w_c ?_ | refine w_op ?_ | refine w_un ?_ | refine w_cl ?_ | refine w_nil ?_ | refine w_cons ?_ | refine w_tup ?_ | refine w_lst ?_ | refine w_test ?_ | refine w_not ?_ | refine w_and ?_ | refine w_or ?_ | refine w_andV ?_ | refine w_orV ?_ | refine w_notV ?_ | refine w_if ?_ | refine w_chn ?_ | refine w_call ?_ | refine w_make ?_ | refine w_fld ?_ | refine w_ml ?_ | refine w_ml0 ?_ | refine w_sl ?_ | refine w_slD ?_ | refine w_noPart ?_ | refine w_part ?_ | refine w_dictZ ?_ | refine w_lcA ?_ | refine w_ret ?_ | refine w_rt ?_ | refine w_ifS ?_ | refine w_next ?_ | refine w_break ?_ | refine w_cont ?_ | refine w_seq ?_ | refine w_asg ?_ | refine w_drop ?_ | refine w_par ?_ | refine w_sfld ?_ | refine w_asgT ?_ | refine w_gset ?_ | refine w_gname ?_ | refine w_gtup rfl ?_ | refine w_gcons ?_ | refine w_gnil ?_ | refine w_yes ?_) | refine w_bl ?_ | refine w_int ?_ | refine w_T ?_ | refine w_F ?_ | refine w_nT ?_ | refine w_nF ?_ | refine q_len_tup ?_ | refine q_int ?_ | refine q_intB ?_ | refine q_add ?_ | refine q_sub ?_ | refine q_neg ?_ | refine q_ord ?_ | refine q_ordS ?_ | refine q_tuple_tup ?_ | refine qEq_int ?_)))
    refine q_I (cd (by decide) (by decide)) ?_
    (with_reducible (repeat (first | (first | refine w_var rfl ?_ | refine w_c ?_ | refine w_op ?_ | refine w_un ?_ | refine w_cl ?_ | refine w_nil ?_ | refine w_cons ?_ | refine w_tup ?_ | refine w_lst ?_ | refine w_test ?_ | refine w_not ?_ | refine w_and ?_ | refine w_or ?_ | refine w_andV ?_ | refine w_orV ?_ | refine w_notV ?_ | refine w_if ?_ | refine w_chn ?_ | refine w_call ?_ | refine w_make ?_ | refine w_fld ?_ | refine w_ml ?_ | refine w_ml0 ?_ | refine w_sl ?_ | refine w_slD ?_ | refine w_noPart ?_ | refine w_part ?_ | refine w_dictZ ?_ | refine w_lcA ?_ | refine w_ret ?_ | refine w_rt ?_ | refine w_ifS ?_ | refine w_next ?_ | refine w_break ?_ | refine w_cont ?_ | refine w_seq ?_ | refine w_asg ?_ | refine w_drop ?_ | refine w_par ?_ | refine w_sfld ?_ | refine w_asgT ?_ | refine w_gset ?_ | refine w_gname ?_ | refine w_gtup rfl ?_ | refine w_gcons ?_ | refine w_gnil ?_ | refine w_yes ?_) | refine w_bl ?_ | refine w_int ?_ | refine w_T ?_ | refine w_F ?_ | refine w_nT ?_ | refine w_nF ?_ | refine q_len_tup ?_ | refine q_int ?_ | refine q_intB ?_ | refine q_add ?_ | refine q_sub ?_ | refine q_neg ?_ | refine q_ord ?_ | refine q_ordS ?_ | refine q_tuple_tup ?_ | refine qEq_int ?_)))
    refine q_I (cm (by omega)) ?_
    (with_reducible (repeat (first | (first | refine w_var rfl ?_ | refine w_c ?_ | refine w_op ?_ | refine w_un ?_ | refine w_cl ?_ | refine w_nil ?_ | refine w_cons ?_ | refine w_tup ?_ | refine w_lst ?_ | refine w_test ?_ | refine w_not ?_ | refine w_and ?_ | refine w_or ?_ | refine w_andV ?_ | refine w_orV ?_ | refine w_notV ?_ | refine w_if ?_ | refine w_chn ?_ | refine w_call ?_ | refine w_make ?_ | refine w_fld ?_ | refine w_ml ?_ | refine w_ml0 ?_ | refine w_sl ?_ | refine w_slD ?_ | refine w_noPart ?_ | refine w_part ?_ | refine w_dictZ ?_ | refine w_lcA ?_ | refine w_ret ?_ | refine w_rt ?_ | refine w_ifS ?_ | refine w_next ?_ | refine w_break ?_ | refine w_cont ?_ | refine w_seq ?_ | refine w_asg ?_ | refine w_drop ?_ | refine w_par ?_ | refine w_sfld ?_ | refine w_asgT ?_ | refine w_gset ?_ | refine w_gname ?_ | refine w_gtup rfl ?_ | refine w_gcons ?_ | refine w_gnil ?_ | refine w_yes ?_) | refine w_bl ?_ | refine w_int ?_ | refine w_T ?_ | refine w_F ?_ | refine w_nT ?_ | refine w_nF ?_ | refine q_len_tup ?_ | refine q_int ?_ | refine q_intB ?_ | refine q_add ?_ | refine q_sub ?_ | refine q_neg ?_ | refine q_ord ?_ | refine q_ordS ?_ | refine q_tuple_tup ?_ | refine qEq_int ?_)))
    refine q_I (by decide) ?_
    (with_reducible (repeat (first | (first | refine w_var rfl ?_ | refine w_c ?_ | refine w_op ?_ | refine w_un ?_ | refine w_cl ?_ | refine w_nil ?_ | refine w_cons ?_ | refine w_tup ?_ | refine w_lst ?_ | refine w_test ?_ | refine w_not ?_ | refine w_and ?_ | refine w_or ?_ | refine w_andV ?_ | refine w_orV ?_ | refine w_notV ?_ | refine w_if ?_ | refine w_chn ?_ | refine w_call ?_ | refine w_make ?_ | refine w_fld ?_ | refine w_ml ?_ | refine w_ml0 ?_ | refine w_sl ?_ | refine w_slD ?_ | refine w_noPart ?_ | refine w_part ?_ | refine w_dictZ ?_ | refine w_lcA ?_ | refine w_ret ?_ | refine w_rt ?_ | refine w_ifS ?_ | refine w_next ?_ | refine w_break ?_ | refine w_cont ?_ | refine w_seq ?_ | refine w_asg ?_ | refine w_drop ?_ | refine w_par ?_ | refine w_sfld ?_ | refine w_asgT ?_ | refine w_gset ?_ | refine w_gname ?_ | refine w_gtup rfl ?_ | refine w_gcons ?_ | refine w_gnil ?_ | refine w_yes ?_) | refine w_bl ?_ | refine w_int ?_ | refine w_T ?_ | refine w_F ?_ | refine w_nT ?_ | refine w_nF ?_ | refine q_len_tup ?_ | refine q_int ?_ | refine q_intB ?_ | refine q_add ?_ | refine q_sub ?_ | refine q_neg ?_ | refine q_ord ?_ | refine q_ordS ?_ | refine q_tuple_tup ?_ | refine qEq_int ?_)))
    unfold t_L_next_3
    (with_reducible (repeat (first | (first | refine w_var rfl ?_ | refine w_c ?_ | refine w_op ?_ | refine w_un ?_ | refine w_cl ?_ | refine w_nil ?_ | refine w_cons ?_ | refine w_tup ?_ | refine w_lst ?_ | refine w_test ?_ | refine w_not ?_ | refine w_and ?_ | refine w_or ?_ | refine w_andV ?_ | refine w_orV ?_ | refine w_notV ?_ | refine w_if ?_ | refine w_chn ?_ | refine w_call ?_ | refine w_make ?_ | refine w_fld ?_ | refine w_ml ?_ | refine w_ml0 ?_ | refine w_sl ?_ | refine w_slD ?_ | refine w_noPart ?_ | refine w_part ?_ | refine w_dictZ ?_ | refine w_lcA ?_ | refine w_ret ?_ | refine w_rt ?_ | refine w_ifS ?_ | refine w_next ?_ | refine w_break ?_ | refine w_cont ?_ | refine w_seq ?_ | refine w_asg ?_ | refine w_drop ?_ | refine w_par ?_ | refine w_sfld ?_ | refine w_asgT ?_ | refine w_gset ?_ | refine w_gname ?_ | refine w_gtup rfl ?_ | refine w_gcons ?_ | refine w_gnil ?_ | refine w_yes ?_) | refine w_bl ?_ | refine w_int ?_ | refine w_T ?_ | refine w_F ?_ | refine w_nT ?_ | refine w_nF ?_ | refine q_len_tup ?_ | refine q_int ?_ | refine q_intB ?_ | refine q_add ?_ | refine q_sub ?_ | refine q_neg ?_ | refine q_ord ?_ | refine q_ordS ?_ | refine q_tuple_tup ?_ | refine qEq_int ?_)))
    refine q_I (cd (by decide) (by decide)) ?_
    (with_reducible (repeat (first | (first | refine w_var rfl ?_ | refine w_c ?_ | refine w_op ?_ | refine w_un ?_ | refine w_cl ?_ | refine w_nil ?_ | refine w_cons ?_ | refine w_tup ?_ | refine w_lst ?_ | refine w_test ?_ | refine w_not ?_ | refine w_and ?_ | refine w_or ?_ | refine w_andV ?_ | refine w_orV ?_ | refine w_notV ?_ | refine w_if ?_ | refine w_chn ?_ | refine w_call ?_ | refine w_make ?_ | refine w_fld ?_ | refine w_ml ?_ | refine w_ml0 ?_ | refine w_sl ?_ | refine w_slD ?_ | refine w_noPart ?_ | refine w_part ?_ | refine w_dictZ ?_ | refine w_lcA ?_ | refine w_ret ?_ | refine w_rt ?_ | refine w_ifS ?_ | refine w_next ?_ | refine w_break ?_ | refine w_cont ?_ | refine w_seq ?_ | refine w_asg ?_ | refine w_drop ?_ | refine w_par ?_ | refine w_sfld ?_ | refine w_asgT ?_ | refine w_gset ?_ | refine w_gname ?_ | refine w_gtup rfl ?_ | refine w_gcons ?_ | refine w_gnil ?_ | refine w_yes ?_) | refine w_bl ?_ | refine w_int ?_ | refine w_T ?_ | refine w_F ?_ | refine w_nT ?_ | refine w_nF ?_ | refine q_len_tup ?_ | refine q_int ?_ | refine q_intB ?_ | refine q_add ?_ | refine q_sub ?_ | refine q_neg ?_ | refine q_ord ?_ | refine q_ordS ?_ | refine q_tuple_tup ?_ | refine qEq_int ?_)))
    refine q_I hn' ?_
    generalize (_ : Int) / 7 = y
    obtain ⟨r, e, hr⟩ := emodN (x := y) hn
    rw [e]
    exact q _ _ ⟨r, _, _, _, rfl, hr, rfl⟩

/-! ### L_one -/
abbrev N_L_one : List Str := ["_law_source", "_law_some"]
def t_L_one (K : PySem.W.Frag) (c : Ad) : JSt := (jRet (jOp qIx2 (jVar 1) (jCall (sp_L_next K c) (jCons (jVar 0) (jCons (jCl qLen (jCons (jVar 1) jNil)) jNil)))))
/-- one of a row's items, or of a text's signs -/
def sp_L_one (K : PySem.W.Frag) (c : Ad) : Sq := spA fun ws G po => ∃ s a b d x xs, ws = [.ad s, x] ∧ G s = some (so a b d) ∧ 0 < xs.length ∧ xs.length < 2 ^ 60 ∧ ((rowOf x G xs ∧ x ≠ .ad s) ∨ ∃ z : Str, x = .str z ∧ xs = J.signs z ∧ z.length ≤ sizeLine) ∧
  po = fun v G1 => ∃ a b d, v ∈ xs ∧ G1 = up G s (so a b d)
theorem mono_L_one {K : PySem.W.Frag} {c : Ad} : MonoSq (sp_L_one K c) := spA.mono
theorem len_L_one {K : PySem.W.Frag} {c : Ad} : ∀ ws G Q E, sp_L_one K c ws G Q E → ws.length = (["_law_source", "_law_some"] : List Str).length := by
  rintro _ _ _ _ ⟨_, ⟨_, _, _, _, _, _, rfl, _⟩, _⟩; rfl
theorem pure_L_one {K : PySem.W.Frag} {c : Ad} : ∀ ws G Q E, Up Q → UpX E → sp_L_one K c ws G Q E → t_L_one K c (fun c f _ G => E c f G) { nx := fun _ G => Q .non G, rt := Q } (startT N_L_one ws) G := by
  rintro _ G Q E hU _ ⟨_, ⟨s, a, b, d, x, xs, rfl, hs, h0, h1, hx, rfl⟩, q⟩
  have hl : ∀ {Q : KQ}, Q (.int xs.length) G → qLen [x] G Q := fun k => by
    rcases hx with ⟨r, _⟩ | ⟨z, rfl, rfl, hz⟩
    · exact q_len_row r k
    · refine q_len_str hz ?_
      rw [len_str, ← signs_len]; exact k
  unfold t_L_one
  (with_reducible (repeat (first | (first | refine w_var rfl ?_ | refine w_c ?_ | refine w_op ?_ | refine w_un ?_ | refine w_cl ?_ | refine w_nil ?_ | refine w_cons ?_ | refine w_tup ?_ | refine w_lst ?_ | refine w_test ?_ | refine w_not ?_ | refine w_and ?_ | refine w_or ?_ | refine w_andV ?_ | refine w_orV ?_ | refine w_notV ?_ | refine w_if ?_ | refine w_chn ?_ | refine w_call ?_ | refine w_make ?_ | refine w_fld ?_ | refine w_ml ?_ | refine w_ml0 ?_ | refine w_sl ?_ | refine w_slD ?_ | refine w_noPart ?_ | refine w_part ?_ | refine w_dictZ ?_ | refine w_lcA ?_ | refine w_ret ?_ | refine w_rt ?_ | refine w_ifS ?_ | refine w_next ?_ | refine w_break ?_ | refine w_cont ?_ | refine w_seq ?_ | refine w_asg ?_ | refine w_drop ?_ | refine w_par ?_ | refine w_sfld ?_ | refine w_asgT ?_ | refine w_gset ?_ | refine w_gname ?_ | refine w_gtup rfl ?_ | refine w_gcons ?_ | refine w_gnil ?_ | refine w_yes ?_) | refine w_bl ?_ | refine w_int ?_ | refine w_T ?_ | refine w_F ?_ | refine w_nT ?_ | refine w_nF ?_ | refine q_len_tup ?_ | refine q_int ?_ | refine q_intB ?_ | refine q_add ?_ | refine q_sub ?_ | refine q_neg ?_ | refine q_ord ?_ | refine q_ordS ?_ | refine q_tuple_tup ?_ | refine qEq_int ?_)))
  refine hl ?_
  (with_reducible (repeat (first | (first | refine w_var rfl ?_ | refine w_c ?_ | refine w_op ?_ | refine w_un ?_ | refine w_cl ?_ | refine w_nil ?_ | refine w_cons ?_ | refine w_tup ?_ | refine w_lst ?_ | refine w_test ?_ | refine w_not ?_ | refine w_and ?_ | refine w_or ?_ | refine w_andV ?_ | refine w_orV ?_ | refine w_notV ?_ | refine w_if ?_ | refine w_chn ?_ | refine w_call ?_ | refine w_make ?_ | refine w_fld ?_ | refine w_ml ?_ | refine w_ml0 ?_ | refine w_sl ?_ | refine w_slD ?_ | refine w_noPart ?_ | refine w_part ?_ | refine w_dictZ ?_ | refine w_lcA ?_ | refine w_ret ?_ | refine w_rt ?_ | refine w_ifS ?_ | refine w_next ?_ | refine w_break ?_ | refine w_cont ?_ | refine w_seq ?_ | refine w_asg ?_ | refine w_drop ?_ | refine w_par ?_ | refine w_sfld ?_ | refine w_asgT ?_ | refine w_gset ?_ | refine w_gname ?_ | refine w_gtup rfl ?_ | refine w_gcons ?_ | refine w_gnil ?_ | refine w_yes ?_) | refine w_bl ?_ | refine w_int ?_ | refine w_T ?_ | refine w_F ?_ | refine w_nT ?_ | refine w_nF ?_ | refine q_len_tup ?_ | refine q_int ?_ | refine q_intB ?_ | refine q_add ?_ | refine q_sub ?_ | refine q_neg ?_ | refine q_ord ?_ | refine q_ordS ?_ | refine q_tuple_tup ?_ | refine qEq_int ?_)))
  refine ⟨_, ⟨s, a, b, d, xs.length, rfl, hs, h0, h1, rfl⟩, ?_⟩
  rintro _ _ ⟨r, a', b', d', rfl, hr, rfl⟩
  rcases hx with ⟨row, ne⟩ | ⟨z, rfl, rfl, hz⟩
  · have row2 : rowOf x (up G s (so a' b' d')) xs := row.imp (fun ⟨p, e, h⟩ => ⟨p, e, by rw [up_ne (fun z => ne (by rw [e, z]))]; exact h⟩) id
    refine q_ix_row row2 (at_nat (List.getElem?_eq_getElem hr)) ?_
    exact q _ _ ⟨_, _, _, List.getElem_mem hr, rfl⟩
  · have hr' : r < z.cps.toList.length := by rw [← signs_len]; exact hr
    refine q_ix_str hz (at_nat (List.getElem?_eq_getElem hr')) ?_
    refine q _ _ ⟨_, _, _, ?_, rfl⟩
    unfold J.signs
    exact List.mem_map.mpr ⟨_, List.getElem_mem hr', rfl⟩

/-! ### L_cell_at -/
abbrev N_L_cell_at : List Str := ["_law_script", "_law_k"]
def t_L_cell_at_1 (K : PySem.W.Frag) (c : Ad) : JSt := (jRet (jC (.int 0)))
def t_L_cell_at (K : PySem.W.Frag) (c : Ad) : JSt := (jSeq (jIfS (jTest (jOp qLt (jVar 1) (jCl qLen (jCons (jVar 0) jNil)))) (jRet (jOp qIx2 (jVar 0) (jVar 1))) jNext) (t_L_cell_at_1 K c))
def sp_L_cell_at (K : PySem.W.Frag) (c : Ad) : Sq := spA fun ws G po => ∃ ns : List Int, ∃ k : Nat, ws = [.fl (ns.map Dv.int), .int k] ∧ po = fun v G1 => v = .int (ns.getD k 0) ∧ G1 = G
theorem mono_L_cell_at {K : PySem.W.Frag} {c : Ad} : MonoSq (sp_L_cell_at K c) := spA.mono
theorem len_L_cell_at {K : PySem.W.Frag} {c : Ad} : ∀ ws G Q E, sp_L_cell_at K c ws G Q E → ws.length = (["_law_script", "_law_k"] : List Str).length := by
  rintro _ _ _ _ ⟨_, ⟨_, _, rfl, _⟩, _⟩; rfl
theorem pure_L_cell_at {K : PySem.W.Frag} {c : Ad} : ∀ ws G Q E, Up Q → UpX E → sp_L_cell_at K c ws G Q E → t_L_cell_at K c (fun c f _ G => E c f G) { nx := fun _ G => Q .non G, rt := Q } (startT N_L_cell_at ws) G := by
  rintro _ G Q E hU _ ⟨_, ⟨ns, k, rfl, rfl⟩, q⟩
  unfold t_L_cell_at
  (with_reducible (repeat (first | (first | refine w_var rfl ?_ | refine w_c ?_ | refine w_op ?_ | refine w_un ?_ | refine w_cl ?_ | refine w_nil ?_ | refine w_cons ?_ | refine w_tup ?_ | refine w_lst ?_ | refine w_test ?_ | refine w_not ?_ | refine w_and ?_ | refine w_or ?_ | refine w_andV ?_ | refine w_orV ?_ | refine w_notV ?_ | refine w_if ?_ | refine w_chn ?_ | refine w_call ?_ | refine w_make ?_ | refine w_fld ?_ | refine w_ml ?_ | refine w_ml0 ?_ | refine w_sl ?_ | refine w_slD ?_ | refine w_noPart ?_ | refine w_part ?_ | refine w_dictZ ?_ | refine w_lcA ?_ | refine w_ret ?_ | refine w_rt ?_ | refine w_ifS ?_ | refine w_next ?_ | refine w_break ?_ | refine w_cont ?_ | refine w_seq ?_ | refine w_asg ?_ | refine w_drop ?_ | refine w_par ?_ | refine w_sfld ?_ | refine w_asgT ?_ | refine w_gset ?_ | refine w_gname ?_ | refine w_gtup rfl ?_ | refine w_gcons ?_ | refine w_gnil ?_ | refine w_yes ?_) | refine w_bl ?_ | refine w_int ?_ | refine w_T ?_ | refine w_F ?_ | refine w_nT ?_ | refine w_nF ?_ | refine q_len_tup ?_ | refine q_int ?_ | refine q_intB ?_ | refine q_add ?_ | refine q_sub ?_ | refine q_neg ?_ | refine q_ord ?_ | refine q_ordS ?_ | refine q_tuple_tup ?_ | refine qEq_int ?_)))
  refine q_len_row (.inr (.inr rfl)) ?_
  (with_reducible (repeat (first | (first | refine w_var rfl ?_ | refine w_c ?_ | refine w_op ?_ | refine w_un ?_ | refine w_cl ?_ | refine w_nil ?_ | refine w_cons ?_ | refine w_tup ?_ | refine w_lst ?_ | refine w_test ?_ | refine w_not ?_ | refine w_and ?_ | refine w_or ?_ | refine w_andV ?_ | refine w_orV ?_ | refine w_notV ?_ | refine w_if ?_ | refine w_chn ?_ | refine w_call ?_ | refine w_make ?_ | refine w_fld ?_ | refine w_ml ?_ | refine w_ml0 ?_ | refine w_sl ?_ | refine w_slD ?_ | refine w_noPart ?_ | refine w_part ?_ | refine w_dictZ ?_ | refine w_lcA ?_ | refine w_ret ?_ | refine w_rt ?_ | refine w_ifS ?_ | refine w_next ?_ | refine w_break ?_ | refine w_cont ?_ | refine w_seq ?_ | refine w_asg ?_ | refine w_drop ?_ | refine w_par ?_ | refine w_sfld ?_ | refine w_asgT ?_ | refine w_gset ?_ | refine w_gname ?_ | refine w_gtup rfl ?_ | refine w_gcons ?_ | refine w_gnil ?_ | refine w_yes ?_) | refine w_bl ?_ | refine w_int ?_ | refine w_T ?_ | refine w_F ?_ | refine w_nT ?_ | refine w_nF ?_ | refine q_len_tup ?_ | refine q_int ?_ | refine q_intB ?_ | refine q_add ?_ | refine q_sub ?_ | refine q_neg ?_ | refine q_ord ?_ | refine q_ordS ?_ | refine q_tuple_tup ?_ | refine qEq_int ?_)))
  refine iteB (fun z => ?_) (fun z => ?_)
  · have hk : k < ns.length := by have := of_decide_eq_true z; rw [List.length_map] at this; omega
    (with_reducible (repeat (first | (first | refine w_var rfl ?_ | refine w_c ?_ | refine w_op ?_ | refine w_un ?_ | refine w_cl ?_ | refine w_nil ?_ | refine w_cons ?_ | refine w_tup ?_ | refine w_lst ?_ | refine w_test ?_ | refine w_not ?_ | refine w_and ?_ | refine w_or ?_ | refine w_andV ?_ | refine w_orV ?_ | refine w_notV ?_ | refine w_if ?_ | refine w_chn ?_ | refine w_call ?_ | refine w_make ?_ | refine w_fld ?_ | refine w_ml ?_ | refine w_ml0 ?_ | refine w_sl ?_ | refine w_slD ?_ | refine w_noPart ?_ | refine w_part ?_ | refine w_dictZ ?_ | refine w_lcA ?_ | refine w_ret ?_ | refine w_rt ?_ | refine w_ifS ?_ | refine w_next ?_ | refine w_break ?_ | refine w_cont ?_ | refine w_seq ?_ | refine w_asg ?_ | refine w_drop ?_ | refine w_par ?_ | refine w_sfld ?_ | refine w_asgT ?_ | refine w_gset ?_ | refine w_gname ?_ | refine w_gtup rfl ?_ | refine w_gcons ?_ | refine w_gnil ?_ | refine w_yes ?_) | refine w_bl ?_ | refine w_int ?_ | refine w_T ?_ | refine w_F ?_ | refine w_nT ?_ | refine w_nF ?_ | refine q_len_tup ?_ | refine q_int ?_ | refine q_intB ?_ | refine q_add ?_ | refine q_sub ?_ | refine q_neg ?_ | refine q_ord ?_ | refine q_ordS ?_ | refine q_tuple_tup ?_ | refine qEq_int ?_)))
    refine q_ix_row (.inr (.inr rfl)) (v := .int (ns.getD k 0)) (at_nat ?_) (q _ _ ⟨rfl, rfl⟩)
    rw [List.getElem?_map, List.getElem?_eq_getElem hk, List.getD_eq_getElem?_getD, List.getElem?_eq_getElem hk]; rfl
  · have hk : ns.length ≤ k := by have := of_decide_eq_false z; rw [List.length_map] at this; omega
    (with_reducible (repeat (first | (first | refine w_var rfl ?_ | refine w_c ?_ | refine w_op ?_ | refine w_un ?_ | refine w_cl ?_ | refine w_nil ?_ | refine w_cons ?_ | refine w_tup ?_ | refine w_lst ?_ | refine w_test ?_ | refine w_not ?_ | refine w_and ?_ | refine w_or ?_ | refine w_andV ?_ | refine w_orV ?_ | refine w_notV ?_ | refine w_if ?_ | refine w_chn ?_ | refine w_call ?_ | refine w_make ?_ | refine w_fld ?_ | refine w_ml ?_ | refine w_ml0 ?_ | refine w_sl ?_ | refine w_slD ?_ | refine w_noPart ?_ | refine w_part ?_ | refine w_dictZ ?_ | refine w_lcA ?_ | refine w_ret ?_ | refine w_rt ?_ | refine w_ifS ?_ | refine w_next ?_ | refine w_break ?_ | refine w_cont ?_ | refine w_seq ?_ | refine w_asg ?_ | refine w_drop ?_ | refine w_par ?_ | refine w_sfld ?_ | refine w_asgT ?_ | refine w_gset ?_ | refine w_gname ?_ | refine w_gtup rfl ?_ | refine w_gcons ?_ | refine w_gnil ?_ | refine w_yes ?_) | refine w_bl ?_ | refine w_int ?_ | refine w_T ?_ | refine w_F ?_ | refine w_nT ?_ | refine w_nF ?_ | refine q_len_tup ?_ | refine q_int ?_ | refine q_intB ?_ | refine q_add ?_ | refine q_sub ?_ | refine q_neg ?_ | refine q_ord ?_ | refine q_ordS ?_ | refine q_tuple_tup ?_ | refine qEq_int ?_)))
    unfold t_L_cell_at_1
    (with_reducible (repeat (first | (first | refine w_var rfl ?_ | refine w_c ?_ | refine w_op ?_ | refine w_un ?_ | refine w_cl ?_ | refine w_nil ?_ | refine w_cons ?_ | refine w_tup ?_ | refine w_lst ?_ | refine w_test ?_ | refine w_not ?_ | refine w_and ?_ | refine w_or ?_ | refine w_andV ?_ | refine w_orV ?_ | refine w_notV ?_ | refine w_if ?_ | refine w_chn ?_ | refine w_call ?_ | refine w_make ?_ | refine w_fld ?_ | refine w_ml ?_ | refine w_ml0 ?_ | refine w_sl ?_ | refine w_slD ?_ | refine w_noPart ?_ | refine w_part ?_ | refine w_dictZ ?_ | refine w_lcA ?_ | refine w_ret ?_ | refine w_rt ?_ | refine w_ifS ?_ | refine w_next ?_ | refine w_break ?_ | refine w_cont ?_ | refine w_seq ?_ | refine w_asg ?_ | refine w_drop ?_ | refine w_par ?_ | refine w_sfld ?_ | refine w_asgT ?_ | refine w_gset ?_ | refine w_gname ?_ | refine w_gtup rfl ?_ | refine w_gcons ?_ | refine w_gnil ?_ | refine w_yes ?_) | refine w_bl ?_ | refine w_int ?_ | refine w_T ?_ | refine w_F ?_ | refine w_nT ?_ | refine w_nF ?_ | refine q_len_tup ?_ | refine q_int ?_ | refine q_intB ?_ | refine q_add ?_ | refine q_sub ?_ | refine q_neg ?_ | refine q_ord ?_ | refine q_ordS ?_ | refine q_tuple_tup ?_ | refine qEq_int ?_)))
    refine q _ _ ⟨?_, rfl⟩
    rw [List.getD_eq_getElem?_getD, List.getElem?_eq_none hk]; rfl

/-! ### L_source_of -/
abbrev N_L_source_of : List Str := ["_law_cell"]
def t_L_source_of_1 (K : PySem.W.Frag) (c : Ad) : JSt := (jRet (jLst (jCons (jOp qMul (jVar 0) (jCl qInt (jCons (jOp qGe (jVar 0) (jOp qPow (jC (.int 10)) (jC (.int 18)))) jNil))) (jCons (jOp qMod (jCl qInt (jCons (jVar 0) jNil)) (jC (.int 2147483647))) (jCons (jC (.int 0)) jNil)))))
def t_L_source_of (K : PySem.W.Frag) (c : Ad) : JSt := (jSeq (jAsg (jIf (jTest (jOp qGe (jVar 0) (jC (.int 0)))) (jVar 0) (jOp qSub (jOp qSub (jC (.int 0)) (jOp qMul (jC (.int 3)) (jVar 0))) (jC (.int 1)))) (jgName 0)) (t_L_source_of_1 K c))
def sp_L_source_of (K : PySem.W.Frag) (c : Ad) : Sq := spA fun ws G po => ∃ z : Int, ws = [.int z] ∧ Builtin.Int.intBits z ≤ 1048576 ∧ po = fun v G1 => ∃ p a b d, v = .ad p ∧ G p = none ∧ G1 = up G p (so a b d)
theorem mono_L_source_of {K : PySem.W.Frag} {c : Ad} : MonoSq (sp_L_source_of K c) := spA.mono
theorem len_L_source_of {K : PySem.W.Frag} {c : Ad} : ∀ ws G Q E, sp_L_source_of K c ws G Q E → ws.length = (["_law_cell"] : List Str).length := by
  rintro _ _ _ _ ⟨_, ⟨_, rfl, _⟩, _⟩; rfl
theorem pure_L_source_of {K : PySem.W.Frag} {c : Ad} : ∀ ws G Q E, Up Q → UpX E → sp_L_source_of K c ws G Q E → t_L_source_of K c (fun c f _ G => E c f G) { nx := fun _ G => Q .non G, rt := Q } (startT N_L_source_of ws) G := by
  rintro _ G Q E hU _ ⟨_, ⟨z, rfl, hz, rfl⟩, q⟩
  have fin : ∀ y : Int, t_L_source_of_1 K c (fun c f _ G => E c f G) { nx := fun _ G => Q .non G, rt := Q } [some (.int y)] G := fun y => by
    unfold t_L_source_of_1
    (with_reducible (repeat (first | (first | refine w_var rfl ?_ | refine w_c ?_ | refine w_op ?_ | refine w_un ?_ | refine w_cl ?_ | refine w_nil ?_ | refine w_cons ?_ | refine w_tup ?_ | refine w_lst ?_ | refine w_test ?_ | refine w_not ?_ | refine w_and ?_ | refine w_or ?_ | refine w_andV ?_ | refine w_orV ?_ | refine w_notV ?_ | refine w_if ?_ | refine w_chn ?_ | refine w_call ?_ | refine w_make ?_ | refine w_fld ?_ | refine w_ml ?_ | refine w_ml0 ?_ | refine w_sl ?_ | refine w_slD ?_ | refine w_noPart ?_ | refine w_part ?_ | refine w_dictZ ?_ | refine w_lcA ?_ | refine w_ret ?_ | refine w_rt ?_ | refine w_ifS ?_ | refine w_next ?_ | refine w_break ?_ | refine w_cont ?_ | refine w_seq ?_ | refine w_asg ?_ | refine w_drop ?_ | refine w_par ?_ | refine w_sfld ?_ | refine w_asgT ?_ | refine w_gset ?_ | refine w_gname ?_ | refine w_gtup rfl ?_ | refine w_gcons ?_ | refine w_gnil ?_ | refine w_yes ?_) | refine w_bl ?_ | refine w_int ?_ | refine w_T ?_ | refine w_F ?_ | refine w_nT ?_ | refine w_nF ?_ | refine q_len_tup ?_ | refine q_int ?_ | refine q_intB ?_ | refine q_add ?_ | refine q_sub ?_ | refine q_neg ?_ | refine q_ord ?_ | refine q_ordS ?_ | refine q_tuple_tup ?_ | refine qEq_int ?_)))
    refine q_I (g := fun i j => .int (i ^ j.toNat)) (i := 10) (j := 18) (by unfold CPow; decide) ?_
    (with_reducible (repeat (first | (first | refine w_var rfl ?_ | refine w_c ?_ | refine w_op ?_ | refine w_un ?_ | refine w_cl ?_ | refine w_nil ?_ | refine w_cons ?_ | refine w_tup ?_ | refine w_lst ?_ | refine w_test ?_ | refine w_not ?_ | refine w_and ?_ | refine w_or ?_ | refine w_andV ?_ | refine w_orV ?_ | refine w_notV ?_ | refine w_if ?_ | refine w_chn ?_ | refine w_call ?_ | refine w_make ?_ | refine w_fld ?_ | refine w_ml ?_ | refine w_ml0 ?_ | refine w_sl ?_ | refine w_slD ?_ | refine w_noPart ?_ | refine w_part ?_ | refine w_dictZ ?_ | refine w_lcA ?_ | refine w_ret ?_ | refine w_rt ?_ | refine w_ifS ?_ | refine w_next ?_ | refine w_break ?_ | refine w_cont ?_ | refine w_seq ?_ | refine w_asg ?_ | refine w_drop ?_ | refine w_par ?_ | refine w_sfld ?_ | refine w_asgT ?_ | refine w_gset ?_ | refine w_gname ?_ | refine w_gtup rfl ?_ | refine w_gcons ?_ | refine w_gnil ?_ | refine w_yes ?_) | refine w_bl ?_ | refine w_int ?_ | refine w_T ?_ | refine w_F ?_ | refine w_nT ?_ | refine w_nF ?_ | refine q_len_tup ?_ | refine q_int ?_ | refine q_intB ?_ | refine q_add ?_ | refine q_sub ?_ | refine q_neg ?_ | refine q_ord ?_ | refine q_ordS ?_ | refine q_tuple_tup ?_ | refine qEq_int ?_)))
    refine q_I (.inl (.inr ?_)) ?_
    · split <;> decide
    (with_reducible (repeat (first | (first | refine w_var rfl ?_ | refine w_c ?_ | refine w_op ?_ | refine w_un ?_ | refine w_cl ?_ | refine w_nil ?_ | refine w_cons ?_ | refine w_tup ?_ | refine w_lst ?_ | refine w_test ?_ | refine w_not ?_ | refine w_and ?_ | refine w_or ?_ | refine w_andV ?_ | refine w_orV ?_ | refine w_notV ?_ | refine w_if ?_ | refine w_chn ?_ | refine w_call ?_ | refine w_make ?_ | refine w_fld ?_ | refine w_ml ?_ | refine w_ml0 ?_ | refine w_sl ?_ | refine w_slD ?_ | refine w_noPart ?_ | refine w_part ?_ | refine w_dictZ ?_ | refine w_lcA ?_ | refine w_ret ?_ | refine w_rt ?_ | refine w_ifS ?_ | refine w_next ?_ | refine w_break ?_ | refine w_cont ?_ | refine w_seq ?_ | refine w_asg ?_ | refine w_drop ?_ | refine w_par ?_ | refine w_sfld ?_ | refine w_asgT ?_ | refine w_gset ?_ | refine w_gname ?_ | refine w_gtup rfl ?_ | refine w_gcons ?_ | refine w_gnil ?_ | refine w_yes ?_) | refine w_bl ?_ | refine w_int ?_ | refine w_T ?_ | refine w_F ?_ | refine w_nT ?_ | refine w_nF ?_ | refine q_len_tup ?_ | refine q_int ?_ | refine q_intB ?_ | refine q_add ?_ | refine q_sub ?_ | refine q_neg ?_ | refine q_ord ?_ | refine q_ordS ?_ | refine q_tuple_tup ?_ | refine qEq_int ?_)))
    refine q_I (by decide) ?_
    (with_reducible (repeat (first | (first | refine w_var rfl ?_ | refine w_c ?_ | refine w_op ?_ | refine w_un ?_ | refine w_cl ?_ | refine w_nil ?_ | refine w_cons ?_ | refine w_tup ?_ | refine w_lst ?_ | refine w_test ?_ | refine w_not ?_ | refine w_and ?_ | refine w_or ?_ | refine w_andV ?_ | refine w_orV ?_ | refine w_notV ?_ | refine w_if ?_ | refine w_chn ?_ | refine w_call ?_ | refine w_make ?_ | refine w_fld ?_ | refine w_ml ?_ | refine w_ml0 ?_ | refine w_sl ?_ | refine w_slD ?_ | refine w_noPart ?_ | refine w_part ?_ | refine w_dictZ ?_ | refine w_lcA ?_ | refine w_ret ?_ | refine w_rt ?_ | refine w_ifS ?_ | refine w_next ?_ | refine w_break ?_ | refine w_cont ?_ | refine w_seq ?_ | refine w_asg ?_ | refine w_drop ?_ | refine w_par ?_ | refine w_sfld ?_ | refine w_asgT ?_ | refine w_gset ?_ | refine w_gname ?_ | refine w_gtup rfl ?_ | refine w_gcons ?_ | refine w_gnil ?_ | refine w_yes ?_) | refine w_bl ?_ | refine w_int ?_ | refine w_T ?_ | refine w_F ?_ | refine w_nT ?_ | refine w_nF ?_ | refine q_len_tup ?_ | refine q_int ?_ | refine q_intB ?_ | refine q_add ?_ | refine q_sub ?_ | refine q_neg ?_ | refine q_ord ?_ | refine q_ordS ?_ | refine q_tuple_tup ?_ | refine qEq_int ?_)))
    refine ⟨by show 3 ≤ sizeLine; decide, fun p hp => ?_⟩
    exact q _ _ ⟨p, _, _, _, rfl, hp, rfl⟩
  unfold t_L_source_of
  (with_reducible (repeat (first | (first | refine w_var rfl ?_ | refine w_c ?_ | refine w_op ?_ | refine w_un ?_ | refine w_cl ?_ | refine w_nil ?_ | refine w_cons ?_ | refine w_tup ?_ | refine w_lst ?_ | refine w_test ?_ | refine w_not ?_ | refine w_and ?_ | refine w_or ?_ | refine w_andV ?_ | refine w_orV ?_ | refine w_notV ?_ | refine w_if ?_ | refine w_chn ?_ | refine w_call ?_ | refine w_make ?_ | refine w_fld ?_ | refine w_ml ?_ | refine w_ml0 ?_ | refine w_sl ?_ | refine w_slD ?_ | refine w_noPart ?_ | refine w_part ?_ | refine w_dictZ ?_ | refine w_lcA ?_ | refine w_ret ?_ | refine w_rt ?_ | refine w_ifS ?_ | refine w_next ?_ | refine w_break ?_ | refine w_cont ?_ | refine w_seq ?_ | refine w_asg ?_ | refine w_drop ?_ | refine w_par ?_ | refine w_sfld ?_ | refine w_asgT ?_ | refine w_gset ?_ | refine w_gname ?_ | refine w_gtup rfl ?_ | refine w_gcons ?_ | refine w_gnil ?_ | refine w_yes ?_) | refine w_bl ?_ | refine w_int ?_ | refine w_T ?_ | refine w_F ?_ | refine w_nT ?_ | refine w_nF ?_ | refine q_len_tup ?_ | refine q_int ?_ | refine q_intB ?_ | refine q_add ?_ | refine q_sub ?_ | refine q_neg ?_ | refine q_ord ?_ | refine q_ordS ?_ | refine q_tuple_tup ?_ | refine qEq_int ?_)))
  refine iteB (fun _ => ?_) (fun _ => ?_)
  · (with_reducible (repeat (first | (first | refine w_var rfl ?_ | refine w_c ?_ | refine w_op ?_ | refine w_un ?_ | refine w_cl ?_ | refine w_nil ?_ | refine w_cons ?_ | refine w_tup ?_ | refine w_lst ?_ | refine w_test ?_ | refine w_not ?_ | refine w_and ?_ | refine w_or ?_ | refine w_andV ?_ | refine w_orV ?_ | refine w_notV ?_ | refine w_if ?_ | refine w_chn ?_ | refine w_call ?_ | refine w_make ?_ | refine w_fld ?_ | refine w_ml ?_ | refine w_ml0 ?_ | refine w_sl ?_ | refine w_slD ?_ | refine w_noPart ?_ | refine w_part ?_ | refine w_dictZ ?_ | refine w_lcA ?_ | refine w_ret ?_ | refine w_rt ?_ | refine w_ifS ?_ | refine w_next ?_ | refine w_break ?_ | refine w_cont ?_ | refine w_seq ?_ | refine w_asg ?_ | refine w_drop ?_ | refine w_par ?_ | refine w_sfld ?_ | refine w_asgT ?_ | refine w_gset ?_ | refine w_gname ?_ | refine w_gtup rfl ?_ | refine w_gcons ?_ | refine w_gnil ?_ | refine w_yes ?_) | refine w_bl ?_ | refine w_int ?_ | refine w_T ?_ | refine w_F ?_ | refine w_nT ?_ | refine w_nF ?_ | refine q_len_tup ?_ | refine q_int ?_ | refine q_intB ?_ | refine q_add ?_ | refine q_sub ?_ | refine q_neg ?_ | refine q_ord ?_ | refine q_ordS ?_ | refine q_tuple_tup ?_ | refine qEq_int ?_)))
    exact fin z
  · (with_reducible (repeat (first | (first | refine w_var rfl ?_ | refine w_c ?_ | refine w_op ?_ | refine w_un ?_ | refine w_cl ?_ | refine w_nil ?_ | refine w_cons ?_ | refine w_tup ?_ | refine w_lst ?_ | refine w_test ?_ | refine w_not ?_ | refine w_and ?_ | refine w_or ?_ | refine w_andV ?_ | refine w_orV ?_ | refine w_notV ?_ | refine w_if ?_ | refine w_chn ?_ | refine w_call ?_ | refine w_make ?_ | refine w_fld ?_ | refine w_ml ?_ | refine w_ml0 ?_ | refine w_sl ?_ | refine w_slD ?_ | refine w_noPart ?_ | refine w_part ?_ | refine w_dictZ ?_ | refine w_lcA ?_ | refine w_ret ?_ | refine w_rt ?_ | refine w_ifS ?_ | refine w_next ?_ | refine w_break ?_ | refine w_cont ?_ | refine w_seq ?_ | refine w_asg ?_ | refine w_drop ?_ | refine w_par ?_ | refine w_sfld ?_ | refine w_asgT ?_ | refine w_gset ?_ | refine w_gname ?_ | refine w_gtup rfl ?_ | refine w_gcons ?_ | refine w_gnil ?_ | refine w_yes ?_) | refine w_bl ?_ | refine w_int ?_ | refine w_T ?_ | refine w_F ?_ | refine w_nT ?_ | refine w_nF ?_ | refine q_len_tup ?_ | refine q_int ?_ | refine q_intB ?_ | refine q_add ?_ | refine q_sub ?_ | refine q_neg ?_ | refine q_ord ?_ | refine q_ordS ?_ | refine q_tuple_tup ?_ | refine qEq_int ?_)))
    refine q_I (cm (by decide)) ?_
    (with_reducible (repeat (first | (first | refine w_var rfl ?_ | refine w_c ?_ | refine w_op ?_ | refine w_un ?_ | refine w_cl ?_ | refine w_nil ?_ | refine w_cons ?_ | refine w_tup ?_ | refine w_lst ?_ | refine w_test ?_ | refine w_not ?_ | refine w_and ?_ | refine w_or ?_ | refine w_andV ?_ | refine w_orV ?_ | refine w_notV ?_ | refine w_if ?_ | refine w_chn ?_ | refine w_call ?_ | refine w_make ?_ | refine w_fld ?_ | refine w_ml ?_ | refine w_ml0 ?_ | refine w_sl ?_ | refine w_slD ?_ | refine w_noPart ?_ | refine w_part ?_ | refine w_dictZ ?_ | refine w_lcA ?_ | refine w_ret ?_ | refine w_rt ?_ | refine w_ifS ?_ | refine w_next ?_ | refine w_break ?_ | refine w_cont ?_ | refine w_seq ?_ | refine w_asg ?_ | refine w_drop ?_ | refine w_par ?_ | refine w_sfld ?_ | refine w_asgT ?_ | refine w_gset ?_ | refine w_gname ?_ | refine w_gtup rfl ?_ | refine w_gcons ?_ | refine w_gnil ?_ | refine w_yes ?_) | refine w_bl ?_ | refine w_int ?_ | refine w_T ?_ | refine w_F ?_ | refine w_nT ?_ | refine w_nF ?_ | refine q_len_tup ?_ | refine q_int ?_ | refine q_intB ?_ | refine q_add ?_ | refine q_sub ?_ | refine q_neg ?_ | refine q_ord ?_ | refine q_ordS ?_ | refine q_tuple_tup ?_ | refine qEq_int ?_)))
    exact fin _

/-! ### L_mixed -/
abbrev N_L_mixed : List Str := ["_law_source", "_law_some", "_law_left", "_law_found"]
def t_L_mixed_1 (K : PySem.W.Frag) (c : Ad) : JSt := (jRet (jVar 3))
def t_L_mixed_2 (K : PySem.W.Frag) (c : Ad) : JSt := (jSeq (jWhile (jTest (jOp (qEq true) (jVar 2) (jLst jNil))) (jDrop (jML qAppend (jVar 3) (jCons (jML qPopAt (jVar 2) (jCons (jCall (sp_L_next K c) (jCons (jVar 0) (jCons (jCl qLen (jCons (jVar 2) jNil)) jNil))) jNil)) jNil)))) (t_L_mixed_1 K c))
def t_L_mixed_3 (K : PySem.W.Frag) (c : Ad) : JSt := (jSeq (jAsg (jLst jNil) (jgName 3)) (t_L_mixed_2 K c))
def t_L_mixed (K : PySem.W.Frag) (c : Ad) : JSt := (jSeq (jAsg (jCl qList2 (jCons (jVar 1) jNil)) (jgName 2)) (t_L_mixed_3 K c))
/-- a row's items in another order, in a new list -/
def sp_L_mixed (K : PySem.W.Frag) (c : Ad) : Sq := spA fun ws G po => ∃ s a b d x xs, ws = [.ad s, x] ∧ G s = some (so a b d) ∧ rowOf x G xs ∧ Evs xs ∧ xs.length ≤ 4000 ∧ po = fun v G1 => ∃ p ys a b d, v = .ad p ∧ ys.Perm xs ∧ G p = none ∧ G1 = up (up G s (so a b d)) p (.lst ys)
theorem mono_L_mixed {K : PySem.W.Frag} {c : Ad} : MonoSq (sp_L_mixed K c) := spA.mono
theorem len_L_mixed {K : PySem.W.Frag} {c : Ad} : ∀ ws G Q E, sp_L_mixed K c ws G Q E → ws.length = (["_law_source", "_law_some"] : List Str).length := by
  rintro _ _ _ _ ⟨_, ⟨_, _, _, _, _, _, rfl, _⟩, _⟩; rfl
theorem pure_L_mixed {K : PySem.W.Frag} {c : Ad} : ∀ ws G Q E, Up Q → UpX E → sp_L_mixed K c ws G Q E → t_L_mixed K c (fun c f _ G => E c f G) { nx := fun _ G => Q .non G, rt := Q } (startT N_L_mixed ws) G := by
  rintro _ G Q E hU _ ⟨_, ⟨s, a, b, d, x, xs, rfl, hs, row, ev, few, rfl⟩, q⟩
  unfold t_L_mixed
  (with_reducible (repeat (first | (first | refine w_var rfl ?_ | refine w_c ?_ | refine w_op ?_ | refine w_un ?_ | refine w_cl ?_ | refine w_nil ?_ | refine w_cons ?_ | refine w_tup ?_ | refine w_lst ?_ | refine w_test ?_ | refine w_not ?_ | refine w_and ?_ | refine w_or ?_ | refine w_andV ?_ | refine w_orV ?_ | refine w_notV ?_ | refine w_if ?_ | refine w_chn ?_ | refine w_call ?_ | refine w_make ?_ | refine w_fld ?_ | refine w_ml ?_ | refine w_ml0 ?_ | refine w_sl ?_ | refine w_slD ?_ | refine w_noPart ?_ | refine w_part ?_ | refine w_dictZ ?_ | refine w_lcA ?_ | refine w_ret ?_ | refine w_rt ?_ | refine w_ifS ?_ | refine w_next ?_ | refine w_break ?_ | refine w_cont ?_ | refine w_seq ?_ | refine w_asg ?_ | refine w_drop ?_ | refine w_par ?_ | refine w_sfld ?_ | refine w_asgT ?_ | refine w_gset ?_ | refine w_gname ?_ | refine w_gtup rfl ?_ | refine w_gcons ?_ | refine w_gnil ?_ | refine w_yes ?_) | refine w_bl ?_ | refine w_int ?_ | refine w_T ?_ | refine w_F ?_ | refine w_nT ?_ | refine w_nF ?_ | refine q_len_tup ?_ | refine q_int ?_ | refine q_intB ?_ | refine q_add ?_ | refine q_sub ?_ | refine q_neg ?_ | refine q_ord ?_ | refine q_ordS ?_ | refine q_tuple_tup ?_ | refine qEq_int ?_)))
  refine q_list_row row fun l hl => ?_
  have ls : l ≠ s := fun z => by subst z; rw [hl] at hs; cases hs
  unfold t_L_mixed_3
  (with_reducible (repeat (first | (first | refine w_var rfl ?_ | refine w_c ?_ | refine w_op ?_ | refine w_un ?_ | refine w_cl ?_ | refine w_nil ?_ | refine w_cons ?_ | refine w_tup ?_ | refine w_lst ?_ | refine w_test ?_ | refine w_not ?_ | refine w_and ?_ | refine w_or ?_ | refine w_andV ?_ | refine w_orV ?_ | refine w_notV ?_ | refine w_if ?_ | refine w_chn ?_ | refine w_call ?_ | refine w_make ?_ | refine w_fld ?_ | refine w_ml ?_ | refine w_ml0 ?_ | refine w_sl ?_ | refine w_slD ?_ | refine w_noPart ?_ | refine w_part ?_ | refine w_dictZ ?_ | refine w_lcA ?_ | refine w_ret ?_ | refine w_rt ?_ | refine w_ifS ?_ | refine w_next ?_ | refine w_break ?_ | refine w_cont ?_ | refine w_seq ?_ | refine w_asg ?_ | refine w_drop ?_ | refine w_par ?_ | refine w_sfld ?_ | refine w_asgT ?_ | refine w_gset ?_ | refine w_gname ?_ | refine w_gtup rfl ?_ | refine w_gcons ?_ | refine w_gnil ?_ | refine w_yes ?_) | refine w_bl ?_ | refine w_int ?_ | refine w_T ?_ | refine w_F ?_ | refine w_nT ?_ | refine w_nF ?_ | refine q_len_tup ?_ | refine q_int ?_ | refine q_intB ?_ | refine q_add ?_ | refine q_sub ?_ | refine q_neg ?_ | refine q_ord ?_ | refine q_ordS ?_ | refine q_tuple_tup ?_ | refine qEq_int ?_)))
  refine ⟨by show 0 ≤ sizeLine; exact Nat.zero_le _, fun f hf => ?_⟩
  rw [up_none] at hf
  obtain ⟨fl, hf⟩ := hf
  have fs : f ≠ s := fun z => by subst z; rw [hf] at hs; cases hs
  unfold t_L_mixed_2
  (with_reducible (repeat (first | (first | refine w_var rfl ?_ | refine w_c ?_ | refine w_op ?_ | refine w_un ?_ | refine w_cl ?_ | refine w_nil ?_ | refine w_cons ?_ | refine w_tup ?_ | refine w_lst ?_ | refine w_test ?_ | refine w_not ?_ | refine w_and ?_ | refine w_or ?_ | refine w_andV ?_ | refine w_orV ?_ | refine w_notV ?_ | refine w_if ?_ | refine w_chn ?_ | refine w_call ?_ | refine w_make ?_ | refine w_fld ?_ | refine w_ml ?_ | refine w_ml0 ?_ | refine w_sl ?_ | refine w_slD ?_ | refine w_noPart ?_ | refine w_part ?_ | refine w_dictZ ?_ | refine w_lcA ?_ | refine w_ret ?_ | refine w_rt ?_ | refine w_ifS ?_ | refine w_next ?_ | refine w_break ?_ | refine w_cont ?_ | refine w_seq ?_ | refine w_asg ?_ | refine w_drop ?_ | refine w_par ?_ | refine w_sfld ?_ | refine w_asgT ?_ | refine w_gset ?_ | refine w_gname ?_ | refine w_gtup rfl ?_ | refine w_gcons ?_ | refine w_gnil ?_ | refine w_yes ?_) | refine w_bl ?_ | refine w_int ?_ | refine w_T ?_ | refine w_F ?_ | refine w_nT ?_ | refine w_nF ?_ | refine q_len_tup ?_ | refine q_int ?_ | refine q_intB ?_ | refine q_add ?_ | refine q_sub ?_ | refine q_neg ?_ | refine q_ord ?_ | refine q_ordS ?_ | refine q_tuple_tup ?_ | refine qEq_int ?_)))
  refine ⟨fun m τ G' => ∃ left found a b d, τ = [some (.ad s), some x, some (.ad l), some (.ad f)] ∧ left.length = m ∧ (found ++ left).Perm xs ∧ G' = up (up (up G s (so a b d)) l (.lst left)) f (.lst found),
    ⟨xs.length, xs, [], a, b, d, rfl, rfl, List.Perm.refl _, by rw [up_self hs]⟩, ?_⟩
  rintro m _ _ ⟨left, found, a, b, d, rfl, hm, pm, rfl⟩
  have evl : Evs left := fun y hy => ev y (pm.mem_iff.mp (List.mem_append_right _ hy))
  have lenl : found.length + left.length = xs.length := by have := pm.length_eq; rwa [List.length_append] at this
  (with_reducible (repeat (first | (first | refine w_var rfl ?_ | refine w_c ?_ | refine w_op ?_ | refine w_un ?_ | refine w_cl ?_ | refine w_nil ?_ | refine w_cons ?_ | refine w_tup ?_ | refine w_lst ?_ | refine w_test ?_ | refine w_not ?_ | refine w_and ?_ | refine w_or ?_ | refine w_andV ?_ | refine w_orV ?_ | refine w_notV ?_ | refine w_if ?_ | refine w_chn ?_ | refine w_call ?_ | refine w_make ?_ | refine w_fld ?_ | refine w_ml ?_ | refine w_ml0 ?_ | refine w_sl ?_ | refine w_slD ?_ | refine w_noPart ?_ | refine w_part ?_ | refine w_dictZ ?_ | refine w_lcA ?_ | refine w_ret ?_ | refine w_rt ?_ | refine w_ifS ?_ | refine w_next ?_ | refine w_break ?_ | refine w_cont ?_ | refine w_seq ?_ | refine w_asg ?_ | refine w_drop ?_ | refine w_par ?_ | refine w_sfld ?_ | refine w_asgT ?_ | refine w_gset ?_ | refine w_gname ?_ | refine w_gtup rfl ?_ | refine w_gcons ?_ | refine w_gnil ?_ | refine w_yes ?_) | refine w_bl ?_ | refine w_int ?_ | refine w_T ?_ | refine w_F ?_ | refine w_nT ?_ | refine w_nF ?_ | refine q_len_tup ?_ | refine q_int ?_ | refine q_intB ?_ | refine q_add ?_ | refine q_sub ?_ | refine q_neg ?_ | refine q_ord ?_ | refine q_ordS ?_ | refine q_tuple_tup ?_ | refine qEq_int ?_)))
  refine ⟨by show 0 ≤ sizeLine; exact Nat.zero_le _, fun t ht => ?_⟩
  simp only [up_none] at ht
  obtain ⟨tf, tl, ts, ht⟩ := ht
  refine qEq_lst (xs := left) (ys := []) (by ((simp only [J.up]; (repeat' split) <;> simp_all))) up_same evl .nil fun b' hb => ?_
  (with_reducible (repeat (first | (first | refine w_var rfl ?_ | refine w_c ?_ | refine w_op ?_ | refine w_un ?_ | refine w_cl ?_ | refine w_nil ?_ | refine w_cons ?_ | refine w_tup ?_ | refine w_lst ?_ | refine w_test ?_ | refine w_not ?_ | refine w_and ?_ | refine w_or ?_ | refine w_andV ?_ | refine w_orV ?_ | refine w_notV ?_ | refine w_if ?_ | refine w_chn ?_ | refine w_call ?_ | refine w_make ?_ | refine w_fld ?_ | refine w_ml ?_ | refine w_ml0 ?_ | refine w_sl ?_ | refine w_slD ?_ | refine w_noPart ?_ | refine w_part ?_ | refine w_dictZ ?_ | refine w_lcA ?_ | refine w_ret ?_ | refine w_rt ?_ | refine w_ifS ?_ | refine w_next ?_ | refine w_break ?_ | refine w_cont ?_ | refine w_seq ?_ | refine w_asg ?_ | refine w_drop ?_ | refine w_par ?_ | refine w_sfld ?_ | refine w_asgT ?_ | refine w_gset ?_ | refine w_gname ?_ | refine w_gtup rfl ?_ | refine w_gcons ?_ | refine w_gnil ?_ | refine w_yes ?_) | refine w_bl ?_ | refine w_int ?_ | refine w_T ?_ | refine w_F ?_ | refine w_nT ?_ | refine w_nF ?_ | refine q_len_tup ?_ | refine q_int ?_ | refine q_intB ?_ | refine q_add ?_ | refine q_sub ?_ | refine q_neg ?_ | refine q_ord ?_ | refine q_ordS ?_ | refine q_tuple_tup ?_ | refine qEq_int ?_)))
  refine iteB (fun z => ?_) (fun z => ?_)
  · have ne : left ≠ [] := fun e => by rw [hb.mpr e] at z; cases z
    have pos : 0 < left.length := List.length_pos_iff.mpr ne
    (with_reducible (repeat (first | (first | refine w_var rfl ?_ | refine w_c ?_ | refine w_op ?_ | refine w_un ?_ | refine w_cl ?_ | refine w_nil ?_ | refine w_cons ?_ | refine w_tup ?_ | refine w_lst ?_ | refine w_test ?_ | refine w_not ?_ | refine w_and ?_ | refine w_or ?_ | refine w_andV ?_ | refine w_orV ?_ | refine w_notV ?_ | refine w_if ?_ | refine w_chn ?_ | refine w_call ?_ | refine w_make ?_ | refine w_fld ?_ | refine w_ml ?_ | refine w_ml0 ?_ | refine w_sl ?_ | refine w_slD ?_ | refine w_noPart ?_ | refine w_part ?_ | refine w_dictZ ?_ | refine w_lcA ?_ | refine w_ret ?_ | refine w_rt ?_ | refine w_ifS ?_ | refine w_next ?_ | refine w_break ?_ | refine w_cont ?_ | refine w_seq ?_ | refine w_asg ?_ | refine w_drop ?_ | refine w_par ?_ | refine w_sfld ?_ | refine w_asgT ?_ | refine w_gset ?_ | refine w_gname ?_ | refine w_gtup rfl ?_ | refine w_gcons ?_ | refine w_gnil ?_ | refine w_yes ?_) | refine w_bl ?_ | refine w_int ?_ | refine w_T ?_ | refine w_F ?_ | refine w_nT ?_ | refine w_nF ?_ | refine q_len_tup ?_ | refine q_int ?_ | refine q_intB ?_ | refine q_add ?_ | refine q_sub ?_ | refine q_neg ?_ | refine q_ord ?_ | refine q_ordS ?_ | refine q_tuple_tup ?_ | refine qEq_int ?_)))
    refine ⟨⟨f, found, rfl, by ((simp only [J.up]; (repeat' split) <;> simp_all))⟩, ?_⟩
    (with_reducible (repeat (first | (first | refine w_var rfl ?_ | refine w_c ?_ | refine w_op ?_ | refine w_un ?_ | refine w_cl ?_ | refine w_nil ?_ | refine w_cons ?_ | refine w_tup ?_ | refine w_lst ?_ | refine w_test ?_ | refine w_not ?_ | refine w_and ?_ | refine w_or ?_ | refine w_andV ?_ | refine w_orV ?_ | refine w_notV ?_ | refine w_if ?_ | refine w_chn ?_ | refine w_call ?_ | refine w_make ?_ | refine w_fld ?_ | refine w_ml ?_ | refine w_ml0 ?_ | refine w_sl ?_ | refine w_slD ?_ | refine w_noPart ?_ | refine w_part ?_ | refine w_dictZ ?_ | refine w_lcA ?_ | refine w_ret ?_ | refine w_rt ?_ | refine w_ifS ?_ | refine w_next ?_ | refine w_break ?_ | refine w_cont ?_ | refine w_seq ?_ | refine w_asg ?_ | refine w_drop ?_ | refine w_par ?_ | refine w_sfld ?_ | refine w_asgT ?_ | refine w_gset ?_ | refine w_gname ?_ | refine w_gtup rfl ?_ | refine w_gcons ?_ | refine w_gnil ?_ | refine w_yes ?_) | refine w_bl ?_ | refine w_int ?_ | refine w_T ?_ | refine w_F ?_ | refine w_nT ?_ | refine w_nF ?_ | refine q_len_tup ?_ | refine q_int ?_ | refine q_intB ?_ | refine q_add ?_ | refine q_sub ?_ | refine q_neg ?_ | refine q_ord ?_ | refine q_ordS ?_ | refine q_tuple_tup ?_ | refine qEq_int ?_)))
    refine ⟨⟨l, left, rfl, by ((simp only [J.up]; (repeat' split) <;> simp_all))⟩, ?_⟩
    (with_reducible (repeat (first | (first | refine w_var rfl ?_ | refine w_c ?_ | refine w_op ?_ | refine w_un ?_ | refine w_cl ?_ | refine w_nil ?_ | refine w_cons ?_ | refine w_tup ?_ | refine w_lst ?_ | refine w_test ?_ | refine w_not ?_ | refine w_and ?_ | refine w_or ?_ | refine w_andV ?_ | refine w_orV ?_ | refine w_notV ?_ | refine w_if ?_ | refine w_chn ?_ | refine w_call ?_ | refine w_make ?_ | refine w_fld ?_ | refine w_ml ?_ | refine w_ml0 ?_ | refine w_sl ?_ | refine w_slD ?_ | refine w_noPart ?_ | refine w_part ?_ | refine w_dictZ ?_ | refine w_lcA ?_ | refine w_ret ?_ | refine w_rt ?_ | refine w_ifS ?_ | refine w_next ?_ | refine w_break ?_ | refine w_cont ?_ | refine w_seq ?_ | refine w_asg ?_ | refine w_drop ?_ | refine w_par ?_ | refine w_sfld ?_ | refine w_asgT ?_ | refine w_gset ?_ | refine w_gname ?_ | refine w_gtup rfl ?_ | refine w_gcons ?_ | refine w_gnil ?_ | refine w_yes ?_) | refine w_bl ?_ | refine w_int ?_ | refine w_T ?_ | refine w_F ?_ | refine w_nT ?_ | refine w_nF ?_ | refine q_len_tup ?_ | refine q_int ?_ | refine q_intB ?_ | refine q_add ?_ | refine q_sub ?_ | refine q_neg ?_ | refine q_ord ?_ | refine q_ordS ?_ | refine q_tuple_tup ?_ | refine qEq_int ?_)))
    refine q_len_ad (xs := left) (by ((simp only [J.up]; (repeat' split) <;> simp_all))) ?_
    (with_reducible (repeat (first | (first | refine w_var rfl ?_ | refine w_c ?_ | refine w_op ?_ | refine w_un ?_ | refine w_cl ?_ | refine w_nil ?_ | refine w_cons ?_ | refine w_tup ?_ | refine w_lst ?_ | refine w_test ?_ | refine w_not ?_ | refine w_and ?_ | refine w_or ?_ | refine w_andV ?_ | refine w_orV ?_ | refine w_notV ?_ | refine w_if ?_ | refine w_chn ?_ | refine w_call ?_ | refine w_make ?_ | refine w_fld ?_ | refine w_ml ?_ | refine w_ml0 ?_ | refine w_sl ?_ | refine w_slD ?_ | refine w_noPart ?_ | refine w_part ?_ | refine w_dictZ ?_ | refine w_lcA ?_ | refine w_ret ?_ | refine w_rt ?_ | refine w_ifS ?_ | refine w_next ?_ | refine w_break ?_ | refine w_cont ?_ | refine w_seq ?_ | refine w_asg ?_ | refine w_drop ?_ | refine w_par ?_ | refine w_sfld ?_ | refine w_asgT ?_ | refine w_gset ?_ | refine w_gname ?_ | refine w_gtup rfl ?_ | refine w_gcons ?_ | refine w_gnil ?_ | refine w_yes ?_) | refine w_bl ?_ | refine w_int ?_ | refine w_T ?_ | refine w_F ?_ | refine w_nT ?_ | refine w_nF ?_ | refine q_len_tup ?_ | refine q_int ?_ | refine q_intB ?_ | refine q_add ?_ | refine q_sub ?_ | refine q_neg ?_ | refine q_ord ?_ | refine q_ordS ?_ | refine q_tuple_tup ?_ | refine qEq_int ?_)))
    refine ⟨_, ⟨s, a, b, d, left.length, rfl, by ((simp only [J.up]; (repeat' split) <;> simp_all)), pos, by omega, rfl⟩, ?_⟩
    rintro _ _ ⟨r, a', b', d', rfl, hr, rfl⟩
    (with_reducible (repeat (first | (first | refine w_var rfl ?_ | refine w_c ?_ | refine w_op ?_ | refine w_un ?_ | refine w_cl ?_ | refine w_nil ?_ | refine w_cons ?_ | refine w_tup ?_ | refine w_lst ?_ | refine w_test ?_ | refine w_not ?_ | refine w_and ?_ | refine w_or ?_ | refine w_andV ?_ | refine w_orV ?_ | refine w_notV ?_ | refine w_if ?_ | refine w_chn ?_ | refine w_call ?_ | refine w_make ?_ | refine w_fld ?_ | refine w_ml ?_ | refine w_ml0 ?_ | refine w_sl ?_ | refine w_slD ?_ | refine w_noPart ?_ | refine w_part ?_ | refine w_dictZ ?_ | refine w_lcA ?_ | refine w_ret ?_ | refine w_rt ?_ | refine w_ifS ?_ | refine w_next ?_ | refine w_break ?_ | refine w_cont ?_ | refine w_seq ?_ | refine w_asg ?_ | refine w_drop ?_ | refine w_par ?_ | refine w_sfld ?_ | refine w_asgT ?_ | refine w_gset ?_ | refine w_gname ?_ | refine w_gtup rfl ?_ | refine w_gcons ?_ | refine w_gnil ?_ | refine w_yes ?_) | refine w_bl ?_ | refine w_int ?_ | refine w_T ?_ | refine w_F ?_ | refine w_nT ?_ | refine w_nF ?_ | refine q_len_tup ?_ | refine q_int ?_ | refine q_intB ?_ | refine q_add ?_ | refine q_sub ?_ | refine q_neg ?_ | refine q_ord ?_ | refine q_ordS ?_ | refine q_tuple_tup ?_ | refine qEq_int ?_)))
    refine q_popAt (xs := left) (by ((simp only [J.up]; (repeat' split) <;> simp_all))) hr (by omega) ?_
    (with_reducible (repeat (first | (first | refine w_var rfl ?_ | refine w_c ?_ | refine w_op ?_ | refine w_un ?_ | refine w_cl ?_ | refine w_nil ?_ | refine w_cons ?_ | refine w_tup ?_ | refine w_lst ?_ | refine w_test ?_ | refine w_not ?_ | refine w_and ?_ | refine w_or ?_ | refine w_andV ?_ | refine w_orV ?_ | refine w_notV ?_ | refine w_if ?_ | refine w_chn ?_ | refine w_call ?_ | refine w_make ?_ | refine w_fld ?_ | refine w_ml ?_ | refine w_ml0 ?_ | refine w_sl ?_ | refine w_slD ?_ | refine w_noPart ?_ | refine w_part ?_ | refine w_dictZ ?_ | refine w_lcA ?_ | refine w_ret ?_ | refine w_rt ?_ | refine w_ifS ?_ | refine w_next ?_ | refine w_break ?_ | refine w_cont ?_ | refine w_seq ?_ | refine w_asg ?_ | refine w_drop ?_ | refine w_par ?_ | refine w_sfld ?_ | refine w_asgT ?_ | refine w_gset ?_ | refine w_gname ?_ | refine w_gtup rfl ?_ | refine w_gcons ?_ | refine w_gnil ?_ | refine w_yes ?_) | refine w_bl ?_ | refine w_int ?_ | refine w_T ?_ | refine w_F ?_ | refine w_nT ?_ | refine w_nF ?_ | refine q_len_tup ?_ | refine q_int ?_ | refine q_intB ?_ | refine q_add ?_ | refine q_sub ?_ | refine q_neg ?_ | refine q_ord ?_ | refine q_ordS ?_ | refine q_tuple_tup ?_ | refine qEq_int ?_)))
    refine q_append (xs := found) (by ((simp only [J.up]; (repeat' split) <;> simp_all))) (Nat.lt_of_lt_of_le (by omega : found.length < 4001) (by decide)) ?_
    refine ⟨_, _, TSub.refl _, ?_, m - 1, by omega, left.eraseIdx r, found ++ [left[r]], a', b', d', rfl, by rw [List.length_eraseIdx, if_pos hr]; omega, ?_, rfl⟩
    · ((intro a o e; simp only [J.up] at e ⊢; (repeat' split at e) <;> (repeat' split) <;> simp_all))
    · refine List.Perm.trans ?_ pm
      rw [List.append_assoc]
      exact (J.erase_perm hr).append_left found
  · have e : left = [] := hb.mp (by cases b' with
      | true => rfl
      | false => cases z)
    subst e
    show t_L_mixed_1 K c _ _ _ _
    unfold t_L_mixed_1
    (with_reducible (repeat (first | (first | refine w_var rfl ?_ | refine w_c ?_ | refine w_op ?_ | refine w_un ?_ | refine w_cl ?_ | refine w_nil ?_ | refine w_cons ?_ | refine w_tup ?_ | refine w_lst ?_ | refine w_test ?_ | refine w_not ?_ | refine w_and ?_ | refine w_or ?_ | refine w_andV ?_ | refine w_orV ?_ | refine w_notV ?_ | refine w_if ?_ | refine w_chn ?_ | refine w_call ?_ | refine w_make ?_ | refine w_fld ?_ | refine w_ml ?_ | refine w_ml0 ?_ | refine w_sl ?_ | refine w_slD ?_ | refine w_noPart ?_ | refine w_part ?_ | refine w_dictZ ?_ | refine w_lcA ?_ | refine w_ret ?_ | refine w_rt ?_ | refine w_ifS ?_ | refine w_next ?_ | refine w_break ?_ | refine w_cont ?_ | refine w_seq ?_ | refine w_asg ?_ | refine w_drop ?_ | refine w_par ?_ | refine w_sfld ?_ | refine w_asgT ?_ | refine w_gset ?_ | refine w_gname ?_ | refine w_gtup rfl ?_ | refine w_gcons ?_ | refine w_gnil ?_ | refine w_yes ?_) | refine w_bl ?_ | refine w_int ?_ | refine w_T ?_ | refine w_F ?_ | refine w_nT ?_ | refine w_nF ?_ | refine q_len_tup ?_ | refine q_int ?_ | refine q_intB ?_ | refine q_add ?_ | refine q_sub ?_ | refine q_neg ?_ | refine q_ord ?_ | refine q_ordS ?_ | refine q_tuple_tup ?_ | refine qEq_int ?_)))
    rw [List.append_nil] at pm
    refine hU _ _ _ ?_ (q _ _ ⟨f, found, a, b, d, rfl, pm, hf, rfl⟩)
    ((intro a o e; simp only [J.up] at e ⊢; (repeat' split at e) <;> (repeat' split) <;> simp_all))

end M

set_option Elab.async false
set_option linter.all false
set_option maxRecDepth 100000
set_option maxHeartbeats 4000000
/-! P8: loops, words. -/
namespace J
open PySem PySem.Spec L2 S
/-- a loop over xs -/
def ForOn (g : JGt) (tb : JSt) (R : JX) (D : JEnds) (τ : Tq) (xs : List Dv) (S : Hq → Prop) (G1 : Hq) : Prop := ∃ P : Nat → Tq → Hq → Prop, P 0 τ G1 ∧ (∀ i τ G, i ≤ xs.length → P i τ G → S G) ∧
  (∀ i x τ G, xs[i]? = some x → P i τ G → g R x τ G fun τ1 G1 => tb R { D with nx := Wk (P (i + 1)), ct := Wk (P (i + 1)), bk := D.nx } τ1 G1) ∧ ∀ τ G, P xs.length τ G → D.nx τ G
theorem w_forA {R : JX} {D : JEnds} {τ : Tq} {G : Hq} {t : Jt Dv} {g : JGt} {tb : JSt} (h : t R τ G fun x G1 => qSeq x G1 fun xs S G2 => ForOn g tb R D τ xs S G2) : jFor (jiAny t) g tb R D τ G := h
theorem w_forR1 {R : JX} {D : JEnds} {τ : Tq} {G : Hq} {ta : Jt (List Dv)} {g : JGt} {tb : JSt} (h : ta R τ G fun ws G1 => ∃ j : Int, ws = [.int j] ∧ -(2 ^ 62) ≤ j ∧ j < 2 ^ 62 ∧ ForOn g tb R D τ (rangeD 0 j.toNat) (fun _ => True) G1) : jFor (jiR1 ta) g tb R D τ G := h
theorem rangeD_len (lo : Int) (n : Nat) : (rangeD lo n).length = n := by unfold rangeD; simp
theorem rangeD_get {lo : Int} {n i : Nat} {x : Dv} (h : (rangeD lo n)[i]? = some x) : i < n ∧ x = .int (lo + (i : Nat)) := by
  unfold rangeD at h
  rw [List.getElem?_map] at h
  rcases Nat.lt_or_ge i n with z | z
  · rw [List.getElem?_eq_getElem (by simpa using z)] at h
    simp at h
    exact ⟨z, h.symm⟩
  · rw [List.getElem?_eq_none (by simpa using z)] at h; cases h
theorem app_cps (a b : Str) : (a ++ b).cps.toList = a.cps.toList ++ b.cps.toList := by
  show (a.cps ++ b.cps).toList = _
  simp
/-- no two of l are alike, all of them stand in m -/
theorem pigeon {α : Type} [DecidableEq α] : ∀ {l m : List α}, l.Nodup → (∀ x ∈ l, x ∈ m) → l.length ≤ m.length
  | [], _, _, _ => Nat.zero_le _
  | x :: l, m, nd, h => by
    have nd' := List.nodup_cons.mp nd
    have hx := h x List.mem_cons_self
    have := pigeon (m := m.erase x) nd'.2 fun y hy => (List.mem_erase_of_ne (fun e => nd'.1 (by rw [← e]; exact hy))).mpr (h y (List.mem_cons_of_mem _ hy))
    rw [List.length_erase_of_mem hx] at this
    have pos : 0 < m.length := List.length_pos_of_mem hx
    rw [List.length_cons]; omega
end J
namespace M
open PySem PySem.Spec L2 S J
def onS (p : Str → Bool) : Dv → Bool
  | .str z => p z
  | _ => false
def mapS (f : Str → Dv) : Dv → Dv
  | .str z => f z
  | _ => .non
theorem filter_dS {p : Str → Bool} : ∀ l, (dS l).filter (onS p) = dS (l.filter p)
  | [] => rfl
  | z :: l => by
    show (Dv.str z :: dS l).filter (onS p) = _
    rw [List.filter_cons, List.filter_cons, filter_dS l]
    show (if p z = true then _ else _) = dS (if p z = true then _ else _)
    split <;> rfl
theorem signs_dS (z : Str) : J.signs z = dS (z.cps.toList.map fun c => ⟨#[c]⟩) := by unfold J.signs dS; rw [List.map_map]; rfl
theorem map_dS {f : Str → Str} (l : List Str) : (dS l).map (mapS fun z => .str (f z)) = dS (l.map f) := by unfold dS; rw [List.map_map, List.map_map]; rfl
/-- pre and one sign of ls -/
def cands (pre ls : Str) : List Str := ls.cps.toList.map fun c => pre ++ ⟨#[c]⟩
theorem cands_nd {pre ls : Str} (h : ls.cps.toList.Nodup) : (cands pre ls).Nodup := by
  unfold cands
  rw [List.nodup_iff_pairwise_ne] at *
  rw [List.pairwise_map]
  refine h.imp fun {a b} ne e => ne ?_
  have := congrArg (fun z : Str => z.cps.toList) e
  simp only [app_cps] at this
  simpa using this
theorem cands_name {pre ls : Str} (hp : pre.cps.toList.length ≤ 7) (h1 : pre.cps.toList.all isLet = true) (h2 : ls.cps.toList.all isLet = true) : ∀ z ∈ cands pre ls, isName z = true := fun z hz => by
  obtain ⟨c, hc, rfl⟩ := List.mem_map.mp hz
  unfold isName
  rw [app_cps, List.all_append, h1, List.length_append]
  have := List.all_eq_true.mp h2 c hc
  simp only [List.length_singleton, List.all_cons, List.all_nil, this, Bool.and_true, Bool.and_eq_true, decide_eq_true_eq]
  exact ⟨by omega, by omega⟩
/-- [w for w in [pre + l for l in ls] if w not in xs][0] -/
theorem w_fresh {TL : Jt Dv} {i j k : Nat} {pre ls : Str} {ns : List Str} {R : JX} {τ : Tq} {G : Hq} {Q : KQ} {x : Dv} (hTL : ∀ Q : KQ, Q (.str ls) G → TL R τ G Q) (hτ : τ[k]? = some (some x)) (row : rowOf x G (dS ns)) (ik : i ≠ k) (jk : j ≠ k) (il : i < τ.length) (jl : j < τ.length)
    (nm : ∀ n ∈ ns, isName n = true) (lt : ns.length < ls.cps.toList.length) (few : ls.cps.toList.length ≤ 4000) (nd : ls.cps.toList.Nodup) (hp : pre.cps.toList.length ≤ 7) (h1 : pre.cps.toList.all isLet = true) (h2 : ls.cps.toList.all isLet = true)
    (q : ∀ w G', HSub G G' → isName w = true → w ∉ ns → Q (.str w) G') :
    jOp qIx2 (jLc (jiAny (jLc (jiAny TL) (jgName i) jYes (jOp qAdd (jC (.str pre)) (jVar i)) [i])) (jgName j) (jTest (jOp (qIn2 true) (jVar j) (jVar k))) (jVar j) [j]) (jC (.int 0)) R τ G Q := by
  refine w_op (w_lcA (w_lcA (hTL _ ?_)))
  have e1 : ((J.signs ls).filter fun _ => true).map (mapS fun z => .str (pre ++ z)) = dS (cands pre ls) := by
    rw [List.filter_eq_self.mpr (by intros; rfl), signs_dS, map_dS (f := fun z => pre ++ z)]
    unfold cands
    rw [List.map_map]; rfl
  have lc : (cands pre ls).length = ls.cps.toList.length := by unfold cands; rw [List.length_map]
  have cn := cands_name hp h1 h2
  refine lc_at (.str ls) (by rw [signs_len]; exact size_ge few) (fun _ => true) (mapS fun z => .str (pre ++ z)) (fun y hy => ?_) (fun p1 hp1 => ?_)
  · obtain ⟨c, hc, rfl⟩ := mem_signs hy
    intro G2 s N A _ hA
    refine w_gname (w_yes (w_T (w_op (w_c (w_var (x := .str ⟨#[c]⟩) ?_ (q_addS ?_ (hA rfl _ (HSub.refl _)))))))) 
    · simp [wipeT, il]
    · refine size_ge ?_
      have : pre.length ≤ 7 := by rw [len_str]; exact hp
      show pre.length + 1 ≤ 4000
      omega
  · rw [e1]
    have row1 := row.sub (HSub.new (o := .lst (dS (cands pre ls))) hp1)
    refine lc_at (.ad up_same) (by rw [dS_len, lc]; exact size_ge few) (onS fun z => !decide (z ∈ ns)) (fun y => y) (fun y hy => ?_) (fun p2 hp2 => ?_)
    · obtain ⟨z, hz, rfl⟩ := List.mem_map.mp hy
      intro G2 s N A hN hA
      have row2 := row1.sub s
      refine w_gname (w_test (w_op (w_var (x := .str z) ?_ (w_var (x := x) ?_ (qIn_row row2 (isName_ev (cn z hz)) (dS_ev nm) fun b hb => w_bl ?_)))))
      · simp [wipeT, jl]
      · simp [wipeT, List.getElem?_set, jk, hτ]
      · have hb2 : b = decide (z ∈ ns) := by rw [Bool.eq_iff_iff, hb, decide_eq_true_iff, mem_dS]
        subst hb2
        rw [Bool.true_xor]
        refine iteB (fun h => ?_) (fun h => hN h _ (HSub.refl _))
        refine w_var (x := .str z) ?_ (hA h _ (HSub.refl _))
        simp [wipeT, jl]
    · rw [filter_dS, List.map_id']
      have : ∃ z ∈ cands pre ls, z ∉ ns := by
        apply Classical.byContradiction
        intro hno
        have all : ∀ z ∈ cands pre ls, z ∈ ns := fun z hz => Classical.byContradiction fun h => hno ⟨z, hz, h⟩
        have := pigeon (cands_nd nd) all
        omega
      obtain ⟨z0, hz0, hn0⟩ := this
      have hm : z0 ∈ (cands pre ls).filter fun z => !decide (z ∈ ns) := List.mem_filter.mpr ⟨hz0, by simp [hn0]⟩
      cases hf : (cands pre ls).filter fun z => !decide (z ∈ ns) with
      | nil => rw [hf] at hm; cases hm
      | cons w r =>
        have hw : w ∈ (cands pre ls).filter fun z => !decide (z ∈ ns) := by rw [hf]; exact List.mem_cons_self
        have hw2 := List.mem_filter.mp hw
        refine w_c (q_ix_ad up_same (at_nat (i := 0) rfl) (q w _ ?_ (cn w hw2.1) (by simpa using hw2.2)))
        exact (HSub.new hp1).trans (HSub.new hp2)
theorem letters_all : letters.cps.toList.all isLet = true := by decide +kernel
theorem letters_nd : letters.cps.toList.Nodup := by decide +kernel
theorem letters_len : letters.cps.toList.length = 26 := by decide +kernel
theorem dS_snoc (ns : List Str) (z : Str) : dS (ns ++ [z]) = dS ns ++ [.str z] := by unfold dS; rw [List.map_append]; rfl
end M
namespace M
open PySem PySem.Spec L2 S J
theorem perm_map {α β : Type} {f : α → β} {ys zs : List β} (h : zs.Perm ys) : ∀ l : List α, zs = l.map f → ∃ l' : List α, ys = l'.map f ∧ l'.Perm l := by
  induction h with
  | nil => intro l e; exact ⟨[], rfl, by cases l with
    | nil => exact .refl _
    | cons => cases e⟩
  | cons x _ ih =>
    intro l e
    cases l with
    | nil => cases e
    | cons a l =>
      rw [List.map_cons] at e
      injection e with e1 e2
      obtain ⟨l', e3, p⟩ := ih l e2
      exact ⟨a :: l', by rw [List.map_cons, e1, e3], p.cons a⟩
  | swap x y l0 =>
    intro l e
    cases l with
    | nil => cases e
    | cons a l =>
      cases l with
      | nil => cases e
      | cons b l =>
        rw [List.map_cons, List.map_cons] at e
        injection e with e1 e2
        injection e2 with e2 e3
        exact ⟨b :: a :: l, by rw [List.map_cons, List.map_cons, e1, e2, e3], .swap _ _ _⟩
  | trans _ _ ih1 ih2 =>
    intro l e
    obtain ⟨l1, e1, p1⟩ := ih1 l e
    obtain ⟨l2, e2, p2⟩ := ih2 l1 e1
    exact ⟨l2, e2, p2.trans p1⟩
theorem perm_dEs {ys : List Dv} {es : List (Str × Str)} (h : ys.Perm (dEs es)) : ∃ fs, ys = dEs fs ∧ fs.Perm es := perm_map h.symm es rfl
theorem perm_dS {ys : List Dv} {es : List Str} (h : ys.Perm (dS es)) : ∃ fs, ys = dS fs ∧ fs.Perm es := perm_map h.symm es rfl
/-- the pairs (a, b), a < b, that begin in l and end in ns -/
def ends (ns : List Str) (a : Str) : List (Str × Str) := (ns.filter fun b => ltS a b).map fun b => (a, b)
def pairs (ns : List Str) (l : List Str) : List (Str × Str) := l.flatMap (ends ns)
theorem mem_ends {ns a} {e : Str × Str} : e ∈ ends ns a ↔ e.1 = a ∧ e.2 ∈ ns ∧ ltS a e.2 = true := by
  unfold ends
  rw [List.mem_map]
  constructor
  · rintro ⟨b, hb, rfl⟩
    have := List.mem_filter.mp hb
    exact ⟨rfl, this.1, this.2⟩
  · rintro ⟨rfl, h2, h3⟩
    exact ⟨e.2, List.mem_filter.mpr ⟨h2, h3⟩, rfl⟩
theorem mem_pairs {ns l} {e : Str × Str} : e ∈ pairs ns l ↔ e.1 ∈ l ∧ e.2 ∈ ns ∧ ltS e.1 e.2 = true := by
  unfold pairs
  rw [List.mem_flatMap]
  constructor
  · rintro ⟨a, ha, he⟩
    obtain ⟨rfl, h2, h3⟩ := mem_ends.mp he
    exact ⟨ha, h2, h3⟩
  · rintro ⟨h1, h2, h3⟩
    exact ⟨e.1, h1, mem_ends.mpr ⟨rfl, h2, h3⟩⟩
theorem ends_nd {ns a} (h : ns.Nodup) : (ends ns a).Nodup := by
  unfold ends
  have h2 := h.filter fun b => ltS a b
  rw [List.nodup_iff_pairwise_ne] at *
  rw [List.pairwise_map]
  exact h2.imp fun ne e => ne (congrArg (·.2) e)
theorem pairs_nd {ns : List Str} (h : ns.Nodup) : ∀ {l : List Str}, l.Nodup → (pairs ns l).Nodup
  | [], _ => List.nodup_nil
  | a :: l, hl => by
    have hl := List.nodup_cons.mp hl
    show (ends ns a ++ pairs ns l).Nodup
    rw [List.nodup_append]
    refine ⟨ends_nd h, pairs_nd h hl.2, fun x hx y hy e => ?_⟩
    subst e
    have h1 := (mem_ends.mp hx).1
    have h2 := (mem_pairs.mp hy).1
    exact hl.1 (by rw [← h1]; exact h2)
theorem ends_le (ns a) : (ends ns a).length ≤ ns.length := by unfold ends; rw [List.length_map]; exact List.length_filter_le _ _
theorem pairs_le (ns) : ∀ l : List Str, (pairs ns l).length ≤ l.length * ns.length
  | [] => by simp [pairs]
  | a :: l => by
    show (ends ns a ++ pairs ns l).length ≤ _
    rw [List.length_append, List.length_cons, Nat.add_mul, Nat.one_mul]
    have := ends_le ns a
    have := pairs_le ns l
    omega
theorem pairs_snoc {ns l a} : pairs ns (l ++ [a]) = pairs ns l ++ ends ns a := by unfold pairs; rw [List.flatMap_append]; simp
theorem dEs_app (a b : List (Str × Str)) : dEs (a ++ b) = dEs a ++ dEs b := by unfold dEs; rw [List.map_append]
theorem ends_d (ns a) : ((dS ns).filter (onS fun z => ltS a z)).map (mapS fun z => .tup [.str a, .str z]) = dEs (ends ns a) := by
  rw [filter_dS]
  unfold dS dEs ends
  rw [List.map_map, List.map_map]; rfl
theorem pairs_ok {ns : List Str} (v : OkV ns) {es : List (Str × Str)} (h : ∀ e ∈ es, e ∈ pairs ns ns) (nd : es.Nodup) (few : es.length ≤ 15) : OkE ns es :=
  ⟨few, fun e he => mem_pairs.mp (h e he), nd⟩
theorem pairs_ev {ns : List Str} (v : ∀ n ∈ ns, isName n = true) (l) (hl : ∀ n ∈ l, n ∈ ns) : Evs (dEs (pairs ns l)) := dEs_ev fun e he => by
  have := mem_pairs.mp he
  exact ⟨v _ (hl _ this.1), v _ this.2.1⟩
theorem cut_take {α : Type} (xs : List α) (i : Nat) : cutL xs none (some (i : Int)) = xs.take i := by
  unfold cutL
  rw [HT.sIx_none, HT.sIx_nat]
  rw [List.drop_zero, Nat.sub_zero]
  rcases Nat.le_total i xs.length with h | h
  · rw [Nat.min_eq_left h]
  · rw [Nat.min_eq_right h, List.take_length, List.take_of_length_le h]
theorem dEs_take (es : List (Str × Str)) (i) : (dEs es).take i = dEs (es.take i) := by unfold dEs; rw [List.map_take]
end M

set_option Elab.async false
set_option linter.all false
set_option maxRecDepth 100000
set_option maxHeartbeats 4000000
namespace M
open PySem PySem.Spec L2 S J
/-! ### L_words -/
abbrev N_L_words : List Str := ["_law_source", "_law_many", "_law_turn", "_law_letters", "_law_found", "_law_word", "_law_k", "_law_one_here", "_law_letter"]
def t_L_words_1 (K : PySem.W.Frag) (c : Ad) : JSt := (jDrop (jML qAppend (jVar 4) (jCons (jVar 5) jNil)))
def t_L_words_2 (K : PySem.W.Frag) (c : Ad) : JSt := (jSeq (jIfS (jTest (jOp (qIn2 false) (jVar 5) (jVar 4))) (jAsg (jOp qIx2 (jLc (jiAny (jLc (jiAny (jVar 3)) (jgName 8) jYes (jOp qAdd (jC (.str "qqqqqqq")) (jVar 8)) [8])) (jgName 7) (jTest (jOp (qIn2 true) (jVar 7) (jVar 4))) (jVar 7) [7]) (jC (.int 0))) (jgName 5)) jNext) (t_L_words_1 K c))
def t_L_words_3 (K : PySem.W.Frag) (c : Ad) : JSt := (jSeq (jFor (jiR1 (jCons (jOp qAdd (jC (.int 1)) (jCall (sp_L_next K c) (jCons (jVar 0) (jCons (jC (.int 8)) jNil)))) jNil)) (jgName 6) (jAsg (jOp qAdd (jVar 5) (jCall (sp_L_one K c) (jCons (jVar 0) (jCons (jVar 3) jNil)))) (jgName 5))) (t_L_words_2 K c))
def t_L_words_4 (K : PySem.W.Frag) (c : Ad) : JSt := (jRet (jVar 4))
def t_L_words_5 (K : PySem.W.Frag) (c : Ad) : JSt := (jSeq (jFor (jiR1 (jCons (jVar 1) jNil)) (jgName 2) (jSeq (jAsg (jC (.str "")) (jgName 5)) (t_L_words_3 K c))) (t_L_words_4 K c))
def t_L_words (K : PySem.W.Frag) (c : Ad) : JSt := (jSeq (jAsg (jTup (jCons (jC (.str "abcdefghijklmnopqrstuvwxyz")) (jCons (jLst jNil) jNil))) (jgTup 2 (jgCons (jgName 3) (jgCons (jgName 4) jgNil)))) (t_L_words_5 K c))
/-- n right names, no two alike, in a new list -/
def sp_L_words (K : PySem.W.Frag) (c : Ad) : Sq := spA fun ws G po => ∃ s a b d, ∃ n : Nat, ws = [.ad s, .int n] ∧ G s = some (so a b d) ∧ n ≤ 20 ∧ po = fun v G1 => ∃ p ns a b d, v = .ad p ∧ ns.length = n ∧ (∀ z ∈ ns, isName z = true) ∧ ns.Nodup ∧ G p = none ∧ G1 = up (up G s (so a b d)) p (.lst (dS ns))
theorem mono_L_words {K : PySem.W.Frag} {c : Ad} : MonoSq (sp_L_words K c) := spA.mono
theorem len_L_words {K : PySem.W.Frag} {c : Ad} : ∀ ws G Q E, sp_L_words K c ws G Q E → ws.length = (["_law_source", "_law_many"] : List Str).length := by
  rintro _ _ _ _ ⟨_, ⟨_, _, _, _, _, rfl, _⟩, _⟩; rfl
theorem pure_L_words {K : PySem.W.Frag} {c : Ad} : ∀ ws G Q E, Up Q → UpX E → sp_L_words K c ws G Q E → t_L_words K c (fun c f _ G => E c f G) { nx := fun _ G => Q .non G, rt := Q } (startT N_L_words ws) G := by
  rintro _ G Q E hU _ ⟨_, ⟨s, a, b, d, n, rfl, hs, hn, rfl⟩, q⟩
  unfold t_L_words
  (with_reducible (repeat (first | (first | refine w_var rfl ?_ | refine w_c ?_ | refine w_op ?_ | refine w_un ?_ | refine w_cl ?_ | refine w_nil ?_ | refine w_cons ?_ | refine w_tup ?_ | refine w_lst ?_ | refine w_test ?_ | refine w_not ?_ | refine w_and ?_ | refine w_or ?_ | refine w_andV ?_ | refine w_orV ?_ | refine w_notV ?_ | refine w_if ?_ | refine w_chn ?_ | refine w_call ?_ | refine w_make ?_ | refine w_fld ?_ | refine w_ml ?_ | refine w_ml0 ?_ | refine w_sl ?_ | refine w_slD ?_ | refine w_noPart ?_ | refine w_part ?_ | refine w_dictZ ?_ | refine w_lcA ?_ | refine w_ret ?_ | refine w_rt ?_ | refine w_ifS ?_ | refine w_next ?_ | refine w_break ?_ | refine w_cont ?_ | refine w_seq ?_ | refine w_asg ?_ | refine w_drop ?_ | refine w_par ?_ | refine w_sfld ?_ | refine w_asgT ?_ | refine w_gset ?_ | refine w_gname ?_ | refine w_gtup rfl ?_ | refine w_gcons ?_ | refine w_gnil ?_ | refine w_yes ?_) | refine w_bl ?_ | refine w_int ?_ | refine w_T ?_ | refine w_F ?_ | refine w_nT ?_ | refine w_nF ?_ | refine q_len_tup ?_ | refine q_int ?_ | refine q_intB ?_ | refine q_add ?_ | refine q_sub ?_ | refine q_neg ?_ | refine q_ord ?_ | refine q_ordS ?_ | refine q_tuple_tup ?_ | refine qEq_int ?_)))
  refine ⟨by show 0 ≤ sizeLine; exact Nat.zero_le _, fun f hf => ?_⟩
  have fs : f ≠ s := fun z => by subst z; rw [hf] at hs; cases hs
  (with_reducible (repeat (first | (first | refine w_var rfl ?_ | refine w_c ?_ | refine w_op ?_ | refine w_un ?_ | refine w_cl ?_ | refine w_nil ?_ | refine w_cons ?_ | refine w_tup ?_ | refine w_lst ?_ | refine w_test ?_ | refine w_not ?_ | refine w_and ?_ | refine w_or ?_ | refine w_andV ?_ | refine w_orV ?_ | refine w_notV ?_ | refine w_if ?_ | refine w_chn ?_ | refine w_call ?_ | refine w_make ?_ | refine w_fld ?_ | refine w_ml ?_ | refine w_ml0 ?_ | refine w_sl ?_ | refine w_slD ?_ | refine w_noPart ?_ | refine w_part ?_ | refine w_dictZ ?_ | refine w_lcA ?_ | refine w_ret ?_ | refine w_rt ?_ | refine w_ifS ?_ | refine w_next ?_ | refine w_break ?_ | refine w_cont ?_ | refine w_seq ?_ | refine w_asg ?_ | refine w_drop ?_ | refine w_par ?_ | refine w_sfld ?_ | refine w_asgT ?_ | refine w_gset ?_ | refine w_gname ?_ | refine w_gtup rfl ?_ | refine w_gcons ?_ | refine w_gnil ?_ | refine w_yes ?_) | refine w_bl ?_ | refine w_int ?_ | refine w_T ?_ | refine w_F ?_ | refine w_nT ?_ | refine w_nF ?_ | refine q_len_tup ?_ | refine q_int ?_ | refine q_intB ?_ | refine q_add ?_ | refine q_sub ?_ | refine q_neg ?_ | refine q_ord ?_ | refine q_ordS ?_ | refine q_tuple_tup ?_ | refine qEq_int ?_)))
  refine ⟨by show 2 ≤ sizeLine; decide, ?_⟩
  (with_reducible (repeat (first | (first | refine w_var rfl ?_ | refine w_c ?_ | refine w_op ?_ | refine w_un ?_ | refine w_cl ?_ | refine w_nil ?_ | refine w_cons ?_ | refine w_tup ?_ | refine w_lst ?_ | refine w_test ?_ | refine w_not ?_ | refine w_and ?_ | refine w_or ?_ | refine w_andV ?_ | refine w_orV ?_ | refine w_notV ?_ | refine w_if ?_ | refine w_chn ?_ | refine w_call ?_ | refine w_make ?_ | refine w_fld ?_ | refine w_ml ?_ | refine w_ml0 ?_ | refine w_sl ?_ | refine w_slD ?_ | refine w_noPart ?_ | refine w_part ?_ | refine w_dictZ ?_ | refine w_lcA ?_ | refine w_ret ?_ | refine w_rt ?_ | refine w_ifS ?_ | refine w_next ?_ | refine w_break ?_ | refine w_cont ?_ | refine w_seq ?_ | refine w_asg ?_ | refine w_drop ?_ | refine w_par ?_ | refine w_sfld ?_ | refine w_asgT ?_ | refine w_gset ?_ | refine w_gname ?_ | refine w_gtup rfl ?_ | refine w_gcons ?_ | refine w_gnil ?_ | refine w_yes ?_) | refine w_bl ?_ | refine w_int ?_ | refine w_T ?_ | refine w_F ?_ | refine w_nT ?_ | refine w_nF ?_ | refine q_len_tup ?_ | refine q_int ?_ | refine q_intB ?_ | refine q_add ?_ | refine q_sub ?_ | refine q_neg ?_ | refine q_ord ?_ | refine q_ordS ?_ | refine q_tuple_tup ?_ | refine qEq_int ?_)))
  unfold t_L_words_5
  (with_reducible (repeat (first | (first | refine w_var rfl ?_ | refine w_c ?_ | refine w_op ?_ | refine w_un ?_ | refine w_cl ?_ | refine w_nil ?_ | refine w_cons ?_ | refine w_tup ?_ | refine w_lst ?_ | refine w_test ?_ | refine w_not ?_ | refine w_and ?_ | refine w_or ?_ | refine w_andV ?_ | refine w_orV ?_ | refine w_notV ?_ | refine w_if ?_ | refine w_chn ?_ | refine w_call ?_ | refine w_make ?_ | refine w_fld ?_ | refine w_ml ?_ | refine w_ml0 ?_ | refine w_sl ?_ | refine w_slD ?_ | refine w_noPart ?_ | refine w_part ?_ | refine w_dictZ ?_ | refine w_lcA ?_ | refine w_ret ?_ | refine w_rt ?_ | refine w_ifS ?_ | refine w_next ?_ | refine w_break ?_ | refine w_cont ?_ | refine w_seq ?_ | refine w_asg ?_ | refine w_drop ?_ | refine w_par ?_ | refine w_sfld ?_ | refine w_asgT ?_ | refine w_gset ?_ | refine w_gname ?_ | refine w_gtup rfl ?_ | refine w_gcons ?_ | refine w_gnil ?_ | refine w_yes ?_) | refine w_bl ?_ | refine w_int ?_ | refine w_T ?_ | refine w_F ?_ | refine w_nT ?_ | refine w_nF ?_ | refine q_len_tup ?_ | refine q_int ?_ | refine q_intB ?_ | refine q_add ?_ | refine q_sub ?_ | refine q_neg ?_ | refine q_ord ?_ | refine q_ordS ?_ | refine q_tuple_tup ?_ | refine qEq_int ?_)))
  refine w_forR1 ?_
  (with_reducible (repeat (first | (first | refine w_var rfl ?_ | refine w_c ?_ | refine w_op ?_ | refine w_un ?_ | refine w_cl ?_ | refine w_nil ?_ | refine w_cons ?_ | refine w_tup ?_ | refine w_lst ?_ | refine w_test ?_ | refine w_not ?_ | refine w_and ?_ | refine w_or ?_ | refine w_andV ?_ | refine w_orV ?_ | refine w_notV ?_ | refine w_if ?_ | refine w_chn ?_ | refine w_call ?_ | refine w_make ?_ | refine w_fld ?_ | refine w_ml ?_ | refine w_ml0 ?_ | refine w_sl ?_ | refine w_slD ?_ | refine w_noPart ?_ | refine w_part ?_ | refine w_dictZ ?_ | refine w_lcA ?_ | refine w_ret ?_ | refine w_rt ?_ | refine w_ifS ?_ | refine w_next ?_ | refine w_break ?_ | refine w_cont ?_ | refine w_seq ?_ | refine w_asg ?_ | refine w_drop ?_ | refine w_par ?_ | refine w_sfld ?_ | refine w_asgT ?_ | refine w_gset ?_ | refine w_gname ?_ | refine w_gtup rfl ?_ | refine w_gcons ?_ | refine w_gnil ?_ | refine w_yes ?_) | refine w_bl ?_ | refine w_int ?_ | refine w_T ?_ | refine w_F ?_ | refine w_nT ?_ | refine w_nF ?_ | refine q_len_tup ?_ | refine q_int ?_ | refine q_intB ?_ | refine q_add ?_ | refine q_sub ?_ | refine q_neg ?_ | refine q_ord ?_ | refine q_ordS ?_ | refine q_tuple_tup ?_ | refine qEq_int ?_)))
  refine ⟨n, rfl, by omega, by omega, ?_⟩
  refine ⟨fun i τ G' => ∃ t2 t5 t6 t7 t8 ns a b d, τ = [some (.ad s), some (.int n), t2, some (.str letters), some (.ad f), t5, t6, t7, t8] ∧ ns.length = i ∧ (∀ z ∈ ns, isName z = true) ∧ ns.Nodup ∧ G' = up (up G s (so a b d)) f (.lst (dS ns)),
    ⟨none, none, none, none, none, [], a, b, d, rfl, rfl, (fun _ h => by cases h), List.nodup_nil, by rw [up_self hs]; rfl⟩, fun _ _ _ _ _ => trivial, ?_, ?_⟩
  · rintro i x _ _ hx ⟨t2, t5, t6, t7, t8, ns, a, b, d, rfl, hl, nm, nd, rfl⟩
    obtain ⟨hi, rfl⟩ := rangeD_get hx
    have hi' : i < n := by simpa using hi
    (with_reducible (repeat (first | (first | refine w_var rfl ?_ | refine w_c ?_ | refine w_op ?_ | refine w_un ?_ | refine w_cl ?_ | refine w_nil ?_ | refine w_cons ?_ | refine w_tup ?_ | refine w_lst ?_ | refine w_test ?_ | refine w_not ?_ | refine w_and ?_ | refine w_or ?_ | refine w_andV ?_ | refine w_orV ?_ | refine w_notV ?_ | refine w_if ?_ | refine w_chn ?_ | refine w_call ?_ | refine w_make ?_ | refine w_fld ?_ | refine w_ml ?_ | refine w_ml0 ?_ | refine w_sl ?_ | refine w_slD ?_ | refine w_noPart ?_ | refine w_part ?_ | refine w_dictZ ?_ | refine w_lcA ?_ | refine w_ret ?_ | refine w_rt ?_ | refine w_ifS ?_ | refine w_next ?_ | refine w_break ?_ | refine w_cont ?_ | refine w_seq ?_ | refine w_asg ?_ | refine w_drop ?_ | refine w_par ?_ | refine w_sfld ?_ | refine w_asgT ?_ | refine w_gset ?_ | refine w_gname ?_ | refine w_gtup rfl ?_ | refine w_gcons ?_ | refine w_gnil ?_ | refine w_yes ?_) | refine w_bl ?_ | refine w_int ?_ | refine w_T ?_ | refine w_F ?_ | refine w_nT ?_ | refine w_nF ?_ | refine q_len_tup ?_ | refine q_int ?_ | refine q_intB ?_ | refine q_add ?_ | refine q_sub ?_ | refine q_neg ?_ | refine q_ord ?_ | refine q_ordS ?_ | refine q_tuple_tup ?_ | refine qEq_int ?_)))
    unfold t_L_words_3
    (with_reducible (repeat (first | (first | refine w_var rfl ?_ | refine w_c ?_ | refine w_op ?_ | refine w_un ?_ | refine w_cl ?_ | refine w_nil ?_ | refine w_cons ?_ | refine w_tup ?_ | refine w_lst ?_ | refine w_test ?_ | refine w_not ?_ | refine w_and ?_ | refine w_or ?_ | refine w_andV ?_ | refine w_orV ?_ | refine w_notV ?_ | refine w_if ?_ | refine w_chn ?_ | refine w_call ?_ | refine w_make ?_ | refine w_fld ?_ | refine w_ml ?_ | refine w_ml0 ?_ | refine w_sl ?_ | refine w_slD ?_ | refine w_noPart ?_ | refine w_part ?_ | refine w_dictZ ?_ | refine w_lcA ?_ | refine w_ret ?_ | refine w_rt ?_ | refine w_ifS ?_ | refine w_next ?_ | refine w_break ?_ | refine w_cont ?_ | refine w_seq ?_ | refine w_asg ?_ | refine w_drop ?_ | refine w_par ?_ | refine w_sfld ?_ | refine w_asgT ?_ | refine w_gset ?_ | refine w_gname ?_ | refine w_gtup rfl ?_ | refine w_gcons ?_ | refine w_gnil ?_ | refine w_yes ?_) | refine w_bl ?_ | refine w_int ?_ | refine w_T ?_ | refine w_F ?_ | refine w_nT ?_ | refine w_nF ?_ | refine q_len_tup ?_ | refine q_int ?_ | refine q_intB ?_ | refine q_add ?_ | refine q_sub ?_ | refine q_neg ?_ | refine q_ord ?_ | refine q_ordS ?_ | refine q_tuple_tup ?_ | refine qEq_int ?_)))
    refine w_forR1 ?_
    (with_reducible (repeat (first | (first | refine w_var rfl ?_ | refine w_c ?_ | refine w_op ?_ | refine w_un ?_ | refine w_cl ?_ | refine w_nil ?_ | refine w_cons ?_ | refine w_tup ?_ | refine w_lst ?_ | refine w_test ?_ | refine w_not ?_ | refine w_and ?_ | refine w_or ?_ | refine w_andV ?_ | refine w_orV ?_ | refine w_notV ?_ | refine w_if ?_ | refine w_chn ?_ | refine w_call ?_ | refine w_make ?_ | refine w_fld ?_ | refine w_ml ?_ | refine w_ml0 ?_ | refine w_sl ?_ | refine w_slD ?_ | refine w_noPart ?_ | refine w_part ?_ | refine w_dictZ ?_ | refine w_lcA ?_ | refine w_ret ?_ | refine w_rt ?_ | refine w_ifS ?_ | refine w_next ?_ | refine w_break ?_ | refine w_cont ?_ | refine w_seq ?_ | refine w_asg ?_ | refine w_drop ?_ | refine w_par ?_ | refine w_sfld ?_ | refine w_asgT ?_ | refine w_gset ?_ | refine w_gname ?_ | refine w_gtup rfl ?_ | refine w_gcons ?_ | refine w_gnil ?_ | refine w_yes ?_) | refine w_bl ?_ | refine w_int ?_ | refine w_T ?_ | refine w_F ?_ | refine w_nT ?_ | refine w_nF ?_ | refine q_len_tup ?_ | refine q_int ?_ | refine q_intB ?_ | refine q_add ?_ | refine q_sub ?_ | refine q_neg ?_ | refine q_ord ?_ | refine q_ordS ?_ | refine q_tuple_tup ?_ | refine qEq_int ?_)))
    refine ⟨_, ⟨s, a, b, d, 8, rfl, by ((simp only [J.up]; (repeat' split) <;> simp_all)), by decide, by decide, rfl⟩, ?_⟩
    rintro _ _ ⟨r, a1, b1, d1, rfl, hr, rfl⟩
    rw [show up (up (up G s (so a b d)) f (.lst (dS ns))) s (so a1 b1 d1) = up (up G s (so a1 b1 d1)) f (.lst (dS ns)) by rw [up_comm fs, up_up]]
    (with_reducible (repeat (first | (first | refine w_var rfl ?_ | refine w_c ?_ | refine w_op ?_ | refine w_un ?_ | refine w_cl ?_ | refine w_nil ?_ | refine w_cons ?_ | refine w_tup ?_ | refine w_lst ?_ | refine w_test ?_ | refine w_not ?_ | refine w_and ?_ | refine w_or ?_ | refine w_andV ?_ | refine w_orV ?_ | refine w_notV ?_ | refine w_if ?_ | refine w_chn ?_ | refine w_call ?_ | refine w_make ?_ | refine w_fld ?_ | refine w_ml ?_ | refine w_ml0 ?_ | refine w_sl ?_ | refine w_slD ?_ | refine w_noPart ?_ | refine w_part ?_ | refine w_dictZ ?_ | refine w_lcA ?_ | refine w_ret ?_ | refine w_rt ?_ | refine w_ifS ?_ | refine w_next ?_ | refine w_break ?_ | refine w_cont ?_ | refine w_seq ?_ | refine w_asg ?_ | refine w_drop ?_ | refine w_par ?_ | refine w_sfld ?_ | refine w_asgT ?_ | refine w_gset ?_ | refine w_gname ?_ | refine w_gtup rfl ?_ | refine w_gcons ?_ | refine w_gnil ?_ | refine w_yes ?_) | refine w_bl ?_ | refine w_int ?_ | refine w_T ?_ | refine w_F ?_ | refine w_nT ?_ | refine w_nF ?_ | refine q_len_tup ?_ | refine q_int ?_ | refine q_intB ?_ | refine q_add ?_ | refine q_sub ?_ | refine q_neg ?_ | refine q_ord ?_ | refine q_ordS ?_ | refine q_tuple_tup ?_ | refine qEq_int ?_)))
    refine ⟨1 + r, rfl, by omega, by omega, ?_⟩
    refine ⟨fun k τ G' => ∃ t6 w a b d, τ = [some (.ad s), some (.int n), some (.int (0 + (i : Nat))), some (.str letters), some (.ad f), some (.str w), t6, t7, t8] ∧ w.cps.toList.length = k ∧ w.cps.toList.all isLet = true ∧ G' = up (up G s (so a b d)) f (.lst (dS ns)),
      ⟨t6, "", a1, b1, d1, rfl, rfl, rfl, rfl⟩, fun _ _ _ _ _ => trivial, ?_, ?_⟩
    · rintro k y _ _ hy ⟨t6, w, a, b, d, rfl, hk, hw, rfl⟩
      obtain ⟨hk2, rfl⟩ := rangeD_get hy
      (with_reducible (repeat (first | (first | refine w_var rfl ?_ | refine w_c ?_ | refine w_op ?_ | refine w_un ?_ | refine w_cl ?_ | refine w_nil ?_ | refine w_cons ?_ | refine w_tup ?_ | refine w_lst ?_ | refine w_test ?_ | refine w_not ?_ | refine w_and ?_ | refine w_or ?_ | refine w_andV ?_ | refine w_orV ?_ | refine w_notV ?_ | refine w_if ?_ | refine w_chn ?_ | refine w_call ?_ | refine w_make ?_ | refine w_fld ?_ | refine w_ml ?_ | refine w_ml0 ?_ | refine w_sl ?_ | refine w_slD ?_ | refine w_noPart ?_ | refine w_part ?_ | refine w_dictZ ?_ | refine w_lcA ?_ | refine w_ret ?_ | refine w_rt ?_ | refine w_ifS ?_ | refine w_next ?_ | refine w_break ?_ | refine w_cont ?_ | refine w_seq ?_ | refine w_asg ?_ | refine w_drop ?_ | refine w_par ?_ | refine w_sfld ?_ | refine w_asgT ?_ | refine w_gset ?_ | refine w_gname ?_ | refine w_gtup rfl ?_ | refine w_gcons ?_ | refine w_gnil ?_ | refine w_yes ?_) | refine w_bl ?_ | refine w_int ?_ | refine w_T ?_ | refine w_F ?_ | refine w_nT ?_ | refine w_nF ?_ | refine q_len_tup ?_ | refine q_int ?_ | refine q_intB ?_ | refine q_add ?_ | refine q_sub ?_ | refine q_neg ?_ | refine q_ord ?_ | refine q_ordS ?_ | refine q_tuple_tup ?_ | refine qEq_int ?_)))
      refine ⟨_, ⟨s, a, b, d, .str letters, J.signs letters, rfl, by ((simp only [J.up]; (repeat' split) <;> simp_all)), by rw [signs_len, letters_len]; decide, by rw [signs_len, letters_len]; decide, .inr ⟨letters, rfl, rfl, by rw [len_str, letters_len]; decide⟩, rfl⟩, ?_⟩
      rintro v _ ⟨a2, b2, d2, hv, rfl⟩
      obtain ⟨ch, hc, rfl⟩ := mem_signs hv
      refine q_addS ?_ ?_
      · rw [len_str, len_str, hk]
        refine size_ge ?_
        show k + 1 ≤ 4000
        omega
      refine ⟨_, _, TSub.refl _, HSub.refl _, _, w ++ ⟨#[ch]⟩, a2, b2, d2, rfl, ?_, ?_, by rw [up_comm fs, up_up]⟩
      · rw [app_cps, List.length_append, hk]; rfl
      · rw [app_cps, List.all_append, hw]
        have := List.all_eq_true.mp letters_all ch hc
        simpa using this
    · rintro _ _ ⟨t6, w, a, b, d, rfl, hk, hw, rfl⟩
      rw [rangeD_len] at hk
      have nw : isName w = true := by
        unfold isName
        rw [hw, hk]
        simp only [Bool.and_true, Bool.and_eq_true, decide_eq_true_eq]
        exact ⟨by omega, by omega⟩
      have fin : ∀ (w : Str) (G' : Hq), isName w = true → w ∉ ns → HSub (up (up G s (so a b d)) f (.lst (dS ns))) G' → ∀ (R : JX) (D : JEnds), (∀ τ2 G2, (∃ t2 t5 t6 t7 t8 ns a b d, τ2 = [some (.ad s), some (.int n), t2, some (.str letters), some (.ad f), t5, t6, t7, t8] ∧ ns.length = i + 1 ∧ (∀ z ∈ ns, isName z = true) ∧ ns.Nodup ∧ ∃ G3, G3 = up (up G s (so a b d)) f (.lst (dS ns)) ∧ HSub G3 G2) → D.nx τ2 G2) →
          t_L_words_1 K c R D [some (.ad s), some (.int n), some (.int (0 + (i : Nat))), some (.str letters), some (.ad f), some (.str w), t6, t7, t8] G' := by
        intro w G' nw hw' hsub R D k
        unfold t_L_words_1
        have hf' : G' f = some (.lst (dS ns)) := hsub _ _ up_same
        (with_reducible (repeat (first | (first | refine w_var rfl ?_ | refine w_c ?_ | refine w_op ?_ | refine w_un ?_ | refine w_cl ?_ | refine w_nil ?_ | refine w_cons ?_ | refine w_tup ?_ | refine w_lst ?_ | refine w_test ?_ | refine w_not ?_ | refine w_and ?_ | refine w_or ?_ | refine w_andV ?_ | refine w_orV ?_ | refine w_notV ?_ | refine w_if ?_ | refine w_chn ?_ | refine w_call ?_ | refine w_make ?_ | refine w_fld ?_ | refine w_ml ?_ | refine w_ml0 ?_ | refine w_sl ?_ | refine w_slD ?_ | refine w_noPart ?_ | refine w_part ?_ | refine w_dictZ ?_ | refine w_lcA ?_ | refine w_ret ?_ | refine w_rt ?_ | refine w_ifS ?_ | refine w_next ?_ | refine w_break ?_ | refine w_cont ?_ | refine w_seq ?_ | refine w_asg ?_ | refine w_drop ?_ | refine w_par ?_ | refine w_sfld ?_ | refine w_asgT ?_ | refine w_gset ?_ | refine w_gname ?_ | refine w_gtup rfl ?_ | refine w_gcons ?_ | refine w_gnil ?_ | refine w_yes ?_) | refine w_bl ?_ | refine w_int ?_ | refine w_T ?_ | refine w_F ?_ | refine w_nT ?_ | refine w_nF ?_ | refine q_len_tup ?_ | refine q_int ?_ | refine q_intB ?_ | refine q_add ?_ | refine q_sub ?_ | refine q_neg ?_ | refine q_ord ?_ | refine q_ordS ?_ | refine q_tuple_tup ?_ | refine qEq_int ?_)))
        refine ⟨⟨f, _, rfl, hf'⟩, ?_⟩
        (with_reducible (repeat (first | (first | refine w_var rfl ?_ | refine w_c ?_ | refine w_op ?_ | refine w_un ?_ | refine w_cl ?_ | refine w_nil ?_ | refine w_cons ?_ | refine w_tup ?_ | refine w_lst ?_ | refine w_test ?_ | refine w_not ?_ | refine w_and ?_ | refine w_or ?_ | refine w_andV ?_ | refine w_orV ?_ | refine w_notV ?_ | refine w_if ?_ | refine w_chn ?_ | refine w_call ?_ | refine w_make ?_ | refine w_fld ?_ | refine w_ml ?_ | refine w_ml0 ?_ | refine w_sl ?_ | refine w_slD ?_ | refine w_noPart ?_ | refine w_part ?_ | refine w_dictZ ?_ | refine w_lcA ?_ | refine w_ret ?_ | refine w_rt ?_ | refine w_ifS ?_ | refine w_next ?_ | refine w_break ?_ | refine w_cont ?_ | refine w_seq ?_ | refine w_asg ?_ | refine w_drop ?_ | refine w_par ?_ | refine w_sfld ?_ | refine w_asgT ?_ | refine w_gset ?_ | refine w_gname ?_ | refine w_gtup rfl ?_ | refine w_gcons ?_ | refine w_gnil ?_ | refine w_yes ?_) | refine w_bl ?_ | refine w_int ?_ | refine w_T ?_ | refine w_F ?_ | refine w_nT ?_ | refine w_nF ?_ | refine q_len_tup ?_ | refine q_int ?_ | refine q_intB ?_ | refine q_add ?_ | refine q_sub ?_ | refine q_neg ?_ | refine q_ord ?_ | refine q_ordS ?_ | refine q_tuple_tup ?_ | refine qEq_int ?_)))
        refine q_append hf' (by rw [dS_len, hl]; exact Nat.lt_of_lt_of_le (by omega : i < 4000) (by decide)) ?_
        refine k _ _ ⟨_, _, _, _, _, ns ++ [w], a, b, d, rfl, by rw [List.length_append, hl]; rfl, fun z hz => ?_, ?_, _, rfl, ?_⟩
        · rcases List.mem_append.mp hz with hz | hz
          · exact nm z hz
          · rw [List.mem_singleton.mp hz]; exact nw
        · rw [List.nodup_append]
          exact ⟨nd, by simp, fun x hx y hy e => hw' (by rw [← List.mem_singleton.mp hy, ← e]; exact hx)⟩
        · rw [dS_snoc]
          have := hsub.up (p := f) (o := .lst (dS ns ++ [.str w]))
          rwa [up_up] at this
      have done : ∀ τ2 G2, (∃ t2 t5 t6 t7 t8 ns a b d, τ2 = [some (.ad s), some (.int n), t2, some (.str letters), some (.ad f), t5, t6, t7, t8] ∧ ns.length = i + 1 ∧ (∀ z ∈ ns, isName z = true) ∧ ns.Nodup ∧ ∃ G3, G3 = up (up G s (so a b d)) f (.lst (dS ns)) ∧ HSub G3 G2) →
          Wk (fun τ G' => ∃ t2 t5 t6 t7 t8 ns a b d, τ = [some (.ad s), some (.int n), t2, some (.str letters), some (.ad f), t5, t6, t7, t8] ∧ ns.length = i + 1 ∧ (∀ z ∈ ns, isName z = true) ∧ ns.Nodup ∧ G' = up (up G s (so a b d)) f (.lst (dS ns))) τ2 G2 := by
        rintro τ2 G2 ⟨t2, t5, t6, t7, t8, ns, a, b, d, e, h1, h2, h3, G3, e3, h4⟩
        exact ⟨τ2, G3, TSub.refl _, h4, t2, t5, t6, t7, t8, ns, a, b, d, e, h1, h2, h3, e3⟩
      show t_L_words_2 K c _ _ _ _
      unfold t_L_words_2
      have rowf : rowOf (.ad f) (up (up G s (so a b d)) f (.lst (dS ns))) (dS ns) := .ad up_same
      (with_reducible (repeat (first | (first | refine w_var rfl ?_ | refine w_c ?_ | refine w_op ?_ | refine w_un ?_ | refine w_cl ?_ | refine w_nil ?_ | refine w_cons ?_ | refine w_tup ?_ | refine w_lst ?_ | refine w_test ?_ | refine w_not ?_ | refine w_and ?_ | refine w_or ?_ | refine w_andV ?_ | refine w_orV ?_ | refine w_notV ?_ | refine w_if ?_ | refine w_chn ?_ | refine w_call ?_ | refine w_make ?_ | refine w_fld ?_ | refine w_ml ?_ | refine w_ml0 ?_ | refine w_sl ?_ | refine w_slD ?_ | refine w_noPart ?_ | refine w_part ?_ | refine w_dictZ ?_ | refine w_lcA ?_ | refine w_ret ?_ | refine w_rt ?_ | refine w_ifS ?_ | refine w_next ?_ | refine w_break ?_ | refine w_cont ?_ | refine w_seq ?_ | refine w_asg ?_ | refine w_drop ?_ | refine w_par ?_ | refine w_sfld ?_ | refine w_asgT ?_ | refine w_gset ?_ | refine w_gname ?_ | refine w_gtup rfl ?_ | refine w_gcons ?_ | refine w_gnil ?_ | refine w_yes ?_) | refine w_bl ?_ | refine w_int ?_ | refine w_T ?_ | refine w_F ?_ | refine w_nT ?_ | refine w_nF ?_ | refine q_len_tup ?_ | refine q_int ?_ | refine q_intB ?_ | refine q_add ?_ | refine q_sub ?_ | refine q_neg ?_ | refine q_ord ?_ | refine q_ordS ?_ | refine q_tuple_tup ?_ | refine qEq_int ?_)))
      refine qIn_row rowf (isName_ev nw) (dS_ev nm) fun bb hb => ?_
      rw [Bool.false_xor]
      (with_reducible (repeat (first | (first | refine w_var rfl ?_ | refine w_c ?_ | refine w_op ?_ | refine w_un ?_ | refine w_cl ?_ | refine w_nil ?_ | refine w_cons ?_ | refine w_tup ?_ | refine w_lst ?_ | refine w_test ?_ | refine w_not ?_ | refine w_and ?_ | refine w_or ?_ | refine w_andV ?_ | refine w_orV ?_ | refine w_notV ?_ | refine w_if ?_ | refine w_chn ?_ | refine w_call ?_ | refine w_make ?_ | refine w_fld ?_ | refine w_ml ?_ | refine w_ml0 ?_ | refine w_sl ?_ | refine w_slD ?_ | refine w_noPart ?_ | refine w_part ?_ | refine w_dictZ ?_ | refine w_lcA ?_ | refine w_ret ?_ | refine w_rt ?_ | refine w_ifS ?_ | refine w_next ?_ | refine w_break ?_ | refine w_cont ?_ | refine w_seq ?_ | refine w_asg ?_ | refine w_drop ?_ | refine w_par ?_ | refine w_sfld ?_ | refine w_asgT ?_ | refine w_gset ?_ | refine w_gname ?_ | refine w_gtup rfl ?_ | refine w_gcons ?_ | refine w_gnil ?_ | refine w_yes ?_) | refine w_bl ?_ | refine w_int ?_ | refine w_T ?_ | refine w_F ?_ | refine w_nT ?_ | refine w_nF ?_ | refine q_len_tup ?_ | refine q_int ?_ | refine q_intB ?_ | refine q_add ?_ | refine q_sub ?_ | refine q_neg ?_ | refine q_ord ?_ | refine q_ordS ?_ | refine q_tuple_tup ?_ | refine qEq_int ?_)))
      refine iteB (fun z => ?_) (fun z => ?_)
      · refine w_asg (w_fresh (i := 8) (j := 7) (k := 4) (pre := "qqqqqqq") (ls := letters) (x := .ad f) (ns := ns) (fun Q h => w_var rfl h) rfl rowf (by decide) (by decide) (by show 8 < 9; decide) (by show 7 < 9; decide) nm (by rw [letters_len]; omega) (by rw [letters_len]; decide) letters_nd (by decide +kernel) (by decide +kernel) letters_all fun w' G' hs' nw' hn' => ?_)
        exact fin w' G' nw' hn' hs' _ _ done
      · (with_reducible (repeat (first | (first | refine w_var rfl ?_ | refine w_c ?_ | refine w_op ?_ | refine w_un ?_ | refine w_cl ?_ | refine w_nil ?_ | refine w_cons ?_ | refine w_tup ?_ | refine w_lst ?_ | refine w_test ?_ | refine w_not ?_ | refine w_and ?_ | refine w_or ?_ | refine w_andV ?_ | refine w_orV ?_ | refine w_notV ?_ | refine w_if ?_ | refine w_chn ?_ | refine w_call ?_ | refine w_make ?_ | refine w_fld ?_ | refine w_ml ?_ | refine w_ml0 ?_ | refine w_sl ?_ | refine w_slD ?_ | refine w_noPart ?_ | refine w_part ?_ | refine w_dictZ ?_ | refine w_lcA ?_ | refine w_ret ?_ | refine w_rt ?_ | refine w_ifS ?_ | refine w_next ?_ | refine w_break ?_ | refine w_cont ?_ | refine w_seq ?_ | refine w_asg ?_ | refine w_drop ?_ | refine w_par ?_ | refine w_sfld ?_ | refine w_asgT ?_ | refine w_gset ?_ | refine w_gname ?_ | refine w_gtup rfl ?_ | refine w_gcons ?_ | refine w_gnil ?_ | refine w_yes ?_) | refine w_bl ?_ | refine w_int ?_ | refine w_T ?_ | refine w_F ?_ | refine w_nT ?_ | refine w_nF ?_ | refine q_len_tup ?_ | refine q_int ?_ | refine q_intB ?_ | refine q_add ?_ | refine q_sub ?_ | refine q_neg ?_ | refine q_ord ?_ | refine q_ordS ?_ | refine q_tuple_tup ?_ | refine qEq_int ?_)))
        refine fin w _ nw (fun hm => ?_) (HSub.refl _) _ _ done
        rw [hb.mpr (mem_dS.mpr hm)] at z; cases z
  · rintro _ _ ⟨t2, t5, t6, t7, t8, ns, a, b, d, rfl, hl, nm, nd, rfl⟩
    rw [rangeD_len] at hl
    show t_L_words_4 K c _ _ _ _
    unfold t_L_words_4
    (with_reducible (repeat (first | (first | refine w_var rfl ?_ | refine w_c ?_ | refine w_op ?_ | refine w_un ?_ | refine w_cl ?_ | refine w_nil ?_ | refine w_cons ?_ | refine w_tup ?_ | refine w_lst ?_ | refine w_test ?_ | refine w_not ?_ | refine w_and ?_ | refine w_or ?_ | refine w_andV ?_ | refine w_orV ?_ | refine w_notV ?_ | refine w_if ?_ | refine w_chn ?_ | refine w_call ?_ | refine w_make ?_ | refine w_fld ?_ | refine w_ml ?_ | refine w_ml0 ?_ | refine w_sl ?_ | refine w_slD ?_ | refine w_noPart ?_ | refine w_part ?_ | refine w_dictZ ?_ | refine w_lcA ?_ | refine w_ret ?_ | refine w_rt ?_ | refine w_ifS ?_ | refine w_next ?_ | refine w_break ?_ | refine w_cont ?_ | refine w_seq ?_ | refine w_asg ?_ | refine w_drop ?_ | refine w_par ?_ | refine w_sfld ?_ | refine w_asgT ?_ | refine w_gset ?_ | refine w_gname ?_ | refine w_gtup rfl ?_ | refine w_gcons ?_ | refine w_gnil ?_ | refine w_yes ?_) | refine w_bl ?_ | refine w_int ?_ | refine w_T ?_ | refine w_F ?_ | refine w_nT ?_ | refine w_nF ?_ | refine q_len_tup ?_ | refine q_int ?_ | refine q_intB ?_ | refine q_add ?_ | refine q_sub ?_ | refine q_neg ?_ | refine q_ord ?_ | refine q_ordS ?_ | refine q_tuple_tup ?_ | refine qEq_int ?_)))
    exact q _ _ ⟨f, ns, a, b, d, rfl, by simpa using hl, nm, nd, hf, rfl⟩

end M

set_option Elab.async false
set_option linter.all false
set_option maxRecDepth 100000
set_option maxHeartbeats 4000000
namespace M
open PySem PySem.Spec L2 S J
/-! ### L_drawn -/
abbrev N_L_drawn : List Str := ["_law_source", "_law_names", "_law_edges", "_law_name", "_law_end"]
def t_L_drawn_1 (K : PySem.W.Frag) (c : Ad) : JSt := (jRet (jTup (jCons (jVar 1) (jCons (jSl (jCall (sp_L_mixed K c) (jCons (jVar 0) (jCons (jVar 2) jNil))) jNoPart (jPart (jCall (sp_L_one K c) (jCons (jVar 0) (jCons (jLst (jCons (jC (.int 15)) (jCons (jCl qLen (jCons (jVar 1) jNil)) (jCons (jCall (sp_L_next K c) (jCons (jVar 0) (jCons (jC (.int 16)) jNil))) jNil)))) jNil))))) jNil))))
def t_L_drawn_2 (K : PySem.W.Frag) (c : Ad) : JSt := (jSeq (jFor (jiAny (jVar 1)) (jgName 3) (jDrop (jML qExtend (jVar 2) (jCons (jLc (jiAny (jVar 1)) (jgName 4) (jTest (jOp qLt (jVar 3) (jVar 4))) (jTup (jCons (jVar 3) (jCons (jVar 4) jNil))) [4]) jNil)))) (t_L_drawn_1 K c))
def t_L_drawn_3 (K : PySem.W.Frag) (c : Ad) : JSt := (jSeq (jAsg (jLst jNil) (jgName 2)) (t_L_drawn_2 K c))
def t_L_drawn (K : PySem.W.Frag) (c : Ad) : JSt := (jSeq (jAsg (jCall (sp_L_words K c) (jCons (jVar 0) (jCons (jOp qAdd (jC (.int 1)) (jCall (sp_L_next K c) (jCons (jVar 0) (jCons (jC (.int 10)) jNil)))) jNil))) (jgName 1)) (t_L_drawn_3 K c))
/-- the names and the edges of some graph, in two new lists -/
def sp_L_drawn (K : PySem.W.Frag) (c : Ad) : Sq := spA fun ws G po => ∃ s a b d, ws = [.ad s] ∧ G s = some (so a b d) ∧ po = fun v G1 => ∃ p r ns es a b d, v = .tup [.ad p, .ad r] ∧ OkV ns ∧ OkE ns es ∧ p ≠ r ∧ G p = none ∧ G r = none ∧ G1 = up (up (up G s (so a b d)) p (.lst (dS ns))) r (.lst (dEs es))
theorem mono_L_drawn {K : PySem.W.Frag} {c : Ad} : MonoSq (sp_L_drawn K c) := spA.mono
theorem len_L_drawn {K : PySem.W.Frag} {c : Ad} : ∀ ws G Q E, sp_L_drawn K c ws G Q E → ws.length = (["_law_source"] : List Str).length := by
  rintro _ _ _ _ ⟨_, ⟨_, _, _, _, rfl, _⟩, _⟩; rfl
theorem pure_L_drawn {K : PySem.W.Frag} {c : Ad} : ∀ ws G Q E, Up Q → UpX E → sp_L_drawn K c ws G Q E → t_L_drawn K c (fun c f _ G => E c f G) { nx := fun _ G => Q .non G, rt := Q } (startT N_L_drawn ws) G := by
  rintro _ G Q E hU _ ⟨_, ⟨s, a, b, d, rfl, hs, rfl⟩, q⟩
  unfold t_L_drawn
  (with_reducible (repeat (first | (first | refine w_var rfl ?_ | refine w_c ?_ | refine w_op ?_ | refine w_un ?_ | refine w_cl ?_ | refine w_nil ?_ | refine w_cons ?_ | refine w_tup ?_ | refine w_lst ?_ | refine w_test ?_ | refine w_not ?_ | refine w_and ?_ | refine w_or ?_ | refine w_andV ?_ | refine w_orV ?_ | refine w_notV ?_ | refine w_if ?_ | refine w_chn ?_ | refine w_call ?_ | refine w_make ?_ | refine w_fld ?_ | refine w_ml ?_ | refine w_ml0 ?_ | refine w_sl ?_ | refine w_slD ?_ | refine w_noPart ?_ | refine w_part ?_ | refine w_dictZ ?_ | refine w_lcA ?_ | refine w_ret ?_ | refine w_rt ?_ | refine w_ifS ?_ | refine w_next ?_ | refine w_break ?_ | refine w_cont ?_ | refine w_seq ?_ | refine w_asg ?_ | refine w_drop ?_ | refine w_par ?_ | refine w_sfld ?_ | refine w_asgT ?_ | refine w_gset ?_ | refine w_gname ?_ | refine w_gtup rfl ?_ | refine w_gcons ?_ | refine w_gnil ?_ | refine w_yes ?_) | refine w_bl ?_ | refine w_int ?_ | refine w_T ?_ | refine w_F ?_ | refine w_nT ?_ | refine w_nF ?_ | refine q_len_tup ?_ | refine q_int ?_ | refine q_intB ?_ | refine q_add ?_ | refine q_sub ?_ | refine q_neg ?_ | refine q_ord ?_ | refine q_ordS ?_ | refine q_tuple_tup ?_ | refine qEq_int ?_)))
  refine ⟨_, ⟨s, a, b, d, 10, rfl, hs, by decide, by decide, rfl⟩, ?_⟩
  rintro _ _ ⟨r0, a, b, d, rfl, hr0, rfl⟩
  (with_reducible (repeat (first | (first | refine w_var rfl ?_ | refine w_c ?_ | refine w_op ?_ | refine w_un ?_ | refine w_cl ?_ | refine w_nil ?_ | refine w_cons ?_ | refine w_tup ?_ | refine w_lst ?_ | refine w_test ?_ | refine w_not ?_ | refine w_and ?_ | refine w_or ?_ | refine w_andV ?_ | refine w_orV ?_ | refine w_notV ?_ | refine w_if ?_ | refine w_chn ?_ | refine w_call ?_ | refine w_make ?_ | refine w_fld ?_ | refine w_ml ?_ | refine w_ml0 ?_ | refine w_sl ?_ | refine w_slD ?_ | refine w_noPart ?_ | refine w_part ?_ | refine w_dictZ ?_ | refine w_lcA ?_ | refine w_ret ?_ | refine w_rt ?_ | refine w_ifS ?_ | refine w_next ?_ | refine w_break ?_ | refine w_cont ?_ | refine w_seq ?_ | refine w_asg ?_ | refine w_drop ?_ | refine w_par ?_ | refine w_sfld ?_ | refine w_asgT ?_ | refine w_gset ?_ | refine w_gname ?_ | refine w_gtup rfl ?_ | refine w_gcons ?_ | refine w_gnil ?_ | refine w_yes ?_) | refine w_bl ?_ | refine w_int ?_ | refine w_T ?_ | refine w_F ?_ | refine w_nT ?_ | refine w_nF ?_ | refine q_len_tup ?_ | refine q_int ?_ | refine q_intB ?_ | refine q_add ?_ | refine q_sub ?_ | refine q_neg ?_ | refine q_ord ?_ | refine q_ordS ?_ | refine q_tuple_tup ?_ | refine qEq_int ?_)))
  refine ⟨_, ⟨s, a, b, d, 1 + r0, by simp, up_same, by omega, rfl⟩, ?_⟩
  rintro _ _ ⟨p, ns, a, b, d, rfl, hl, nm, nd, hp, rfl⟩
  rw [up_none] at hp
  obtain ⟨ps, hp⟩ := hp
  rw [up_up]
  have v : OkV ns := ⟨by omega, by omega, nm, nd⟩
  unfold t_L_drawn_3
  (with_reducible (repeat (first | (first | refine w_var rfl ?_ | refine w_c ?_ | refine w_op ?_ | refine w_un ?_ | refine w_cl ?_ | refine w_nil ?_ | refine w_cons ?_ | refine w_tup ?_ | refine w_lst ?_ | refine w_test ?_ | refine w_not ?_ | refine w_and ?_ | refine w_or ?_ | refine w_andV ?_ | refine w_orV ?_ | refine w_notV ?_ | refine w_if ?_ | refine w_chn ?_ | refine w_call ?_ | refine w_make ?_ | refine w_fld ?_ | refine w_ml ?_ | refine w_ml0 ?_ | refine w_sl ?_ | refine w_slD ?_ | refine w_noPart ?_ | refine w_part ?_ | refine w_dictZ ?_ | refine w_lcA ?_ | refine w_ret ?_ | refine w_rt ?_ | refine w_ifS ?_ | refine w_next ?_ | refine w_break ?_ | refine w_cont ?_ | refine w_seq ?_ | refine w_asg ?_ | refine w_drop ?_ | refine w_par ?_ | refine w_sfld ?_ | refine w_asgT ?_ | refine w_gset ?_ | refine w_gname ?_ | refine w_gtup rfl ?_ | refine w_gcons ?_ | refine w_gnil ?_ | refine w_yes ?_) | refine w_bl ?_ | refine w_int ?_ | refine w_T ?_ | refine w_F ?_ | refine w_nT ?_ | refine w_nF ?_ | refine q_len_tup ?_ | refine q_int ?_ | refine q_intB ?_ | refine q_add ?_ | refine q_sub ?_ | refine q_neg ?_ | refine q_ord ?_ | refine q_ordS ?_ | refine q_tuple_tup ?_ | refine qEq_int ?_)))
  refine ⟨by show 0 ≤ sizeLine; exact Nat.zero_le _, fun f hf => ?_⟩
  simp only [up_none] at hf
  obtain ⟨fp, fs, hf⟩ := hf
  unfold t_L_drawn_2
  (with_reducible (repeat (first | (first | refine w_var rfl ?_ | refine w_c ?_ | refine w_op ?_ | refine w_un ?_ | refine w_cl ?_ | refine w_nil ?_ | refine w_cons ?_ | refine w_tup ?_ | refine w_lst ?_ | refine w_test ?_ | refine w_not ?_ | refine w_and ?_ | refine w_or ?_ | refine w_andV ?_ | refine w_orV ?_ | refine w_notV ?_ | refine w_if ?_ | refine w_chn ?_ | refine w_call ?_ | refine w_make ?_ | refine w_fld ?_ | refine w_ml ?_ | refine w_ml0 ?_ | refine w_sl ?_ | refine w_slD ?_ | refine w_noPart ?_ | refine w_part ?_ | refine w_dictZ ?_ | refine w_lcA ?_ | refine w_ret ?_ | refine w_rt ?_ | refine w_ifS ?_ | refine w_next ?_ | refine w_break ?_ | refine w_cont ?_ | refine w_seq ?_ | refine w_asg ?_ | refine w_drop ?_ | refine w_par ?_ | refine w_sfld ?_ | refine w_asgT ?_ | refine w_gset ?_ | refine w_gname ?_ | refine w_gtup rfl ?_ | refine w_gcons ?_ | refine w_gnil ?_ | refine w_yes ?_) | refine w_bl ?_ | refine w_int ?_ | refine w_T ?_ | refine w_F ?_ | refine w_nT ?_ | refine w_nF ?_ | refine q_len_tup ?_ | refine q_int ?_ | refine q_intB ?_ | refine q_add ?_ | refine q_sub ?_ | refine q_neg ?_ | refine q_ord ?_ | refine q_ordS ?_ | refine q_tuple_tup ?_ | refine qEq_int ?_)))
  refine w_forA ?_
  (with_reducible (repeat (first | (first | refine w_var rfl ?_ | refine w_c ?_ | refine w_op ?_ | refine w_un ?_ | refine w_cl ?_ | refine w_nil ?_ | refine w_cons ?_ | refine w_tup ?_ | refine w_lst ?_ | refine w_test ?_ | refine w_not ?_ | refine w_and ?_ | refine w_or ?_ | refine w_andV ?_ | refine w_orV ?_ | refine w_notV ?_ | refine w_if ?_ | refine w_chn ?_ | refine w_call ?_ | refine w_make ?_ | refine w_fld ?_ | refine w_ml ?_ | refine w_ml0 ?_ | refine w_sl ?_ | refine w_slD ?_ | refine w_noPart ?_ | refine w_part ?_ | refine w_dictZ ?_ | refine w_lcA ?_ | refine w_ret ?_ | refine w_rt ?_ | refine w_ifS ?_ | refine w_next ?_ | refine w_break ?_ | refine w_cont ?_ | refine w_seq ?_ | refine w_asg ?_ | refine w_drop ?_ | refine w_par ?_ | refine w_sfld ?_ | refine w_asgT ?_ | refine w_gset ?_ | refine w_gname ?_ | refine w_gtup rfl ?_ | refine w_gcons ?_ | refine w_gnil ?_ | refine w_yes ?_) | refine w_bl ?_ | refine w_int ?_ | refine w_T ?_ | refine w_F ?_ | refine w_nT ?_ | refine w_nF ?_ | refine q_len_tup ?_ | refine q_int ?_ | refine q_intB ?_ | refine q_add ?_ | refine q_sub ?_ | refine q_neg ?_ | refine q_ord ?_ | refine q_ordS ?_ | refine q_tuple_tup ?_ | refine qEq_int ?_)))
  refine ⟨dS ns, by ((simp only [J.up]; (repeat' split) <;> simp_all)), ?_⟩
  refine ⟨fun i τ G' => ∃ t3 t4, τ = [some (.ad s), some (.ad p), some (.ad f), t3, t4] ∧ G' = up (up (up G s (so a b d)) p (.lst (dS ns))) f (.lst (dEs (pairs ns (ns.take i)))),
    ⟨none, none, rfl, rfl⟩, ?_, ?_, ?_⟩
  · rintro i _ _ _ ⟨t3, t4, rfl, rfl⟩
    ((simp only [J.up]; (repeat' split) <;> simp_all))
  · rintro i x _ _ hx ⟨t3, t4, rfl, rfl⟩
    have hx' : ∃ z, ns[i]? = some z ∧ x = .str z := by
      unfold dS at hx
      rw [List.getElem?_map] at hx
      cases e : ns[i]? with
      | none => rw [e] at hx; cases hx
      | some z => rw [e] at hx; cases hx; exact ⟨z, rfl, rfl⟩
    obtain ⟨z, hz, rfl⟩ := hx'
    have tk : ns.take (i + 1) = ns.take i ++ [z] := by rw [List.take_add_one, hz]; rfl
    (with_reducible (repeat (first | (first | refine w_var rfl ?_ | refine w_c ?_ | refine w_op ?_ | refine w_un ?_ | refine w_cl ?_ | refine w_nil ?_ | refine w_cons ?_ | refine w_tup ?_ | refine w_lst ?_ | refine w_test ?_ | refine w_not ?_ | refine w_and ?_ | refine w_or ?_ | refine w_andV ?_ | refine w_orV ?_ | refine w_notV ?_ | refine w_if ?_ | refine w_chn ?_ | refine w_call ?_ | refine w_make ?_ | refine w_fld ?_ | refine w_ml ?_ | refine w_ml0 ?_ | refine w_sl ?_ | refine w_slD ?_ | refine w_noPart ?_ | refine w_part ?_ | refine w_dictZ ?_ | refine w_lcA ?_ | refine w_ret ?_ | refine w_rt ?_ | refine w_ifS ?_ | refine w_next ?_ | refine w_break ?_ | refine w_cont ?_ | refine w_seq ?_ | refine w_asg ?_ | refine w_drop ?_ | refine w_par ?_ | refine w_sfld ?_ | refine w_asgT ?_ | refine w_gset ?_ | refine w_gname ?_ | refine w_gtup rfl ?_ | refine w_gcons ?_ | refine w_gnil ?_ | refine w_yes ?_) | refine w_bl ?_ | refine w_int ?_ | refine w_T ?_ | refine w_F ?_ | refine w_nT ?_ | refine w_nF ?_ | refine q_len_tup ?_ | refine q_int ?_ | refine q_intB ?_ | refine q_add ?_ | refine q_sub ?_ | refine q_neg ?_ | refine q_ord ?_ | refine q_ordS ?_ | refine q_tuple_tup ?_ | refine qEq_int ?_)))
    refine ⟨⟨f, dEs (pairs ns (ns.take i)), rfl, by ((simp only [J.up]; (repeat' split) <;> simp_all))⟩, ?_⟩
    (with_reducible (repeat (first | (first | refine w_var rfl ?_ | refine w_c ?_ | refine w_op ?_ | refine w_un ?_ | refine w_cl ?_ | refine w_nil ?_ | refine w_cons ?_ | refine w_tup ?_ | refine w_lst ?_ | refine w_test ?_ | refine w_not ?_ | refine w_and ?_ | refine w_or ?_ | refine w_andV ?_ | refine w_orV ?_ | refine w_notV ?_ | refine w_if ?_ | refine w_chn ?_ | refine w_call ?_ | refine w_make ?_ | refine w_fld ?_ | refine w_ml ?_ | refine w_ml0 ?_ | refine w_sl ?_ | refine w_slD ?_ | refine w_noPart ?_ | refine w_part ?_ | refine w_dictZ ?_ | refine w_lcA ?_ | refine w_ret ?_ | refine w_rt ?_ | refine w_ifS ?_ | refine w_next ?_ | refine w_break ?_ | refine w_cont ?_ | refine w_seq ?_ | refine w_asg ?_ | refine w_drop ?_ | refine w_par ?_ | refine w_sfld ?_ | refine w_asgT ?_ | refine w_gset ?_ | refine w_gname ?_ | refine w_gtup rfl ?_ | refine w_gcons ?_ | refine w_gnil ?_ | refine w_yes ?_) | refine w_bl ?_ | refine w_int ?_ | refine w_T ?_ | refine w_F ?_ | refine w_nT ?_ | refine w_nF ?_ | refine q_len_tup ?_ | refine q_int ?_ | refine q_intB ?_ | refine q_add ?_ | refine q_sub ?_ | refine q_neg ?_ | refine q_ord ?_ | refine q_ordS ?_ | refine q_tuple_tup ?_ | refine qEq_int ?_)))
    refine lc_at (xs := dS ns) (.ad (by ((simp only [J.up]; (repeat' split) <;> simp_all)))) (by rw [dS_len]; exact size_ge (by omega)) (onS fun y => ltS z y) (mapS fun y => .tup [.str z, .str y]) (fun y hy => ?_) (fun t ht => ?_)
    · obtain ⟨w, hw, rfl⟩ := List.mem_map.mp hy
      intro G2 _ N A hN hA
      (with_reducible (repeat (first | (first | refine w_var rfl ?_ | refine w_c ?_ | refine w_op ?_ | refine w_un ?_ | refine w_cl ?_ | refine w_nil ?_ | refine w_cons ?_ | refine w_tup ?_ | refine w_lst ?_ | refine w_test ?_ | refine w_not ?_ | refine w_and ?_ | refine w_or ?_ | refine w_andV ?_ | refine w_orV ?_ | refine w_notV ?_ | refine w_if ?_ | refine w_chn ?_ | refine w_call ?_ | refine w_make ?_ | refine w_fld ?_ | refine w_ml ?_ | refine w_ml0 ?_ | refine w_sl ?_ | refine w_slD ?_ | refine w_noPart ?_ | refine w_part ?_ | refine w_dictZ ?_ | refine w_lcA ?_ | refine w_ret ?_ | refine w_rt ?_ | refine w_ifS ?_ | refine w_next ?_ | refine w_break ?_ | refine w_cont ?_ | refine w_seq ?_ | refine w_asg ?_ | refine w_drop ?_ | refine w_par ?_ | refine w_sfld ?_ | refine w_asgT ?_ | refine w_gset ?_ | refine w_gname ?_ | refine w_gtup rfl ?_ | refine w_gcons ?_ | refine w_gnil ?_ | refine w_yes ?_) | refine w_bl ?_ | refine w_int ?_ | refine w_T ?_ | refine w_F ?_ | refine w_nT ?_ | refine w_nF ?_ | refine q_len_tup ?_ | refine q_int ?_ | refine q_intB ?_ | refine q_add ?_ | refine q_sub ?_ | refine q_neg ?_ | refine q_ord ?_ | refine q_ordS ?_ | refine q_tuple_tup ?_ | refine qEq_int ?_)))
      refine iteB (fun h => ?_) (fun h => hN h _ (HSub.refl _))
      (with_reducible (repeat (first | (first | refine w_var rfl ?_ | refine w_c ?_ | refine w_op ?_ | refine w_un ?_ | refine w_cl ?_ | refine w_nil ?_ | refine w_cons ?_ | refine w_tup ?_ | refine w_lst ?_ | refine w_test ?_ | refine w_not ?_ | refine w_and ?_ | refine w_or ?_ | refine w_andV ?_ | refine w_orV ?_ | refine w_notV ?_ | refine w_if ?_ | refine w_chn ?_ | refine w_call ?_ | refine w_make ?_ | refine w_fld ?_ | refine w_ml ?_ | refine w_ml0 ?_ | refine w_sl ?_ | refine w_slD ?_ | refine w_noPart ?_ | refine w_part ?_ | refine w_dictZ ?_ | refine w_lcA ?_ | refine w_ret ?_ | refine w_rt ?_ | refine w_ifS ?_ | refine w_next ?_ | refine w_break ?_ | refine w_cont ?_ | refine w_seq ?_ | refine w_asg ?_ | refine w_drop ?_ | refine w_par ?_ | refine w_sfld ?_ | refine w_asgT ?_ | refine w_gset ?_ | refine w_gname ?_ | refine w_gtup rfl ?_ | refine w_gcons ?_ | refine w_gnil ?_ | refine w_yes ?_) | refine w_bl ?_ | refine w_int ?_ | refine w_T ?_ | refine w_F ?_ | refine w_nT ?_ | refine w_nF ?_ | refine q_len_tup ?_ | refine q_int ?_ | refine q_intB ?_ | refine q_add ?_ | refine q_sub ?_ | refine q_neg ?_ | refine q_ord ?_ | refine q_ordS ?_ | refine q_tuple_tup ?_ | refine qEq_int ?_)))
      exact ⟨by show 2 ≤ sizeLine; decide, hA h _ (HSub.refl _)⟩
    · rw [ends_d]
      simp only [up_none] at ht
      obtain ⟨tf, tp, ts, ht⟩ := ht
      (with_reducible (repeat (first | (first | refine w_var rfl ?_ | refine w_c ?_ | refine w_op ?_ | refine w_un ?_ | refine w_cl ?_ | refine w_nil ?_ | refine w_cons ?_ | refine w_tup ?_ | refine w_lst ?_ | refine w_test ?_ | refine w_not ?_ | refine w_and ?_ | refine w_or ?_ | refine w_andV ?_ | refine w_orV ?_ | refine w_notV ?_ | refine w_if ?_ | refine w_chn ?_ | refine w_call ?_ | refine w_make ?_ | refine w_fld ?_ | refine w_ml ?_ | refine w_ml0 ?_ | refine w_sl ?_ | refine w_slD ?_ | refine w_noPart ?_ | refine w_part ?_ | refine w_dictZ ?_ | refine w_lcA ?_ | refine w_ret ?_ | refine w_rt ?_ | refine w_ifS ?_ | refine w_next ?_ | refine w_break ?_ | refine w_cont ?_ | refine w_seq ?_ | refine w_asg ?_ | refine w_drop ?_ | refine w_par ?_ | refine w_sfld ?_ | refine w_asgT ?_ | refine w_gset ?_ | refine w_gname ?_ | refine w_gtup rfl ?_ | refine w_gcons ?_ | refine w_gnil ?_ | refine w_yes ?_) | refine w_bl ?_ | refine w_int ?_ | refine w_T ?_ | refine w_F ?_ | refine w_nT ?_ | refine w_nF ?_ | refine q_len_tup ?_ | refine q_int ?_ | refine q_intB ?_ | refine q_add ?_ | refine q_sub ?_ | refine q_neg ?_ | refine q_ord ?_ | refine q_ordS ?_ | refine q_tuple_tup ?_ | refine qEq_int ?_)))
      refine q_extend (xs := dEs (pairs ns (ns.take i))) (ys := dEs (ends ns z)) (by ((simp only [J.up]; (repeat' split) <;> simp_all))) up_same ?_ ?_
      · rw [dEs_len, dEs_len]
        have h1 := pairs_le ns (ns.take i)
        have h2 := ends_le ns z
        have h3 : (ns.take i).length * ns.length ≤ 10 * 10 := Nat.mul_le_mul (by rw [List.length_take]; omega) v.few
        exact size_ge (by have := v.few; omega)
      · rw [← dEs_app, ← pairs_snoc, ← tk]
        refine ⟨_, _, TSub.refl _, ?_, _, _, rfl, rfl⟩
        ((intro a o e; simp only [J.up] at e ⊢; (repeat' split at e) <;> (repeat' split) <;> simp_all))
  · rintro _ _ ⟨t3, t4, rfl, rfl⟩
    rw [dS_len, List.take_length]
    have pl := pairs_le ns ns
    have pl2 : ns.length * ns.length ≤ 10 * 10 := Nat.mul_le_mul v.few v.few
    show t_L_drawn_1 K c _ _ _ _
    unfold t_L_drawn_1
    (with_reducible (repeat (first | (first | refine w_var rfl ?_ | refine w_c ?_ | refine w_op ?_ | refine w_un ?_ | refine w_cl ?_ | refine w_nil ?_ | refine w_cons ?_ | refine w_tup ?_ | refine w_lst ?_ | refine w_test ?_ | refine w_not ?_ | refine w_and ?_ | refine w_or ?_ | refine w_andV ?_ | refine w_orV ?_ | refine w_notV ?_ | refine w_if ?_ | refine w_chn ?_ | refine w_call ?_ | refine w_make ?_ | refine w_fld ?_ | refine w_ml ?_ | refine w_ml0 ?_ | refine w_sl ?_ | refine w_slD ?_ | refine w_noPart ?_ | refine w_part ?_ | refine w_dictZ ?_ | refine w_lcA ?_ | refine w_ret ?_ | refine w_rt ?_ | refine w_ifS ?_ | refine w_next ?_ | refine w_break ?_ | refine w_cont ?_ | refine w_seq ?_ | refine w_asg ?_ | refine w_drop ?_ | refine w_par ?_ | refine w_sfld ?_ | refine w_asgT ?_ | refine w_gset ?_ | refine w_gname ?_ | refine w_gtup rfl ?_ | refine w_gcons ?_ | refine w_gnil ?_ | refine w_yes ?_) | refine w_bl ?_ | refine w_int ?_ | refine w_T ?_ | refine w_F ?_ | refine w_nT ?_ | refine w_nF ?_ | refine q_len_tup ?_ | refine q_int ?_ | refine q_intB ?_ | refine q_add ?_ | refine q_sub ?_ | refine q_neg ?_ | refine q_ord ?_ | refine q_ordS ?_ | refine q_tuple_tup ?_ | refine qEq_int ?_)))
    refine ⟨_, ⟨s, a, b, d, .ad f, dEs (pairs ns ns), rfl, by ((simp only [J.up]; (repeat' split) <;> simp_all)), .ad up_same, pairs_ev nm ns (fun _ h => h), by rw [dEs_len]; omega, rfl⟩, ?_⟩
    rintro _ _ ⟨m, ys, a1, b1, d1, rfl, hys, hm, rfl⟩
    obtain ⟨es, rfl, pes⟩ := perm_dEs hys
    simp only [up_none] at hm
    obtain ⟨mf, mp, ms, hm⟩ := hm
    (with_reducible (repeat (first | (first | refine w_var rfl ?_ | refine w_c ?_ | refine w_op ?_ | refine w_un ?_ | refine w_cl ?_ | refine w_nil ?_ | refine w_cons ?_ | refine w_tup ?_ | refine w_lst ?_ | refine w_test ?_ | refine w_not ?_ | refine w_and ?_ | refine w_or ?_ | refine w_andV ?_ | refine w_orV ?_ | refine w_notV ?_ | refine w_if ?_ | refine w_chn ?_ | refine w_call ?_ | refine w_make ?_ | refine w_fld ?_ | refine w_ml ?_ | refine w_ml0 ?_ | refine w_sl ?_ | refine w_slD ?_ | refine w_noPart ?_ | refine w_part ?_ | refine w_dictZ ?_ | refine w_lcA ?_ | refine w_ret ?_ | refine w_rt ?_ | refine w_ifS ?_ | refine w_next ?_ | refine w_break ?_ | refine w_cont ?_ | refine w_seq ?_ | refine w_asg ?_ | refine w_drop ?_ | refine w_par ?_ | refine w_sfld ?_ | refine w_asgT ?_ | refine w_gset ?_ | refine w_gname ?_ | refine w_gtup rfl ?_ | refine w_gcons ?_ | refine w_gnil ?_ | refine w_yes ?_) | refine w_bl ?_ | refine w_int ?_ | refine w_T ?_ | refine w_F ?_ | refine w_nT ?_ | refine w_nF ?_ | refine q_len_tup ?_ | refine q_int ?_ | refine q_intB ?_ | refine q_add ?_ | refine q_sub ?_ | refine q_neg ?_ | refine q_ord ?_ | refine q_ordS ?_ | refine q_tuple_tup ?_ | refine qEq_int ?_)))
    refine q_len_ad (xs := dS ns) (by ((simp only [J.up]; (repeat' split) <;> simp_all))) ?_
    (with_reducible (repeat (first | (first | refine w_var rfl ?_ | refine w_c ?_ | refine w_op ?_ | refine w_un ?_ | refine w_cl ?_ | refine w_nil ?_ | refine w_cons ?_ | refine w_tup ?_ | refine w_lst ?_ | refine w_test ?_ | refine w_not ?_ | refine w_and ?_ | refine w_or ?_ | refine w_andV ?_ | refine w_orV ?_ | refine w_notV ?_ | refine w_if ?_ | refine w_chn ?_ | refine w_call ?_ | refine w_make ?_ | refine w_fld ?_ | refine w_ml ?_ | refine w_ml0 ?_ | refine w_sl ?_ | refine w_slD ?_ | refine w_noPart ?_ | refine w_part ?_ | refine w_dictZ ?_ | refine w_lcA ?_ | refine w_ret ?_ | refine w_rt ?_ | refine w_ifS ?_ | refine w_next ?_ | refine w_break ?_ | refine w_cont ?_ | refine w_seq ?_ | refine w_asg ?_ | refine w_drop ?_ | refine w_par ?_ | refine w_sfld ?_ | refine w_asgT ?_ | refine w_gset ?_ | refine w_gname ?_ | refine w_gtup rfl ?_ | refine w_gcons ?_ | refine w_gnil ?_ | refine w_yes ?_) | refine w_bl ?_ | refine w_int ?_ | refine w_T ?_ | refine w_F ?_ | refine w_nT ?_ | refine w_nF ?_ | refine q_len_tup ?_ | refine q_int ?_ | refine q_intB ?_ | refine q_add ?_ | refine q_sub ?_ | refine q_neg ?_ | refine q_ord ?_ | refine q_ordS ?_ | refine q_tuple_tup ?_ | refine qEq_int ?_)))
    refine ⟨_, ⟨s, a1, b1, d1, 16, rfl, by ((simp only [J.up]; (repeat' split) <;> simp_all)), by decide, by decide, rfl⟩, ?_⟩
    rintro _ _ ⟨r, a2, b2, d2, rfl, hr, rfl⟩
    (with_reducible (repeat (first | (first | refine w_var rfl ?_ | refine w_c ?_ | refine w_op ?_ | refine w_un ?_ | refine w_cl ?_ | refine w_nil ?_ | refine w_cons ?_ | refine w_tup ?_ | refine w_lst ?_ | refine w_test ?_ | refine w_not ?_ | refine w_and ?_ | refine w_or ?_ | refine w_andV ?_ | refine w_orV ?_ | refine w_notV ?_ | refine w_if ?_ | refine w_chn ?_ | refine w_call ?_ | refine w_make ?_ | refine w_fld ?_ | refine w_ml ?_ | refine w_ml0 ?_ | refine w_sl ?_ | refine w_slD ?_ | refine w_noPart ?_ | refine w_part ?_ | refine w_dictZ ?_ | refine w_lcA ?_ | refine w_ret ?_ | refine w_rt ?_ | refine w_ifS ?_ | refine w_next ?_ | refine w_break ?_ | refine w_cont ?_ | refine w_seq ?_ | refine w_asg ?_ | refine w_drop ?_ | refine w_par ?_ | refine w_sfld ?_ | refine w_asgT ?_ | refine w_gset ?_ | refine w_gname ?_ | refine w_gtup rfl ?_ | refine w_gcons ?_ | refine w_gnil ?_ | refine w_yes ?_) | refine w_bl ?_ | refine w_int ?_ | refine w_T ?_ | refine w_F ?_ | refine w_nT ?_ | refine w_nF ?_ | refine q_len_tup ?_ | refine q_int ?_ | refine q_intB ?_ | refine q_add ?_ | refine q_sub ?_ | refine q_neg ?_ | refine q_ord ?_ | refine q_ordS ?_ | refine q_tuple_tup ?_ | refine qEq_int ?_)))
    refine ⟨by show 3 ≤ sizeLine; decide, fun k hk => ?_⟩
    simp only [up_none] at hk
    obtain ⟨_, km, _, kf, kp, ks, hk⟩ := hk
    (with_reducible (repeat (first | (first | refine w_var rfl ?_ | refine w_c ?_ | refine w_op ?_ | refine w_un ?_ | refine w_cl ?_ | refine w_nil ?_ | refine w_cons ?_ | refine w_tup ?_ | refine w_lst ?_ | refine w_test ?_ | refine w_not ?_ | refine w_and ?_ | refine w_or ?_ | refine w_andV ?_ | refine w_orV ?_ | refine w_notV ?_ | refine w_if ?_ | refine w_chn ?_ | refine w_call ?_ | refine w_make ?_ | refine w_fld ?_ | refine w_ml ?_ | refine w_ml0 ?_ | refine w_sl ?_ | refine w_slD ?_ | refine w_noPart ?_ | refine w_part ?_ | refine w_dictZ ?_ | refine w_lcA ?_ | refine w_ret ?_ | refine w_rt ?_ | refine w_ifS ?_ | refine w_next ?_ | refine w_break ?_ | refine w_cont ?_ | refine w_seq ?_ | refine w_asg ?_ | refine w_drop ?_ | refine w_par ?_ | refine w_sfld ?_ | refine w_asgT ?_ | refine w_gset ?_ | refine w_gname ?_ | refine w_gtup rfl ?_ | refine w_gcons ?_ | refine w_gnil ?_ | refine w_yes ?_) | refine w_bl ?_ | refine w_int ?_ | refine w_T ?_ | refine w_F ?_ | refine w_nT ?_ | refine w_nF ?_ | refine q_len_tup ?_ | refine q_int ?_ | refine q_intB ?_ | refine q_add ?_ | refine q_sub ?_ | refine q_neg ?_ | refine q_ord ?_ | refine q_ordS ?_ | refine q_tuple_tup ?_ | refine qEq_int ?_)))
    refine ⟨_, ⟨s, a2, b2, d2, .ad k, _, rfl, by ((simp only [J.up]; (repeat' split) <;> simp_all)), by show 0 < 3; decide, by show 3 < 2 ^ 60; decide, .inl ⟨.ad up_same, fun e => ks (by cases e; rfl)⟩, rfl⟩, ?_⟩
    rintro vv _ ⟨a3, b3, d3, hv, rfl⟩
    have hj : ∃ j : Nat, vv = .int j ∧ j ≤ 15 := by
      rcases List.mem_cons.mp hv with rfl | hv
      · exact ⟨15, rfl, by omega⟩
      rcases List.mem_cons.mp hv with rfl | hv
      · exact ⟨(dS ns).length, rfl, by rw [dS_len]; have := v.few; omega⟩
      rcases List.mem_cons.mp hv with rfl | hv
      · exact ⟨r, rfl, by omega⟩
      · cases hv
    obtain ⟨j, rfl, hj⟩ := hj
    (with_reducible (repeat (first | (first | refine w_var rfl ?_ | refine w_c ?_ | refine w_op ?_ | refine w_un ?_ | refine w_cl ?_ | refine w_nil ?_ | refine w_cons ?_ | refine w_tup ?_ | refine w_lst ?_ | refine w_test ?_ | refine w_not ?_ | refine w_and ?_ | refine w_or ?_ | refine w_andV ?_ | refine w_orV ?_ | refine w_notV ?_ | refine w_if ?_ | refine w_chn ?_ | refine w_call ?_ | refine w_make ?_ | refine w_fld ?_ | refine w_ml ?_ | refine w_ml0 ?_ | refine w_sl ?_ | refine w_slD ?_ | refine w_noPart ?_ | refine w_part ?_ | refine w_dictZ ?_ | refine w_lcA ?_ | refine w_ret ?_ | refine w_rt ?_ | refine w_ifS ?_ | refine w_next ?_ | refine w_break ?_ | refine w_cont ?_ | refine w_seq ?_ | refine w_asg ?_ | refine w_drop ?_ | refine w_par ?_ | refine w_sfld ?_ | refine w_asgT ?_ | refine w_gset ?_ | refine w_gname ?_ | refine w_gtup rfl ?_ | refine w_gcons ?_ | refine w_gnil ?_ | refine w_yes ?_) | refine w_bl ?_ | refine w_int ?_ | refine w_T ?_ | refine w_F ?_ | refine w_nT ?_ | refine w_nF ?_ | refine q_len_tup ?_ | refine q_int ?_ | refine q_intB ?_ | refine q_add ?_ | refine q_sub ?_ | refine q_neg ?_ | refine q_ord ?_ | refine q_ordS ?_ | refine q_tuple_tup ?_ | refine qEq_int ?_)))
    refine q_sl_ad (xs := dEs es) (by ((simp only [J.up]; (repeat' split) <;> simp_all))) fun z hz => ?_
    rw [cut_take, dEs_take]
    simp only [up_none] at hz
    obtain ⟨zs, zk, _, zm, _, zf, zp, _, hz⟩ := hz
    (with_reducible (repeat (first | (first | refine w_var rfl ?_ | refine w_c ?_ | refine w_op ?_ | refine w_un ?_ | refine w_cl ?_ | refine w_nil ?_ | refine w_cons ?_ | refine w_tup ?_ | refine w_lst ?_ | refine w_test ?_ | refine w_not ?_ | refine w_and ?_ | refine w_or ?_ | refine w_andV ?_ | refine w_orV ?_ | refine w_notV ?_ | refine w_if ?_ | refine w_chn ?_ | refine w_call ?_ | refine w_make ?_ | refine w_fld ?_ | refine w_ml ?_ | refine w_ml0 ?_ | refine w_sl ?_ | refine w_slD ?_ | refine w_noPart ?_ | refine w_part ?_ | refine w_dictZ ?_ | refine w_lcA ?_ | refine w_ret ?_ | refine w_rt ?_ | refine w_ifS ?_ | refine w_next ?_ | refine w_break ?_ | refine w_cont ?_ | refine w_seq ?_ | refine w_asg ?_ | refine w_drop ?_ | refine w_par ?_ | refine w_sfld ?_ | refine w_asgT ?_ | refine w_gset ?_ | refine w_gname ?_ | refine w_gtup rfl ?_ | refine w_gcons ?_ | refine w_gnil ?_ | refine w_yes ?_) | refine w_bl ?_ | refine w_int ?_ | refine w_T ?_ | refine w_F ?_ | refine w_nT ?_ | refine w_nF ?_ | refine q_len_tup ?_ | refine q_int ?_ | refine q_intB ?_ | refine q_add ?_ | refine q_sub ?_ | refine q_neg ?_ | refine q_ord ?_ | refine q_ordS ?_ | refine q_tuple_tup ?_ | refine qEq_int ?_)))
    refine ⟨by show 2 ≤ sizeLine; decide, ?_⟩
    have ok : OkE ns (es.take j) := by
      refine pairs_ok v (fun e he => pes.mem_iff.mp (List.mem_of_mem_take he)) ?_ (by rw [List.length_take]; omega)
      exact ((pairs_nd nd nd).perm pes.symm).sublist (List.take_sublist _ _)
    refine hU _ _ _ ?_ (q _ _ ⟨p, z, ns, es.take j, a3, b3, d3, rfl, v, ok, fun e => zp e.symm, hp, hz, rfl⟩)
    ((intro a o e; simp only [J.up] at e ⊢; (repeat' split at e) <;> (repeat' split) <;> simp_all))

end M

set_option Elab.async false
set_option linter.all false
set_option maxRecDepth 100000
set_option maxHeartbeats 4000000
/-! P9: a heap in which only the source has changed, and new objects stand. -/
namespace M
open PySem PySem.Spec L2 S J
/-- since G0 only the source at s has changed; there may be more objects -/
def Cur (G0 : Hq) (s : Addr) (G : Hq) : Prop := ∃ a b d, HSub (up G0 s (so a b d)) G
theorem Cur.of {G0 : Hq} {s : Addr} {a b d : Int} (h : G0 s = some (so a b d)) : Cur G0 s G0 := ⟨a, b, d, by rw [up_self h]; exact HSub.refl _⟩
theorem Cur.src {G0 G : Hq} {s : Addr} (h : Cur G0 s G) : ∃ a b d, G s = some (so a b d) := by
  obtain ⟨a, b, d, h⟩ := h; exact ⟨a, b, d, h _ _ up_same⟩
theorem Cur.get {G0 G : Hq} {s x : Addr} {o : Ob} (h : Cur G0 s G) (e : G0 x = some o) (ne : x ≠ s) : G x = some o := by
  obtain ⟨a, b, d, h⟩ := h; exact h _ _ (by rw [up_ne ne]; exact e)
theorem Cur.sub {G0 G G' : Hq} {s : Addr} (h : Cur G0 s G) (k : HSub G G') : Cur G0 s G' := by
  obtain ⟨a, b, d, h⟩ := h; exact ⟨a, b, d, h.trans k⟩
theorem Cur.new {G0 G : Hq} {s p : Addr} {o : Ob} (h : Cur G0 s G) (f : G p = none) : Cur G0 s (up G p o) := h.sub (HSub.new f)
theorem Cur.set {G0 G : Hq} {s : Addr} (h : Cur G0 s G) (a b d : Int) : Cur G0 s (up G s (so a b d)) := by
  obtain ⟨a', b', d', h⟩ := h
  refine ⟨a, b, d, ?_⟩
  have := h.up (p := s) (o := so a b d)
  rwa [up_up] at this
theorem Cur.trans {G0 G1 G : Hq} {s : Addr} (h : Cur G0 s G1) (k : Cur G1 s G) : Cur G0 s G := by
  obtain ⟨a, b, d, h⟩ := h
  obtain ⟨a', b', d', k⟩ := k
  refine ⟨a', b', d', ?_⟩
  have := h.up (p := s) (o := so a' b' d')
  rw [up_up] at this
  exact this.trans k
theorem Cur.none {G0 G : Hq} {s p : Addr} (h : Cur G0 s G) (e : G p = none) (i : ∃ o, G0 s = some o) : G0 p = none ∧ p ≠ s := by
  obtain ⟨a, b, d, h⟩ := h
  have := HSub.none h e
  rw [up_none] at this
  exact ⟨this.2, this.1⟩
theorem Cur.ends {G0 G : Hq} {s : Addr} {v : Dv} {Q : KQ} (h : Cur G0 s G) (hU : Up Q) (q : ∀ a b d, Q v (up G0 s (so a b d))) : Q v G := by
  obtain ⟨a, b, d, h⟩ := h; exact hU _ _ _ h (q a b d)
/-- a graph stands at g -/
def Gr (c : Ad) (G : Hq) (g : Addr) (ns : List Str) (es : List (Str × Str)) : Prop := G g = some (.ins c.cGraph (gFs ns es))
end M

set_option Elab.async false
set_option linter.all false
set_option maxRecDepth 100000
set_option maxHeartbeats 4000000
/-! P10: edges sorted: one list for all orders. -/
namespace M
open PySem PySem.Spec L2 S J
theorem sorted_uniq {α : Type} {le : α → α → Bool} (anti : ∀ a b, le a b = true → le b a = true → a = b) : ∀ {l m : List α}, l.Perm m → l.Pairwise (fun a b => le a b = true) → m.Pairwise (fun a b => le a b = true) → l = m
  | [], m, p, _, _ => by rw [List.nil_perm.mp p]
  | a :: l, [], p, _, _ => by have := p.length_eq; simp at this
  | a :: l, b :: m, p, h1, h2 => by
    have h1' := List.pairwise_cons.mp h1
    have h2' := List.pairwise_cons.mp h2
    have ab : a = b := by
      have ha : a ∈ b :: m := p.mem_iff.mp List.mem_cons_self
      have hb : b ∈ a :: l := p.mem_iff.mpr List.mem_cons_self
      rcases List.mem_cons.mp ha with e | ha
      · exact e
      rcases List.mem_cons.mp hb with e | hb
      · exact e.symm
      exact anti a b (h1'.1 b hb) (h2'.1 a ha)
    subst ab
    rw [sorted_uniq anti ((List.perm_cons a).mp p) h1'.2 h2'.2]
abbrev KO := PyProof.Rows.listOrd PyProof.Rows.itemOrd
theorem leD_iff {x y : Dv} : leD x y = true ↔ PyProof.Rows.KeyOrd.kle (O := KO) (PySem.W.keyToks (dP x)) (PySem.W.keyToks (dP y)) := by
  unfold leD ltD PySem.W.dataLt PyProof.Rows.KeyOrd.kle
  simp
theorem leD_trans (x y z : Dv) (h1 : leD x y = true) (h2 : leD y z = true) : leD x z = true := leD_iff.mpr (PyProof.Rows.KeyOrd.kle_trans (leD_iff.mp h1) (leD_iff.mp h2))
theorem leD_total (x y : Dv) : (leD x y || leD y x) = true := by
  unfold leD
  cases h : ltD x y with
  | false => simp
  | true =>
    have : ltD y x = false := by
      cases h2 : ltD y x with
      | false => rfl
      | true =>
        have h3 : KO.blt (PySem.W.keyToks (dP x)) (PySem.W.keyToks (dP x)) = true := KO.trans _ _ _ h h2
        rw [KO.irrefl] at h3; cases h3
    simp [this]
theorem leE_anti (e f : Str × Str) (h1 : leE e f = true) (h2 : leE f e = true) : e = f := by
  have := PyProof.Rows.KeyOrd.kle_antisymm (leD_iff.mp h1) (leD_iff.mp h2)
  simp only [dP, dPs, PySem.W.keyToks, PySem.W.keyToksAll, List.cons_append, List.nil_append, List.cons.injEq, Sum.inr.injEq, true_and, and_true] at this
  exact Prod.ext (PySem.W.str_of_cps this.1) (PySem.W.str_of_cps this.2)
theorem sortE_sorted (es : List (Str × Str)) : (sortE es).Pairwise fun a b => leE a b = true := List.pairwise_mergeSort (le := leE) (fun a b c => leD_trans (dEdge a) (dEdge b) (dEdge c)) (fun a b => leD_total (dEdge a) (dEdge b)) es
theorem sortE_eq {es fs : List (Str × Str)} : sortE es = sortE fs ↔ es.Perm fs := by
  constructor
  · intro h
    exact (List.mergeSort_perm es leE).symm.trans ((h ▸ List.Perm.refl _ : (sortE es).Perm (sortE fs)).trans (List.mergeSort_perm fs leE))
  · intro h
    exact sorted_uniq leE_anti (((List.mergeSort_perm es leE).trans h).trans (List.mergeSort_perm fs leE).symm) (sortE_sorted es) (sortE_sorted fs)
theorem rev_one {α : Type} {l : List α} (nd : l.Nodup) (pos : 1 ≤ l.length) : l = l.reverse ↔ l.length = 1 := by
  constructor
  · intro h
    match l, nd, pos, h with
    | [a], _, _, _ => rfl
    | a :: b :: r, nd, _, h =>
      exfalso
      have nd1 := (List.nodup_cons.mp nd).1
      have : (a :: b :: r).getLast? = some a := by
        have e := congrArg List.getLast? h
        rw [e, List.getLast?_reverse]; rfl
      rw [List.getLast?_cons_cons] at this
      exact nd1 (List.mem_of_getLast? this)
  · intro h
    match l, h with
    | [a], _ => rfl
theorem qEq_bl {neg : Bool} {a b : Bool} {G : Hq} {Q : KQ} (q : Q (.bl (xor neg (decide (a = b)))) G) : qEq neg (.bl a) (.bl b) G Q := by
  refine ⟨.bool a, .bool b, .bl a, .bl b, by rfl, by rfl, ?_⟩
  rw [show PyData.eqv (.bool a) (.bool b) = decide (a = b) by rw [PyData.eqv]; cases a <;> cases b <;> rfl]
  exact q
theorem OkE.rev {ns es} (h : OkE ns es) : OkE ns.reverse es := ⟨h.few, fun e he => ⟨List.mem_reverse.mpr (h.ends e he).1, List.mem_reverse.mpr (h.ends e he).2.1, (h.ends e he).2.2⟩, h.nd⟩
theorem OkV.rev {ns} (v : OkV ns) : OkV ns.reverse := ⟨by rw [List.length_reverse]; exact v.pos, by rw [List.length_reverse]; exact v.few, fun n hn => v.name n (List.mem_reverse.mp hn), (List.reverse_perm ns).symm.nodup v.nd⟩
theorem OkV.perm {ns ms} (v : OkV ns) (p : ms.Perm ns) : OkV ms := ⟨by rw [p.length_eq]; exact v.pos, by rw [p.length_eq]; exact v.few, fun n hn => v.name n (p.mem_iff.mp hn), p.symm.nodup v.nd⟩
theorem OkE.permV {ns ms es} (h : OkE ns es) (p : ms.Perm ns) : OkE ms es := ⟨h.few, fun e he => ⟨p.mem_iff.mpr (h.ends e he).1, p.mem_iff.mpr (h.ends e he).2.1, (h.ends e he).2.2⟩, h.nd⟩
theorem OkE.sub {ns es fs} (h : OkE ns es) (s : fs.Sublist es) : OkE ns fs := ⟨Nat.le_trans s.length_le h.few, fun e he => h.ends e (s.subset he), h.nd.sublist s⟩
theorem OkE.permE {ns es fs} (h : OkE ns es) (p : fs.Perm es) : OkE ns fs := ⟨by rw [p.length_eq]; exact h.few, fun e he => h.ends e (p.mem_iff.mp he), p.symm.nodup h.nd⟩
theorem OkE.mono {ns ms es} (h : OkE ns es) (s : ∀ n ∈ ns, n ∈ ms) : OkE ms es := ⟨h.few, fun e he => ⟨s _ (h.ends e he).1, s _ (h.ends e he).2.1, (h.ends e he).2.2⟩, h.nd⟩
theorem OkV.snoc {ns w} (v : OkV ns) (lt : ns.length < 10) (nw : isName w = true) (hn : w ∉ ns) : OkV (ns ++ [w]) := by
  refine ⟨by rw [List.length_append]; have := v.pos; omega, by rw [List.length_append, List.length_singleton]; omega, fun z hz => ?_, ?_⟩
  · rcases List.mem_append.mp hz with hz | hz
    · exact v.name z hz
    · rw [List.mem_singleton.mp hz]; exact nw
  · rw [List.nodup_append]
    exact ⟨v.nd, by simp, fun x hx y hy e => hn (by rw [← List.mem_singleton.mp hy, ← e]; exact hx)⟩
end M

set_option Elab.async false
set_option linter.all false
set_option maxRecDepth 100000
set_option maxHeartbeats 4000000
/-! P11: names renamed. -/
namespace M
open PySem PySem.Spec L2 S J
theorem str_ext {a b : Str} (h : a.cps.toList = b.cps.toList) : a = b := PySem.W.str_of_cps h
theorem ltS_irrefl (a : Str) : ltS a a = false := by unfold ltS; exact decide_eq_false (List.lt_irrefl _)
theorem ltS_asymm {a b : Str} (h : ltS a b = true) : ltS b a = false := by
  unfold ltS at *
  exact decide_eq_false (List.lt_asymm (of_decide_eq_true h))
theorem ltS_tri {a b : Str} (h : a ≠ b) : ltS a b = true ∨ ltS b a = true := by
  unfold ltS
  rw [decide_eq_true_iff, decide_eq_true_iff]
  by_cases h1 : a.cps.toList < b.cps.toList
  · exact .inl h1
  · by_cases h2 : b.cps.toList < a.cps.toList
    · exact .inr h2
    · exact absurd (str_ext (List.le_antisymm (List.not_lt.mp h2) (List.not_lt.mp h1))) h
theorem ltD_str (a b : Str) : ltD (.str a) (.str b) = ltS a b := by unfold ltD; simp only [dP]; rw [PySem.W.dataLt_str]; rfl
def mm (e : Str × Str) : Str × Str := (if ltS e.2 e.1 then e.2 else e.1, if ltS e.1 e.2 then e.2 else e.1)
theorem min_two (a b : Str) : minV (.str a) [.str b] = .str (mm (a, b)).1 := by
  show (if ltD (.str b) (.str a) = true then Dv.str b else Dv.str a) = _
  rw [ltD_str]; unfold mm; split <;> rfl
theorem max_two (a b : Str) : maxV (.str a) [.str b] = .str (mm (a, b)).2 := by
  show (if ltD (.str a) (.str b) = true then Dv.str b else Dv.str a) = _
  rw [ltD_str]; unfold mm; split <;> rfl
theorem minOk2 (a b : Str) : MinOk [.str a, .str b] := by
  refine ⟨⟨fun x hx => ?_, fun d hd d' hd' => ?_, fun x hx => ?_⟩, fun x hx => ?_⟩
  · rcases List.mem_cons.mp hx with rfl | hx
    · simp [isK]
    · rw [List.mem_singleton.mp hx]; simp [isK]
  · simp [dP] at hd hd'
    rcases hd with rfl | rfl <;> rcases hd' with rfl | rfl <;> simp [PySem.W.alike]
  · rcases List.mem_cons.mp hx with rfl | hx
    · simp [dP, PyData.depth]
    · rw [List.mem_singleton.mp hx]; simp [dP, PyData.depth]
  · rcases List.mem_cons.mp hx with rfl | hx
    · simp [dP]
    · rw [List.mem_singleton.mp hx]; simp [dP]
theorem q_min2 {a b : Str} {G : Hq} {Q : KQ} (q : Q (.str (mm (a, b)).1) G) : qMin [.tup [.str a, .str b]] G Q := ⟨_, .str a, [.str b], rfl, .inr (.inl rfl), minOk2 a b, by rw [min_two]; exact q⟩
theorem q_max2 {a b : Str} {G : Hq} {Q : KQ} (q : Q (.str (mm (a, b)).2) G) : qMax [.tup [.str a, .str b]] G Q := ⟨_, .str a, [.str b], rfl, .inr (.inl rfl), minOk2 a b, by rw [max_two]; exact q⟩
theorem mm_or {e : Str × Str} (h : e.1 ≠ e.2) : (mm e = e ∧ ltS e.1 e.2 = true) ∨ (mm e = (e.2, e.1) ∧ ltS e.2 e.1 = true) := by
  unfold mm
  rcases ltS_tri h with h | h
  · exact .inl ⟨by rw [ltS_asymm h, h]; rfl, h⟩
  · exact .inr ⟨by rw [ltS_asymm h, h]; rfl, h⟩
/-- f is one to one on ns, and es are edges of ns: the edges renamed -/
theorem OkE.map {ns : List Str} {es : List (Str × Str)} {f : Str → Str} (h : OkE ns es) (inj : ∀ a ∈ ns, ∀ b ∈ ns, f a = f b → a = b) : OkE (ns.map f) (es.map fun e => mm (f e.1, f e.2)) := by
  have ne : ∀ e ∈ es, f e.1 ≠ f e.2 := fun e he z => by
    have := inj _ (h.ends e he).1 _ (h.ends e he).2.1 z
    have lt := (h.ends e he).2.2
    rw [this, ltS_irrefl] at lt; cases lt
  refine ⟨by rw [List.length_map]; exact h.few, fun x hx => ?_, ?_⟩
  · obtain ⟨e, he, rfl⟩ := List.mem_map.mp hx
    have m1 := List.mem_map_of_mem (f := f) (h.ends e he).1
    have m2 := List.mem_map_of_mem (f := f) (h.ends e he).2.1
    rcases mm_or (e := (f e.1, f e.2)) (ne e he) with ⟨z, l⟩ | ⟨z, l⟩
    · rw [z]; exact ⟨m1, m2, l⟩
    · rw [z]; exact ⟨m2, m1, l⟩
  · have nd := h.nd
    rw [List.nodup_iff_pairwise_ne] at nd ⊢
    rw [List.pairwise_map]
    refine nd.imp_of_mem fun {a b} ha hb hab e => hab ?_
    have ia := h.ends a ha
    have ib := h.ends b hb
    rcases mm_or (e := (f a.1, f a.2)) (ne a ha) with ⟨z, _⟩ | ⟨z, _⟩ <;> rcases mm_or (e := (f b.1, f b.2)) (ne b hb) with ⟨y, _⟩ | ⟨y, _⟩ <;> rw [z, y] at e <;> injection e with e1 e2
    · exact Prod.ext (inj _ ia.1 _ ib.1 e1) (inj _ ia.2.1 _ ib.2.1 e2)
    · have h1 := inj _ ia.1 _ ib.2.1 e1
      have h2 := inj _ ia.2.1 _ ib.1 e2
      have l1 := ia.2.2
      rw [h1, h2, ltS_asymm ib.2.2] at l1; cases l1
    · have h1 := inj _ ia.2.1 _ ib.1 e1
      have h2 := inj _ ia.1 _ ib.2.1 e2
      have l1 := ia.2.2
      rw [h1, h2, ltS_asymm ib.2.2] at l1; cases l1
    · exact Prod.ext (inj _ ia.1 _ ib.1 e2) (inj _ ia.2.1 _ ib.2.1 e1)
theorem OkV.map {ns : List Str} {f : Str → Str} (v : OkV ns) (inj : ∀ a ∈ ns, ∀ b ∈ ns, f a = f b → a = b) (nm : ∀ a ∈ ns, isName (f a) = true) : OkV (ns.map f) := by
  refine ⟨by rw [List.length_map]; exact v.pos, by rw [List.length_map]; exact v.few, fun n hn => ?_, ?_⟩
  · obtain ⟨a, ha, rfl⟩ := List.mem_map.mp hn
    exact nm a ha
  · have nd := v.nd
    rw [List.nodup_iff_pairwise_ne] at nd ⊢
    rw [List.pairwise_map]
    exact nd.imp_of_mem fun {a b} ha hb hab e => hab (inj _ ha _ hb e)
theorem set_map {ns : List Str} (nd : ns.Nodup) {r : Nat} (hr : r < ns.length) (w : Str) : ns.take r ++ [w] ++ ns.drop (r + 1) = ns.map fun a => if a = ns[r] then w else a := by
  have e : ns.set r w = ns.take r ++ w :: ns.drop (r + 1) := by rw [List.set_eq_take_append_cons_drop, if_pos hr]
  rw [List.append_assoc, List.singleton_append, ← e]
  refine List.ext_getElem (by simp) fun i h1 h2 => ?_
  rw [List.getElem_set, List.getElem_map]
  have hi : i < ns.length := by simpa using h1
  by_cases e : r = i
  · subst e; rw [if_pos rfl, if_pos rfl]
  · have ne : ¬ ns[i] = ns[r] := fun z => by
      have pw := List.pairwise_iff_getElem.mp nd
      rcases Nat.lt_or_gt_of_ne e with h | h
      · exact pw r i hr hi h z.symm
      · exact pw i r hi hr h z
    rw [if_neg e, if_neg ne]
theorem gPut_new {κ β : Type} [DecidableEq κ] {acc : List (κ × β)} {k : κ} {v : β} (h : ∀ x ∈ acc, x.1 ≠ k) : gPut acc k v = acc ++ [(k, v)] := by
  unfold gPut
  rw [if_neg]
  rw [Bool.not_eq_true, List.any_eq_false]
  intro x hx
  simpa using h x hx
theorem gMerge_nd {κ β : Type} [DecidableEq κ] : ∀ (l acc : List (κ × β)), (l.map (·.1)).Nodup → (∀ x ∈ acc, ∀ y ∈ l, x.1 ≠ y.1) → gMerge acc l = acc ++ l
  | [], acc, _, _ => by show acc = _; rw [List.append_nil]
  | (k, v) :: l, acc, nd, dj => by
    have nd := List.nodup_cons.mp nd
    show gMerge (gPut acc k v) l = _
    rw [gPut_new fun x hx => dj x hx (k, v) List.mem_cons_self, gMerge_nd l _ nd.2 fun x hx y hy => ?_, List.append_assoc]; rfl
    rcases List.mem_append.mp hx with hx | hx
    · exact dj x hx y (List.mem_cons_of_mem _ hy)
    · rw [List.mem_singleton.mp hx]
      exact fun e => nd.1 (List.mem_map.mpr ⟨y, hy, e.symm⟩)
theorem zip_map2 {α β γ : Type} {f : α → β} {g : α → γ} : ∀ l : List α, (l.map f).zip (l.map g) = l.map fun a => (f a, g a)
  | [] => rfl
  | a :: l => by rw [List.map_cons, List.map_cons, List.zip_cons_cons, zip_map2 l]; rfl
/-- the table that renames -/
def tab (f : Str → Str) (ns : List Str) : List (Key × Dv) := ns.map fun a => (.inr a, .str (f a))
theorem tab_of {ns : List Str} {f : Str → Str} (nd : ns.Nodup) : gMerge [] ((ns.map fun a => (Sum.inr a : Key)).zip (dS (ns.map f))) = tab f ns := by
  have e : (ns.map fun a => (Sum.inr a : Key)).zip (dS (ns.map f)) = tab f ns := by
    unfold dS tab
    rw [List.map_map, zip_map2]; rfl
  rw [e, gMerge_nd _ [] ?_ (fun x hx => by cases hx)]; rfl
  unfold tab
  rw [List.map_map]
  rw [List.nodup_iff_pairwise_ne] at *
  rw [List.pairwise_map]
  exact nd.imp fun ne z => ne (by injection z)
theorem tab_get {f : Str → Str} : ∀ {ns : List Str} {a : Str}, a ∈ ns → gGet (tab f ns) (.inr a) = some (.str (f a))
  | b :: ns, a, h => by
    by_cases e : b = a
    · subst e; simp [tab, gGet]
    · have : gGet (tab f (b :: ns)) (.inr a) = gGet (tab f ns) (.inr a) := by
        have ne : ¬ ((Sum.inr b : Key) = .inr a) := fun z => e (by injection z)
        simp [tab, gGet, List.find?_cons, e]
      rw [this]
      exact tab_get (List.mem_of_ne_of_mem (Ne.symm e) h)
theorem cut_drop {α : Type} (xs : List α) (k : Nat) : cutL xs (some (k : Int)) none = xs.drop k := by
  unfold cutL
  rw [HT.sIx_nat, HT.sIx_none]
  rcases Nat.le_total k xs.length with h | h
  · rw [Nat.min_eq_left h, ← List.length_drop, List.take_length]
  · rw [Nat.min_eq_right h, List.drop_length, List.drop_of_length_le h]; simp
end M

set_option Elab.async false
set_option linter.all false
set_option maxRecDepth 100000
set_option maxHeartbeats 4000000
/-! P12: edges exchanged. -/
namespace M
open PySem PySem.Spec L2 S J
def onE (p : Str × Str → Bool) : Dv → Bool
  | .tup [.str a, .str b] => p (a, b)
  | _ => false
theorem filter_dEs {p : Str × Str → Bool} : ∀ l, (dEs l).filter (onE p) = dEs (l.filter p)
  | [] => rfl
  | z :: l => by
    show (dEdge z :: dEs l).filter (onE p) = _
    rw [List.filter_cons, List.filter_cons, filter_dEs l]
    show (if p (z.1, z.2) = true then _ else _) = dEs (if p z = true then _ else _)
    split <;> rfl
def notIn (es : List (Str × Str)) (e : Str × Str) : Bool := !decide (e ∈ es)
theorem notIn_iff {es e} : notIn es e = true ↔ e ∉ es := by simp [notIn]
theorem rest_ends (ns : List Str) (es : List (Str × Str)) (a : Str) : ((dS ns).filter (onS fun z => ltS a z && notIn es (a, z))).map (mapS fun z => .tup [.str a, .str z]) = dEs ((ends ns a).filter (notIn es)) := by
  rw [filter_dS]
  unfold dS dEs ends
  rw [List.map_map, List.filter_map, List.map_map, List.filter_filter]
  congr 1
  refine List.filter_congr fun z _ => ?_
  simp [Bool.and_comm]
theorem kept_len {es gs : List (Str × Str)} (nd : gs.Nodup) (sub : ∀ e ∈ gs, e ∈ es) (nde : es.Nodup) : (es.filter (notIn gs)).length + gs.length ≤ es.length := by
  have : (es.filter (notIn gs) ++ gs).Nodup := by
    rw [List.nodup_append]
    exact ⟨nde.filter _, nd, fun x hx y hy e => notIn_iff.mp (List.mem_filter.mp hx).2 (by rw [e]; exact hy)⟩
  have := pigeon this fun x hx => by
    rcases List.mem_append.mp hx with h | h
    · exact (List.mem_filter.mp h).1
    · exact sub x h
  rwa [List.length_append] at this
/-- es without gs, and as many (or fewer) of the rest -/
theorem swap_ok {ns : List Str} {es gs ys : List (Str × Str)} (h : OkE ns es) (nd : gs.Nodup) (sub : ∀ e ∈ gs, e ∈ es) (ndy : ys.Nodup) (few : ys.length ≤ gs.length) (hy : ∀ e ∈ ys, e ∈ pairs ns ns ∧ e ∉ es) : OkE ns (es.filter (notIn gs) ++ ys) := by
  refine ⟨?_, fun e he => ?_, ?_⟩
  · have := kept_len nd sub h.nd
    have := h.few
    rw [List.length_append]; omega
  · rcases List.mem_append.mp he with he | he
    · exact h.ends e (List.mem_filter.mp he).1
    · exact mem_pairs.mp (hy e he).1
  · rw [List.nodup_append]
    exact ⟨h.nd.filter _, ndy, fun x hx y hy' e => (hy y hy').2 (by rw [← e]; exact (List.mem_filter.mp hx).1)⟩
theorem swap_ne {es gs ys : List (Str × Str)} {e0 : Str × Str} (h0 : e0 ∈ gs) (sub : ∀ e ∈ gs, e ∈ es) (hy : ∀ e ∈ ys, e ∉ es) : ¬ sortE es = sortE (es.filter (notIn gs) ++ ys) := fun h => by
  have := (sortE_eq.mp h).mem_iff.mp (sub e0 h0)
  rcases List.mem_append.mp this with hm | hm
  · exact notIn_iff.mp (List.mem_filter.mp hm).2 h0
  · exact hy e0 hm (sub e0 h0)
def nearB (e0 e : Str × Str) : Bool := (decide (e0.1 = e.1) || decide (e0.1 = e.2)) || (decide (e0.2 = e.1) || decide (e0.2 = e.2))
theorem filter_dEs_id (p : Str × Str → Bool) (l) : ((dEs l).filter (onE p)).map (fun y => y) = dEs (l.filter p) := by rw [filter_dEs, List.map_id']
theorem take_len {α : Type} (l : List α) (k : Nat) : (l.take k).length ≤ k := by rw [List.length_take]; exact Nat.min_le_left _ _
end M

set_option Elab.async false
set_option linter.all false
set_option maxRecDepth 100000
set_option maxHeartbeats 4000000
namespace M
open PySem PySem.Spec L2 S J
/-- g and g2 are compared: b says whether ns, es are those of g2 -/
theorem q_eqG {K : PySem.W.Frag} {c : Ad} (gf : GF K c) {neg : Bool} {G : Hq} {Q : KQ} {g g2 : Addr} {ns ms : List Str} {es fs : List (Str × Str)} (h1 : G g = some (.ins c.cGraph (gFs ns es))) (h2 : G g2 = some (.ins c.cGraph (gFs ms fs))) (v1 : OkV ns) (e1 : OkE ns es) (v2 : OkV ms) (e2 : OkE ms fs)
    (q : ∀ b : Bool, (b = true ↔ ns = ms ∧ sortE es = sortE fs) → Q (.bl (xor neg b)) G) : qOwn neg K c.cGraph (sp_Graph___eq__ K c) (.ad g) (.ad g2) G Q := by
  obtain ⟨b, hb⟩ : ∃ b : Bool, (b = true ↔ ns = ms ∧ sortE es = sortE fs) := by
    by_cases h : ns = ms ∧ sortE es = sortE fs
    · exact ⟨true, by simp [h]⟩
    · exact ⟨false, by simp [h]⟩
  refine ⟨g, _, .ref c.cGraph, rfl, h1, gf.ins h2, GF.nf, _, ⟨g, .ad g2, ns, es, b, rfl, h1, v1, e1, .inl ⟨g2, ms, fs, rfl, h2, v2, e2, hb⟩, rfl⟩, ?_⟩
  rintro _ _ ⟨rfl, rfl⟩
  exact ⟨b, rfl, q b hb⟩
theorem q_eqG_no {K : PySem.W.Frag} {c : Ad} (gf : GF K c) {G : Hq} {Q : KQ} {g g2 : Addr} {ns ms : List Str} {es fs : List (Str × Str)} (h1 : G g = some (.ins c.cGraph (gFs ns es))) (h2 : G g2 = some (.ins c.cGraph (gFs ms fs))) (v1 : OkV ns) (e1 : OkE ns es) (v2 : OkV ms) (e2 : OkE ms fs)
    (ne : ¬ (ns = ms ∧ sortE es = sortE fs)) {neg : Bool} (q : Q (.bl neg) G) : qOwn neg K c.cGraph (sp_Graph___eq__ K c) (.ad g) (.ad g2) G Q :=
  q_eqG gf h1 h2 v1 e1 v2 e2 fun b hb => by
    have : b = false := by rw [← Bool.not_eq_true]; exact fun h => ne (hb.mp h)
    rw [this, Bool.xor_false]; exact q
theorem q_eqG_yes {K : PySem.W.Frag} {c : Ad} (gf : GF K c) {G : Hq} {Q : KQ} {g g2 : Addr} {ns ms : List Str} {es fs : List (Str × Str)} (h1 : G g = some (.ins c.cGraph (gFs ns es))) (h2 : G g2 = some (.ins c.cGraph (gFs ms fs))) (v1 : OkV ns) (e1 : OkE ns es) (v2 : OkV ms) (e2 : OkE ms fs)
    (eq : ns = ms ∧ sortE es = sortE fs) {neg : Bool} (q : Q (.bl (!neg)) G) : qOwn neg K c.cGraph (sp_Graph___eq__ K c) (.ad g) (.ad g2) G Q :=
  q_eqG gf h1 h2 v1 e1 v2 e2 fun b hb => by
    rw [hb.mpr eq, Bool.xor_true]; exact q
/-- a graph is made -/
theorem q_make {K : PySem.W.Frag} {c : Ad} {G : Hq} {x y : Dv} {ns : List Str} {es : List (Str × Str)} {P : Dv → Hq → Prop} {E : XQ} (rx : rowT x G (dS ns)) (ry : rowT y G (dEs es)) (v : OkV ns) (h : OkE ns es)
    (q : ∀ g, G g = none → P (.ad g) (up G g (.ins c.cGraph (gFs ns es)))) : MakeOn c.cGraph (sp_Graph___init__ K c) P E [x, y] G := by
  intro g hg
  refine ⟨_, ⟨g, x, y, ns, es, rfl, rx.sub (HSub.new hg), ry.sub (HSub.new hg), v, h, up_same, rfl⟩, ?_⟩
  rintro _ _ ⟨rfl, rfl⟩
  rw [up_up]
  exact ⟨rfl, q g hg⟩
end M
namespace M
open PySem PySem.Spec L2 S J
/-- the source, the names, the edges, the graph of a check -/
structure Ctx (c : Ad) (G : Hq) (s p r g : Addr) (ns : List Str) (es : List (Str × Str)) : Prop where
  src : ∃ a b d, G s = some (so a b d)
  hp : G p = some (.lst (dS ns))
  hr : G r = some (.lst (dEs es))
  hg : G g = some (.ins c.cGraph (gFs ns es))
  ps : p ≠ s
  rs : r ≠ s
  gs : g ≠ s
  v : OkV ns
  e : OkE ns es
theorem Ctx.cur {c G0 G s p r g ns es} (x : Ctx c G0 s p r g ns es) (h : Cur G0 s G) : Ctx c G s p r g ns es := ⟨h.src, h.get x.hp x.ps, h.get x.hr x.rs, h.get x.hg x.gs, x.ps, x.rs, x.gs, x.v, x.e⟩
theorem Ctx.self {c G0 s p r g ns es} (x : Ctx c G0 s p r g ns es) : Cur G0 s G0 := by obtain ⟨a, b, d, h⟩ := x.src; exact Cur.of h
end M

set_option Elab.async false
set_option linter.all false
set_option maxRecDepth 100000
set_option maxHeartbeats 4000000
namespace M
open PySem PySem.Spec L2 S J
/-! ### L_other_edges_right -/
abbrev N_L_other_edges_right : List Str := ["_law_source", "_law_names", "_law_edges", "_law_graph", "_law_rest", "_law_name", "_law_turn", "_law_more", "_law_many", "_law_gone", "_law_near", "_law_far", "_law_fresh", "_law_other", "_law_edge", "_law_end"]
def t_L_other_edges_right_1 (K : PySem.W.Frag) (c : Ad) : JSt := (jIfS (jOr (jTest (jOp (qOwn false K c.cGraph (sp_Graph___eq__ K c)) (jVar 3) (jVar 13))) (jOr (jTest (jOp (qOwn false K c.cGraph (sp_Graph___eq__ K c)) (jVar 13) (jVar 3))) (jNot (jAnd (jTest (jOp (qOwn true K c.cGraph (sp_Graph___eq__ K c)) (jVar 3) (jVar 13))) (jTest (jOp (qOwn true K c.cGraph (sp_Graph___eq__ K c)) (jVar 13) (jVar 3))))))) (jRet (jC (.bl false))) jNext)
def t_L_other_edges_right_2 (K : PySem.W.Frag) (c : Ad) : JSt := (jSeq (jAsg (jMake c.cGraph (sp_Graph___init__ K c) (jCons (jVar 1) (jCons (jOp qAdd (jLc (jiAny (jVar 2)) (jgName 14) (jTest (jOp (qIn2 true) (jVar 14) (jVar 9))) (jVar 14) [14]) (jVar 12)) jNil))) (jgName 13)) (t_L_other_edges_right_1 K c))
def t_L_other_edges_right_3 (K : PySem.W.Frag) (c : Ad) : JSt := (jSeq (jAsg (jSl (jCall (sp_L_one K c) (jCons (jVar 0) (jCons (jLst (jCons (jOp qAdd (jVar 10) (jVar 11)) (jCons (jOp qAdd (jVar 11) (jVar 10)) jNil))) jNil))) jNoPart (jPart (jCl qLen (jCons (jVar 9) jNil)))) (jgName 12)) (t_L_other_edges_right_2 K c))
def t_L_other_edges_right_4 (K : PySem.W.Frag) (c : Ad) : JSt := (jSeq (jAsg (jCall (sp_L_mixed K c) (jCons (jVar 0) (jCons (jLc (jiAny (jVar 4)) (jgName 14) (jTest (jOp (qIn2 true) (jVar 14) (jVar 10))) (jVar 14) [14]) jNil))) (jgName 11)) (t_L_other_edges_right_3 K c))
def t_L_other_edges_right_5 (K : PySem.W.Frag) (c : Ad) : JSt := (jSeq (jAsg (jLc (jiAny (jVar 4)) (jgName 14) (jOr (jTest (jOp (qIn2 false) (jOp qIx2 (jOp qIx2 (jVar 9) (jC (.int 0))) (jC (.int 0))) (jVar 14))) (jTest (jOp (qIn2 false) (jOp qIx2 (jOp qIx2 (jVar 9) (jC (.int 0))) (jC (.int 1))) (jVar 14)))) (jVar 14) [14]) (jgName 10)) (t_L_other_edges_right_4 K c))
def t_L_other_edges_right_6 (K : PySem.W.Frag) (c : Ad) : JSt := (jSeq (jAsg (jSl (jCall (sp_L_mixed K c) (jCons (jVar 0) (jCons (jVar 2) jNil))) jNoPart (jPart (jVar 8))) (jgName 9)) (t_L_other_edges_right_5 K c))
def t_L_other_edges_right_7 (K : PySem.W.Frag) (c : Ad) : JSt := (jRet (jAndV (jNotV (jOrV (jOp (qOwn false K c.cGraph (sp_Graph___eq__ K c)) (jVar 3) (jVar 7)) (jOp (qOwn false K c.cGraph (sp_Graph___eq__ K c)) (jVar 7) (jVar 3)))) (jAndV (jOp (qOwn true K c.cGraph (sp_Graph___eq__ K c)) (jVar 3) (jVar 7)) (jOp (qOwn true K c.cGraph (sp_Graph___eq__ K c)) (jVar 7) (jVar 3)))))
def t_L_other_edges_right_8 (K : PySem.W.Frag) (c : Ad) : JSt := (jSeq (jAsg (jMake c.cGraph (sp_Graph___init__ K c) (jCons (jVar 1) (jCons (jOp qAdd (jVar 2) (jLst (jCons (jCall (sp_L_one K c) (jCons (jVar 0) (jCons (jVar 4) jNil))) jNil))) jNil))) (jgName 7)) (t_L_other_edges_right_7 K c))
def t_L_other_edges_right_9 (K : PySem.W.Frag) (c : Ad) : JSt := (jSeq (jIfS (jOr (jTest (jOp (qEq false) (jVar 4) (jLst jNil))) (jTest (jOp qGe (jCl qLen (jCons (jVar 2) jNil)) (jC (.int 15))))) (jRet (jC (.bl true))) jNext) (t_L_other_edges_right_8 K c))
def t_L_other_edges_right_10 (K : PySem.W.Frag) (c : Ad) : JSt := (jSeq (jFor (jiR1 (jCons (jOp qMul (jC (.int 4)) (jCl qInt (jCons (jAndV (jOp (qEq true) (jVar 2) (jLst jNil)) (jOp (qEq true) (jVar 4) (jLst jNil))) jNil))) jNil)) (jgName 6) (jSeq (jAsg (jCall (sp_L_one K c) (jCons (jVar 0) (jCons (jLst (jCons (jC (.int 1)) (jCons (jC (.int 1)) (jCons (jCl qLen (jCons (jVar 2) jNil)) (jCons (jOp qAdd (jC (.int 1)) (jCall (sp_L_next K c) (jCons (jVar 0) (jCons (jCl qLen (jCons (jVar 2) jNil)) jNil)))) jNil))))) jNil))) (jgName 8)) (t_L_other_edges_right_6 K c))) (t_L_other_edges_right_9 K c))
def t_L_other_edges_right_11 (K : PySem.W.Frag) (c : Ad) : JSt := (jSeq (jFor (jiAny (jVar 1)) (jgName 5) (jDrop (jML qExtend (jVar 4) (jCons (jLc (jiAny (jVar 1)) (jgName 15) (jAnd (jTest (jOp qLt (jVar 5) (jVar 15))) (jTest (jOp (qIn2 true) (jTup (jCons (jVar 5) (jCons (jVar 15) jNil))) (jVar 2)))) (jTup (jCons (jVar 5) (jCons (jVar 15) jNil))) [15]) jNil)))) (t_L_other_edges_right_10 K c))
def t_L_other_edges_right (K : PySem.W.Frag) (c : Ad) : JSt := (jSeq (jAsg (jLst jNil) (jgName 4)) (t_L_other_edges_right_11 K c))
def sp_L_other_edges_right (K : PySem.W.Frag) (c : Ad) : Sq := spA fun ws G po => ∃ s p r g ns es, ws = [.ad s, .ad p, .ad r, .ad g] ∧ Ctx c G s p r g ns es ∧ po = fun v G1 => v = .bl true ∧ ∃ a b d, G1 = up G s (so a b d)
theorem mono_L_other_edges_right {K : PySem.W.Frag} {c : Ad} : MonoSq (sp_L_other_edges_right K c) := spA.mono
theorem len_L_other_edges_right {K : PySem.W.Frag} {c : Ad} : ∀ ws G Q E, sp_L_other_edges_right K c ws G Q E → ws.length = (["_law_source", "_law_names", "_law_edges", "_law_graph"] : List Str).length := by
  rintro _ _ _ _ ⟨_, ⟨_, _, _, _, _, _, rfl, _⟩, _⟩; rfl
section
variable {K : PySem.W.Frag} {c : Ad} {R : JX} {D : JEnds} {G0 G : Hq} {s p r g f : Addr} {ns : List Str} {es rs : List (Str × Str)} {t5 t6 t7 t8 t9 t10 t11 t12 t13 t14 t15 : Option Dv}
theorem er_9 (gf : GF K c) (cx : Ctx c G0 s p r g ns es) (hf : G0 f = some (.lst (dEs rs))) (fs : f ≠ s) (hrs : ∀ e ∈ rs, e ∈ pairs ns ns ∧ e ∉ es) (frs : rs.length ≤ 100) (fin : ∀ G, Cur G0 s G → D.rt (.bl true) G) (cu : Cur G0 s G) :
    t_L_other_edges_right_9 K c R D [some (.ad s), some (.ad p), some (.ad r), some (.ad g), some (.ad f), t5, t6, t7, t8, t9, t10, t11, t12, t13, t14, t15] G := by
  have x := cx.cur cu
  have evr : Evs (dEs rs) := dEs_ev fun e he => by
    have := mem_pairs.mp (hrs e he).1
    exact ⟨x.v.name _ this.1, x.v.name _ this.2.1⟩
  unfold t_L_other_edges_right_9
  (with_reducible (repeat (first | (first | refine w_var rfl ?_ | refine w_c ?_ | refine w_op ?_ | refine w_un ?_ | refine w_cl ?_ | refine w_nil ?_ | refine w_cons ?_ | refine w_tup ?_ | refine w_lst ?_ | refine w_test ?_ | refine w_not ?_ | refine w_and ?_ | refine w_or ?_ | refine w_andV ?_ | refine w_orV ?_ | refine w_notV ?_ | refine w_if ?_ | refine w_chn ?_ | refine w_call ?_ | refine w_make ?_ | refine w_fld ?_ | refine w_ml ?_ | refine w_ml0 ?_ | refine w_sl ?_ | refine w_slD ?_ | refine w_noPart ?_ | refine w_part ?_ | refine w_dictZ ?_ | refine w_lcA ?_ | refine w_ret ?_ | refine w_rt ?_ | refine w_ifS ?_ | refine w_next ?_ | refine w_break ?_ | refine w_cont ?_ | refine w_seq ?_ | refine w_asg ?_ | refine w_drop ?_ | refine w_par ?_ | refine w_sfld ?_ | refine w_asgT ?_ | refine w_gset ?_ | refine w_gname ?_ | refine w_gtup rfl ?_ | refine w_gcons ?_ | refine w_gnil ?_ | refine w_yes ?_) | refine w_bl ?_ | refine w_int ?_ | refine w_T ?_ | refine w_F ?_ | refine w_nT ?_ | refine w_nF ?_ | refine q_len_tup ?_ | refine q_int ?_ | refine q_intB ?_ | refine q_add ?_ | refine q_sub ?_ | refine q_neg ?_ | refine q_ord ?_ | refine q_ordS ?_ | refine q_tuple_tup ?_ | refine qEq_int ?_)))
  refine ⟨by show 0 ≤ sizeLine; decide, fun l hl => ?_⟩
  have cu := cu.new (o := .lst []) hl
  have x := cx.cur cu
  refine qEq_lst (ys := []) (cu.get hf fs) up_same evr .nil fun b hb => ?_
  rw [Bool.false_xor]
  (with_reducible (repeat (first | (first | refine w_var rfl ?_ | refine w_c ?_ | refine w_op ?_ | refine w_un ?_ | refine w_cl ?_ | refine w_nil ?_ | refine w_cons ?_ | refine w_tup ?_ | refine w_lst ?_ | refine w_test ?_ | refine w_not ?_ | refine w_and ?_ | refine w_or ?_ | refine w_andV ?_ | refine w_orV ?_ | refine w_notV ?_ | refine w_if ?_ | refine w_chn ?_ | refine w_call ?_ | refine w_make ?_ | refine w_fld ?_ | refine w_ml ?_ | refine w_ml0 ?_ | refine w_sl ?_ | refine w_slD ?_ | refine w_noPart ?_ | refine w_part ?_ | refine w_dictZ ?_ | refine w_lcA ?_ | refine w_ret ?_ | refine w_rt ?_ | refine w_ifS ?_ | refine w_next ?_ | refine w_break ?_ | refine w_cont ?_ | refine w_seq ?_ | refine w_asg ?_ | refine w_drop ?_ | refine w_par ?_ | refine w_sfld ?_ | refine w_asgT ?_ | refine w_gset ?_ | refine w_gname ?_ | refine w_gtup rfl ?_ | refine w_gcons ?_ | refine w_gnil ?_ | refine w_yes ?_) | refine w_bl ?_ | refine w_int ?_ | refine w_T ?_ | refine w_F ?_ | refine w_nT ?_ | refine w_nF ?_ | refine q_len_tup ?_ | refine q_int ?_ | refine q_intB ?_ | refine q_add ?_ | refine q_sub ?_ | refine q_neg ?_ | refine q_ord ?_ | refine q_ordS ?_ | refine q_tuple_tup ?_ | refine qEq_int ?_)))
  refine iteB (fun z => ?_) (fun z => ?_)
  · (with_reducible (repeat (first | (first | refine w_var rfl ?_ | refine w_c ?_ | refine w_op ?_ | refine w_un ?_ | refine w_cl ?_ | refine w_nil ?_ | refine w_cons ?_ | refine w_tup ?_ | refine w_lst ?_ | refine w_test ?_ | refine w_not ?_ | refine w_and ?_ | refine w_or ?_ | refine w_andV ?_ | refine w_orV ?_ | refine w_notV ?_ | refine w_if ?_ | refine w_chn ?_ | refine w_call ?_ | refine w_make ?_ | refine w_fld ?_ | refine w_ml ?_ | refine w_ml0 ?_ | refine w_sl ?_ | refine w_slD ?_ | refine w_noPart ?_ | refine w_part ?_ | refine w_dictZ ?_ | refine w_lcA ?_ | refine w_ret ?_ | refine w_rt ?_ | refine w_ifS ?_ | refine w_next ?_ | refine w_break ?_ | refine w_cont ?_ | refine w_seq ?_ | refine w_asg ?_ | refine w_drop ?_ | refine w_par ?_ | refine w_sfld ?_ | refine w_asgT ?_ | refine w_gset ?_ | refine w_gname ?_ | refine w_gtup rfl ?_ | refine w_gcons ?_ | refine w_gnil ?_ | refine w_yes ?_) | refine w_bl ?_ | refine w_int ?_ | refine w_T ?_ | refine w_F ?_ | refine w_nT ?_ | refine w_nF ?_ | refine q_len_tup ?_ | refine q_int ?_ | refine q_intB ?_ | refine q_add ?_ | refine q_sub ?_ | refine q_neg ?_ | refine q_ord ?_ | refine q_ordS ?_ | refine q_tuple_tup ?_ | refine qEq_int ?_)))
    exact fin _ cu
  · have ne : rs ≠ [] := fun e => by rw [hb.mpr (by rw [e]; rfl)] at z; cases z
    have pos := List.length_pos_iff.mpr ne
    (with_reducible (repeat (first | (first | refine w_var rfl ?_ | refine w_c ?_ | refine w_op ?_ | refine w_un ?_ | refine w_cl ?_ | refine w_nil ?_ | refine w_cons ?_ | refine w_tup ?_ | refine w_lst ?_ | refine w_test ?_ | refine w_not ?_ | refine w_and ?_ | refine w_or ?_ | refine w_andV ?_ | refine w_orV ?_ | refine w_notV ?_ | refine w_if ?_ | refine w_chn ?_ | refine w_call ?_ | refine w_make ?_ | refine w_fld ?_ | refine w_ml ?_ | refine w_ml0 ?_ | refine w_sl ?_ | refine w_slD ?_ | refine w_noPart ?_ | refine w_part ?_ | refine w_dictZ ?_ | refine w_lcA ?_ | refine w_ret ?_ | refine w_rt ?_ | refine w_ifS ?_ | refine w_next ?_ | refine w_break ?_ | refine w_cont ?_ | refine w_seq ?_ | refine w_asg ?_ | refine w_drop ?_ | refine w_par ?_ | refine w_sfld ?_ | refine w_asgT ?_ | refine w_gset ?_ | refine w_gname ?_ | refine w_gtup rfl ?_ | refine w_gcons ?_ | refine w_gnil ?_ | refine w_yes ?_) | refine w_bl ?_ | refine w_int ?_ | refine w_T ?_ | refine w_F ?_ | refine w_nT ?_ | refine w_nF ?_ | refine q_len_tup ?_ | refine q_int ?_ | refine q_intB ?_ | refine q_add ?_ | refine q_sub ?_ | refine q_neg ?_ | refine q_ord ?_ | refine q_ordS ?_ | refine q_tuple_tup ?_ | refine qEq_int ?_)))
    refine q_len_ad x.hr ?_
    (with_reducible (repeat (first | (first | refine w_var rfl ?_ | refine w_c ?_ | refine w_op ?_ | refine w_un ?_ | refine w_cl ?_ | refine w_nil ?_ | refine w_cons ?_ | refine w_tup ?_ | refine w_lst ?_ | refine w_test ?_ | refine w_not ?_ | refine w_and ?_ | refine w_or ?_ | refine w_andV ?_ | refine w_orV ?_ | refine w_notV ?_ | refine w_if ?_ | refine w_chn ?_ | refine w_call ?_ | refine w_make ?_ | refine w_fld ?_ | refine w_ml ?_ | refine w_ml0 ?_ | refine w_sl ?_ | refine w_slD ?_ | refine w_noPart ?_ | refine w_part ?_ | refine w_dictZ ?_ | refine w_lcA ?_ | refine w_ret ?_ | refine w_rt ?_ | refine w_ifS ?_ | refine w_next ?_ | refine w_break ?_ | refine w_cont ?_ | refine w_seq ?_ | refine w_asg ?_ | refine w_drop ?_ | refine w_par ?_ | refine w_sfld ?_ | refine w_asgT ?_ | refine w_gset ?_ | refine w_gname ?_ | refine w_gtup rfl ?_ | refine w_gcons ?_ | refine w_gnil ?_ | refine w_yes ?_) | refine w_bl ?_ | refine w_int ?_ | refine w_T ?_ | refine w_F ?_ | refine w_nT ?_ | refine w_nF ?_ | refine q_len_tup ?_ | refine q_int ?_ | refine q_intB ?_ | refine q_add ?_ | refine q_sub ?_ | refine q_neg ?_ | refine q_ord ?_ | refine q_ordS ?_ | refine q_tuple_tup ?_ | refine qEq_int ?_)))
    refine iteB (fun z => ?_) (fun z => ?_)
    · (with_reducible (repeat (first | (first | refine w_var rfl ?_ | refine w_c ?_ | refine w_op ?_ | refine w_un ?_ | refine w_cl ?_ | refine w_nil ?_ | refine w_cons ?_ | refine w_tup ?_ | refine w_lst ?_ | refine w_test ?_ | refine w_not ?_ | refine w_and ?_ | refine w_or ?_ | refine w_andV ?_ | refine w_orV ?_ | refine w_notV ?_ | refine w_if ?_ | refine w_chn ?_ | refine w_call ?_ | refine w_make ?_ | refine w_fld ?_ | refine w_ml ?_ | refine w_ml0 ?_ | refine w_sl ?_ | refine w_slD ?_ | refine w_noPart ?_ | refine w_part ?_ | refine w_dictZ ?_ | refine w_lcA ?_ | refine w_ret ?_ | refine w_rt ?_ | refine w_ifS ?_ | refine w_next ?_ | refine w_break ?_ | refine w_cont ?_ | refine w_seq ?_ | refine w_asg ?_ | refine w_drop ?_ | refine w_par ?_ | refine w_sfld ?_ | refine w_asgT ?_ | refine w_gset ?_ | refine w_gname ?_ | refine w_gtup rfl ?_ | refine w_gcons ?_ | refine w_gnil ?_ | refine w_yes ?_) | refine w_bl ?_ | refine w_int ?_ | refine w_T ?_ | refine w_F ?_ | refine w_nT ?_ | refine w_nF ?_ | refine q_len_tup ?_ | refine q_int ?_ | refine q_intB ?_ | refine q_add ?_ | refine q_sub ?_ | refine q_neg ?_ | refine q_ord ?_ | refine q_ordS ?_ | refine q_tuple_tup ?_ | refine qEq_int ?_)))
      exact fin _ cu
    · have lt : es.length < 15 := by have := of_decide_eq_false z; rw [dEs_len] at this; omega
      (with_reducible (repeat (first | (first | refine w_var rfl ?_ | refine w_c ?_ | refine w_op ?_ | refine w_un ?_ | refine w_cl ?_ | refine w_nil ?_ | refine w_cons ?_ | refine w_tup ?_ | refine w_lst ?_ | refine w_test ?_ | refine w_not ?_ | refine w_and ?_ | refine w_or ?_ | refine w_andV ?_ | refine w_orV ?_ | refine w_notV ?_ | refine w_if ?_ | refine w_chn ?_ | refine w_call ?_ | refine w_make ?_ | refine w_fld ?_ | refine w_ml ?_ | refine w_ml0 ?_ | refine w_sl ?_ | refine w_slD ?_ | refine w_noPart ?_ | refine w_part ?_ | refine w_dictZ ?_ | refine w_lcA ?_ | refine w_ret ?_ | refine w_rt ?_ | refine w_ifS ?_ | refine w_next ?_ | refine w_break ?_ | refine w_cont ?_ | refine w_seq ?_ | refine w_asg ?_ | refine w_drop ?_ | refine w_par ?_ | refine w_sfld ?_ | refine w_asgT ?_ | refine w_gset ?_ | refine w_gname ?_ | refine w_gtup rfl ?_ | refine w_gcons ?_ | refine w_gnil ?_ | refine w_yes ?_) | refine w_bl ?_ | refine w_int ?_ | refine w_T ?_ | refine w_F ?_ | refine w_nT ?_ | refine w_nF ?_ | refine q_len_tup ?_ | refine q_int ?_ | refine q_intB ?_ | refine q_add ?_ | refine q_sub ?_ | refine q_neg ?_ | refine q_ord ?_ | refine q_ordS ?_ | refine q_tuple_tup ?_ | refine qEq_int ?_)))
      unfold t_L_other_edges_right_8
      (with_reducible (repeat (first | (first | refine w_var rfl ?_ | refine w_c ?_ | refine w_op ?_ | refine w_un ?_ | refine w_cl ?_ | refine w_nil ?_ | refine w_cons ?_ | refine w_tup ?_ | refine w_lst ?_ | refine w_test ?_ | refine w_not ?_ | refine w_and ?_ | refine w_or ?_ | refine w_andV ?_ | refine w_orV ?_ | refine w_notV ?_ | refine w_if ?_ | refine w_chn ?_ | refine w_call ?_ | refine w_make ?_ | refine w_fld ?_ | refine w_ml ?_ | refine w_ml0 ?_ | refine w_sl ?_ | refine w_slD ?_ | refine w_noPart ?_ | refine w_part ?_ | refine w_dictZ ?_ | refine w_lcA ?_ | refine w_ret ?_ | refine w_rt ?_ | refine w_ifS ?_ | refine w_next ?_ | refine w_break ?_ | refine w_cont ?_ | refine w_seq ?_ | refine w_asg ?_ | refine w_drop ?_ | refine w_par ?_ | refine w_sfld ?_ | refine w_asgT ?_ | refine w_gset ?_ | refine w_gname ?_ | refine w_gtup rfl ?_ | refine w_gcons ?_ | refine w_gnil ?_ | refine w_yes ?_) | refine w_bl ?_ | refine w_int ?_ | refine w_T ?_ | refine w_F ?_ | refine w_nT ?_ | refine w_nF ?_ | refine q_len_tup ?_ | refine q_int ?_ | refine q_intB ?_ | refine q_add ?_ | refine q_sub ?_ | refine q_neg ?_ | refine q_ord ?_ | refine q_ordS ?_ | refine q_tuple_tup ?_ | refine qEq_int ?_)))
      obtain ⟨a, b, d, hs⟩ := x.src
      refine ⟨_, ⟨s, a, b, d, .ad f, dEs rs, rfl, hs, by rw [dEs_len]; exact pos, by rw [dEs_len]; omega, .inl ⟨.ad (cu.get hf fs), fun e => fs (by cases e; rfl)⟩, rfl⟩, ?_⟩
      rintro v _ ⟨a, b, d, hv, rfl⟩
      have cu := cu.set a b d
      have x := cx.cur cu
      obtain ⟨e1, he1, rfl⟩ := List.mem_map.mp hv
      (with_reducible (repeat (first | (first | refine w_var rfl ?_ | refine w_c ?_ | refine w_op ?_ | refine w_un ?_ | refine w_cl ?_ | refine w_nil ?_ | refine w_cons ?_ | refine w_tup ?_ | refine w_lst ?_ | refine w_test ?_ | refine w_not ?_ | refine w_and ?_ | refine w_or ?_ | refine w_andV ?_ | refine w_orV ?_ | refine w_notV ?_ | refine w_if ?_ | refine w_chn ?_ | refine w_call ?_ | refine w_make ?_ | refine w_fld ?_ | refine w_ml ?_ | refine w_ml0 ?_ | refine w_sl ?_ | refine w_slD ?_ | refine w_noPart ?_ | refine w_part ?_ | refine w_dictZ ?_ | refine w_lcA ?_ | refine w_ret ?_ | refine w_rt ?_ | refine w_ifS ?_ | refine w_next ?_ | refine w_break ?_ | refine w_cont ?_ | refine w_seq ?_ | refine w_asg ?_ | refine w_drop ?_ | refine w_par ?_ | refine w_sfld ?_ | refine w_asgT ?_ | refine w_gset ?_ | refine w_gname ?_ | refine w_gtup rfl ?_ | refine w_gcons ?_ | refine w_gnil ?_ | refine w_yes ?_) | refine w_bl ?_ | refine w_int ?_ | refine w_T ?_ | refine w_F ?_ | refine w_nT ?_ | refine w_nF ?_ | refine q_len_tup ?_ | refine q_int ?_ | refine q_intB ?_ | refine q_add ?_ | refine q_sub ?_ | refine q_neg ?_ | refine q_ord ?_ | refine q_ordS ?_ | refine q_tuple_tup ?_ | refine qEq_int ?_)))
      refine ⟨by show 1 ≤ sizeLine; decide, fun l1 hl1 => ?_⟩
      have cu := cu.new (o := .lst [dEdge e1]) hl1
      have x := cx.cur cu
      refine q_addL x.hr up_same (by rw [dEs_len]; exact size_ge (by show es.length + 1 ≤ 4000; omega)) fun l2 hl2 => ?_
      rw [show dEs es ++ [dEdge e1] = dEs (es ++ [e1]) by rw [dEs_app]; rfl]
      have cu := cu.new (o := .lst (dEs (es ++ [e1]))) hl2
      have x := cx.cur cu
      have ok : OkE ns (es ++ [e1]) := by
        refine ⟨by rw [List.length_append, List.length_singleton]; omega, fun e he => ?_, ?_⟩
        · rcases List.mem_append.mp he with he | he
          · exact x.e.ends e he
          · rw [List.mem_singleton.mp he]; exact mem_pairs.mp (hrs e1 he1).1
        · rw [List.nodup_append]
          exact ⟨x.e.nd, by simp, fun y hy z hz e => (hrs e1 he1).2 (by rw [← List.mem_singleton.mp hz, ← e]; exact hy)⟩
      have nn : ¬ (ns = ns ∧ sortE es = sortE (es ++ [e1])) := fun h => by
        have := (sortE_eq.mp h.2).length_eq
        rw [List.length_append, List.length_singleton] at this
        omega
      (with_reducible (repeat (first | (first | refine w_var rfl ?_ | refine w_c ?_ | refine w_op ?_ | refine w_un ?_ | refine w_cl ?_ | refine w_nil ?_ | refine w_cons ?_ | refine w_tup ?_ | refine w_lst ?_ | refine w_test ?_ | refine w_not ?_ | refine w_and ?_ | refine w_or ?_ | refine w_andV ?_ | refine w_orV ?_ | refine w_notV ?_ | refine w_if ?_ | refine w_chn ?_ | refine w_call ?_ | refine w_make ?_ | refine w_fld ?_ | refine w_ml ?_ | refine w_ml0 ?_ | refine w_sl ?_ | refine w_slD ?_ | refine w_noPart ?_ | refine w_part ?_ | refine w_dictZ ?_ | refine w_lcA ?_ | refine w_ret ?_ | refine w_rt ?_ | refine w_ifS ?_ | refine w_next ?_ | refine w_break ?_ | refine w_cont ?_ | refine w_seq ?_ | refine w_asg ?_ | refine w_drop ?_ | refine w_par ?_ | refine w_sfld ?_ | refine w_asgT ?_ | refine w_gset ?_ | refine w_gname ?_ | refine w_gtup rfl ?_ | refine w_gcons ?_ | refine w_gnil ?_ | refine w_yes ?_) | refine w_bl ?_ | refine w_int ?_ | refine w_T ?_ | refine w_F ?_ | refine w_nT ?_ | refine w_nF ?_ | refine q_len_tup ?_ | refine q_int ?_ | refine q_intB ?_ | refine q_add ?_ | refine q_sub ?_ | refine q_neg ?_ | refine q_ord ?_ | refine q_ordS ?_ | refine q_tuple_tup ?_ | refine qEq_int ?_)))
      refine q_make (.inl ⟨p, rfl, x.hp⟩) (.inl ⟨l2, rfl, up_same⟩) x.v ok fun g2 hg2 => ?_
      have cu := cu.new (o := .ins c.cGraph (gFs ns (es ++ [e1]))) hg2
      have x := cx.cur cu
      show t_L_other_edges_right_7 K c _ _ _ _
      unfold t_L_other_edges_right_7
      (with_reducible (repeat (first | (first | refine w_var rfl ?_ | refine w_c ?_ | refine w_op ?_ | refine w_un ?_ | refine w_cl ?_ | refine w_nil ?_ | refine w_cons ?_ | refine w_tup ?_ | refine w_lst ?_ | refine w_test ?_ | refine w_not ?_ | refine w_and ?_ | refine w_or ?_ | refine w_andV ?_ | refine w_orV ?_ | refine w_notV ?_ | refine w_if ?_ | refine w_chn ?_ | refine w_call ?_ | refine w_make ?_ | refine w_fld ?_ | refine w_ml ?_ | refine w_ml0 ?_ | refine w_sl ?_ | refine w_slD ?_ | refine w_noPart ?_ | refine w_part ?_ | refine w_dictZ ?_ | refine w_lcA ?_ | refine w_ret ?_ | refine w_rt ?_ | refine w_ifS ?_ | refine w_next ?_ | refine w_break ?_ | refine w_cont ?_ | refine w_seq ?_ | refine w_asg ?_ | refine w_drop ?_ | refine w_par ?_ | refine w_sfld ?_ | refine w_asgT ?_ | refine w_gset ?_ | refine w_gname ?_ | refine w_gtup rfl ?_ | refine w_gcons ?_ | refine w_gnil ?_ | refine w_yes ?_) | refine w_bl ?_ | refine w_int ?_ | refine w_T ?_ | refine w_F ?_ | refine w_nT ?_ | refine w_nF ?_ | refine q_len_tup ?_ | refine q_int ?_ | refine q_intB ?_ | refine q_add ?_ | refine q_sub ?_ | refine q_neg ?_ | refine q_ord ?_ | refine q_ordS ?_ | refine q_tuple_tup ?_ | refine qEq_int ?_)))
      refine q_eqG_no gf x.hg up_same x.v x.e x.v ok nn ?_
      (with_reducible (repeat (first | (first | refine w_var rfl ?_ | refine w_c ?_ | refine w_op ?_ | refine w_un ?_ | refine w_cl ?_ | refine w_nil ?_ | refine w_cons ?_ | refine w_tup ?_ | refine w_lst ?_ | refine w_test ?_ | refine w_not ?_ | refine w_and ?_ | refine w_or ?_ | refine w_andV ?_ | refine w_orV ?_ | refine w_notV ?_ | refine w_if ?_ | refine w_chn ?_ | refine w_call ?_ | refine w_make ?_ | refine w_fld ?_ | refine w_ml ?_ | refine w_ml0 ?_ | refine w_sl ?_ | refine w_slD ?_ | refine w_noPart ?_ | refine w_part ?_ | refine w_dictZ ?_ | refine w_lcA ?_ | refine w_ret ?_ | refine w_rt ?_ | refine w_ifS ?_ | refine w_next ?_ | refine w_break ?_ | refine w_cont ?_ | refine w_seq ?_ | refine w_asg ?_ | refine w_drop ?_ | refine w_par ?_ | refine w_sfld ?_ | refine w_asgT ?_ | refine w_gset ?_ | refine w_gname ?_ | refine w_gtup rfl ?_ | refine w_gcons ?_ | refine w_gnil ?_ | refine w_yes ?_) | refine w_bl ?_ | refine w_int ?_ | refine w_T ?_ | refine w_F ?_ | refine w_nT ?_ | refine w_nF ?_ | refine q_len_tup ?_ | refine q_int ?_ | refine q_intB ?_ | refine q_add ?_ | refine q_sub ?_ | refine q_neg ?_ | refine q_ord ?_ | refine q_ordS ?_ | refine q_tuple_tup ?_ | refine qEq_int ?_)))
      refine q_eqG_no gf up_same x.hg x.v ok x.v x.e (fun h => nn ⟨rfl, h.2.symm⟩) ?_
      (with_reducible (repeat (first | (first | refine w_var rfl ?_ | refine w_c ?_ | refine w_op ?_ | refine w_un ?_ | refine w_cl ?_ | refine w_nil ?_ | refine w_cons ?_ | refine w_tup ?_ | refine w_lst ?_ | refine w_test ?_ | refine w_not ?_ | refine w_and ?_ | refine w_or ?_ | refine w_andV ?_ | refine w_orV ?_ | refine w_notV ?_ | refine w_if ?_ | refine w_chn ?_ | refine w_call ?_ | refine w_make ?_ | refine w_fld ?_ | refine w_ml ?_ | refine w_ml0 ?_ | refine w_sl ?_ | refine w_slD ?_ | refine w_noPart ?_ | refine w_part ?_ | refine w_dictZ ?_ | refine w_lcA ?_ | refine w_ret ?_ | refine w_rt ?_ | refine w_ifS ?_ | refine w_next ?_ | refine w_break ?_ | refine w_cont ?_ | refine w_seq ?_ | refine w_asg ?_ | refine w_drop ?_ | refine w_par ?_ | refine w_sfld ?_ | refine w_asgT ?_ | refine w_gset ?_ | refine w_gname ?_ | refine w_gtup rfl ?_ | refine w_gcons ?_ | refine w_gnil ?_ | refine w_yes ?_) | refine w_bl ?_ | refine w_int ?_ | refine w_T ?_ | refine w_F ?_ | refine w_nT ?_ | refine w_nF ?_ | refine q_len_tup ?_ | refine q_int ?_ | refine q_intB ?_ | refine q_add ?_ | refine q_sub ?_ | refine q_neg ?_ | refine q_ord ?_ | refine q_ordS ?_ | refine q_tuple_tup ?_ | refine qEq_int ?_)))
      refine q_eqG_no gf x.hg up_same x.v x.e x.v ok nn ?_
      (with_reducible (repeat (first | (first | refine w_var rfl ?_ | refine w_c ?_ | refine w_op ?_ | refine w_un ?_ | refine w_cl ?_ | refine w_nil ?_ | refine w_cons ?_ | refine w_tup ?_ | refine w_lst ?_ | refine w_test ?_ | refine w_not ?_ | refine w_and ?_ | refine w_or ?_ | refine w_andV ?_ | refine w_orV ?_ | refine w_notV ?_ | refine w_if ?_ | refine w_chn ?_ | refine w_call ?_ | refine w_make ?_ | refine w_fld ?_ | refine w_ml ?_ | refine w_ml0 ?_ | refine w_sl ?_ | refine w_slD ?_ | refine w_noPart ?_ | refine w_part ?_ | refine w_dictZ ?_ | refine w_lcA ?_ | refine w_ret ?_ | refine w_rt ?_ | refine w_ifS ?_ | refine w_next ?_ | refine w_break ?_ | refine w_cont ?_ | refine w_seq ?_ | refine w_asg ?_ | refine w_drop ?_ | refine w_par ?_ | refine w_sfld ?_ | refine w_asgT ?_ | refine w_gset ?_ | refine w_gname ?_ | refine w_gtup rfl ?_ | refine w_gcons ?_ | refine w_gnil ?_ | refine w_yes ?_) | refine w_bl ?_ | refine w_int ?_ | refine w_T ?_ | refine w_F ?_ | refine w_nT ?_ | refine w_nF ?_ | refine q_len_tup ?_ | refine q_int ?_ | refine q_intB ?_ | refine q_add ?_ | refine q_sub ?_ | refine q_neg ?_ | refine q_ord ?_ | refine q_ordS ?_ | refine q_tuple_tup ?_ | refine qEq_int ?_)))
      refine q_eqG_no gf up_same x.hg x.v ok x.v x.e (fun h => nn ⟨rfl, h.2.symm⟩) ?_
      exact fin _ cu
/-- one exchange -/
theorem er_6 (gf : GF K c) (cx : Ctx c G0 s p r g ns es) (hf : G0 f = some (.lst (dEs rs))) (fs : f ≠ s) (hrs : ∀ e ∈ rs, e ∈ pairs ns ns ∧ e ∉ es) (ndr : rs.Nodup) (frs : rs.length ≤ 100) (cu : Cur G0 s G) {j : Nat} (j1 : 1 ≤ j) (ne : es ≠ [])
    (nx : ∀ G t9 t10 t11 t12 t13 t14, Cur G0 s G → D.nx [some (.ad s), some (.ad p), some (.ad r), some (.ad g), some (.ad f), t5, t6, t7, some (.int j), t9, t10, t11, t12, t13, t14, t15] G) :
    t_L_other_edges_right_6 K c R D [some (.ad s), some (.ad p), some (.ad r), some (.ad g), some (.ad f), t5, t6, t7, some (.int j), t9, t10, t11, t12, t13, t14, t15] G := by
  have x := cx.cur cu
  have evr : ∀ l : List (Str × Str), (∀ e ∈ l, e ∈ rs) → Evs (dEs l) := fun l hl => dEs_ev fun e he => by
    have := mem_pairs.mp (hrs e (hl e he)).1
    exact ⟨x.v.name _ this.1, x.v.name _ this.2.1⟩
  obtain ⟨a, b, d, hs⟩ := x.src
  unfold t_L_other_edges_right_6
  (with_reducible (repeat (first | (first | refine w_var rfl ?_ | refine w_c ?_ | refine w_op ?_ | refine w_un ?_ | refine w_cl ?_ | refine w_nil ?_ | refine w_cons ?_ | refine w_tup ?_ | refine w_lst ?_ | refine w_test ?_ | refine w_not ?_ | refine w_and ?_ | refine w_or ?_ | refine w_andV ?_ | refine w_orV ?_ | refine w_notV ?_ | refine w_if ?_ | refine w_chn ?_ | refine w_call ?_ | refine w_make ?_ | refine w_fld ?_ | refine w_ml ?_ | refine w_ml0 ?_ | refine w_sl ?_ | refine w_slD ?_ | refine w_noPart ?_ | refine w_part ?_ | refine w_dictZ ?_ | refine w_lcA ?_ | refine w_ret ?_ | refine w_rt ?_ | refine w_ifS ?_ | refine w_next ?_ | refine w_break ?_ | refine w_cont ?_ | refine w_seq ?_ | refine w_asg ?_ | refine w_drop ?_ | refine w_par ?_ | refine w_sfld ?_ | refine w_asgT ?_ | refine w_gset ?_ | refine w_gname ?_ | refine w_gtup rfl ?_ | refine w_gcons ?_ | refine w_gnil ?_ | refine w_yes ?_) | refine w_bl ?_ | refine w_int ?_ | refine w_T ?_ | refine w_F ?_ | refine w_nT ?_ | refine w_nF ?_ | refine q_len_tup ?_ | refine q_int ?_ | refine q_intB ?_ | refine q_add ?_ | refine q_sub ?_ | refine q_neg ?_ | refine q_ord ?_ | refine q_ordS ?_ | refine q_tuple_tup ?_ | refine qEq_int ?_)))
  refine ⟨_, ⟨s, a, b, d, .ad r, dEs es, rfl, hs, .ad x.hr, x.e.ev x.v, by rw [dEs_len]; have := x.e.few; omega, rfl⟩, ?_⟩
  rintro _ _ ⟨m, ys, a1, b1, d1, rfl, hys, hm, rfl⟩
  obtain ⟨fs', rfl, pm⟩ := perm_dEs hys
  have hm' : up G s (so a1 b1 d1) m = none := by
    rw [up_none]
    exact ⟨(fun e => by rw [e, hs] at hm; cases hm), hm⟩
  have cu := (cu.set a1 b1 d1).new (o := .lst (dEs fs')) hm'
  have x := cx.cur cu
  (with_reducible (repeat (first | (first | refine w_var rfl ?_ | refine w_c ?_ | refine w_op ?_ | refine w_un ?_ | refine w_cl ?_ | refine w_nil ?_ | refine w_cons ?_ | refine w_tup ?_ | refine w_lst ?_ | refine w_test ?_ | refine w_not ?_ | refine w_and ?_ | refine w_or ?_ | refine w_andV ?_ | refine w_orV ?_ | refine w_notV ?_ | refine w_if ?_ | refine w_chn ?_ | refine w_call ?_ | refine w_make ?_ | refine w_fld ?_ | refine w_ml ?_ | refine w_ml0 ?_ | refine w_sl ?_ | refine w_slD ?_ | refine w_noPart ?_ | refine w_part ?_ | refine w_dictZ ?_ | refine w_lcA ?_ | refine w_ret ?_ | refine w_rt ?_ | refine w_ifS ?_ | refine w_next ?_ | refine w_break ?_ | refine w_cont ?_ | refine w_seq ?_ | refine w_asg ?_ | refine w_drop ?_ | refine w_par ?_ | refine w_sfld ?_ | refine w_asgT ?_ | refine w_gset ?_ | refine w_gname ?_ | refine w_gtup rfl ?_ | refine w_gcons ?_ | refine w_gnil ?_ | refine w_yes ?_) | refine w_bl ?_ | refine w_int ?_ | refine w_T ?_ | refine w_F ?_ | refine w_nT ?_ | refine w_nF ?_ | refine q_len_tup ?_ | refine q_int ?_ | refine q_intB ?_ | refine q_add ?_ | refine q_sub ?_ | refine q_neg ?_ | refine q_ord ?_ | refine q_ordS ?_ | refine q_tuple_tup ?_ | refine qEq_int ?_)))
  refine q_sl_ad up_same fun m1 hm1 => ?_
  rw [cut_take, dEs_take]
  have cu := cu.new (o := .lst (dEs (fs'.take j))) hm1
  have lenp : 0 < fs'.length := by rw [pm.length_eq]; exact List.length_pos_iff.mpr ne
  -- the gone ones
  have gsub : ∀ e ∈ fs'.take j, e ∈ es := fun e he => pm.mem_iff.mp (List.mem_of_mem_take he)
  have gnd : (fs'.take j).Nodup := ((pm.symm.nodup x.e.nd)).sublist (List.take_sublist _ _)
  obtain ⟨e0, he0⟩ : ∃ e0, (fs'.take j)[0]? = some e0 := by
    refine ⟨fs'[0], ?_⟩
    rw [List.getElem?_take_of_lt (by omega), List.getElem?_eq_getElem lenp]
  generalize fs'.take j = gs at gsub gnd he0 cu
  have hM := up_same (G := up (up G s (so a1 b1 d1)) m (.lst (dEs fs'))) (a := m1) (o := .lst (dEs gs))
  generalize up (up (up G s (so a1 b1 d1)) m (.lst (dEs fs'))) m1 (.lst (dEs gs)) = G2 at cu hM
  have e0g : e0 ∈ gs := List.mem_of_getElem? he0
  have n01 : isName e0.1 = true := x.e.name1 x.v (gsub e0 e0g)
  have n02 : isName e0.2 = true := x.e.name2 x.v (gsub e0 e0g)
  have hM0 : (dEs gs)[0]? = some (dEdge e0) := by unfold dEs; rw [List.getElem?_map, he0]; rfl
  have hF := cu.get hf fs
  (with_reducible (repeat (first | (first | refine w_var rfl ?_ | refine w_c ?_ | refine w_op ?_ | refine w_un ?_ | refine w_cl ?_ | refine w_nil ?_ | refine w_cons ?_ | refine w_tup ?_ | refine w_lst ?_ | refine w_test ?_ | refine w_not ?_ | refine w_and ?_ | refine w_or ?_ | refine w_andV ?_ | refine w_orV ?_ | refine w_notV ?_ | refine w_if ?_ | refine w_chn ?_ | refine w_call ?_ | refine w_make ?_ | refine w_fld ?_ | refine w_ml ?_ | refine w_ml0 ?_ | refine w_sl ?_ | refine w_slD ?_ | refine w_noPart ?_ | refine w_part ?_ | refine w_dictZ ?_ | refine w_lcA ?_ | refine w_ret ?_ | refine w_rt ?_ | refine w_ifS ?_ | refine w_next ?_ | refine w_break ?_ | refine w_cont ?_ | refine w_seq ?_ | refine w_asg ?_ | refine w_drop ?_ | refine w_par ?_ | refine w_sfld ?_ | refine w_asgT ?_ | refine w_gset ?_ | refine w_gname ?_ | refine w_gtup rfl ?_ | refine w_gcons ?_ | refine w_gnil ?_ | refine w_yes ?_) | refine w_bl ?_ | refine w_int ?_ | refine w_T ?_ | refine w_F ?_ | refine w_nT ?_ | refine w_nF ?_ | refine q_len_tup ?_ | refine q_int ?_ | refine q_intB ?_ | refine q_add ?_ | refine q_sub ?_ | refine q_neg ?_ | refine q_ord ?_ | refine q_ordS ?_ | refine q_tuple_tup ?_ | refine qEq_int ?_)))
  show t_L_other_edges_right_5 K c _ _ _ _
  unfold t_L_other_edges_right_5
  (with_reducible (repeat (first | (first | refine w_var rfl ?_ | refine w_c ?_ | refine w_op ?_ | refine w_un ?_ | refine w_cl ?_ | refine w_nil ?_ | refine w_cons ?_ | refine w_tup ?_ | refine w_lst ?_ | refine w_test ?_ | refine w_not ?_ | refine w_and ?_ | refine w_or ?_ | refine w_andV ?_ | refine w_orV ?_ | refine w_notV ?_ | refine w_if ?_ | refine w_chn ?_ | refine w_call ?_ | refine w_make ?_ | refine w_fld ?_ | refine w_ml ?_ | refine w_ml0 ?_ | refine w_sl ?_ | refine w_slD ?_ | refine w_noPart ?_ | refine w_part ?_ | refine w_dictZ ?_ | refine w_lcA ?_ | refine w_ret ?_ | refine w_rt ?_ | refine w_ifS ?_ | refine w_next ?_ | refine w_break ?_ | refine w_cont ?_ | refine w_seq ?_ | refine w_asg ?_ | refine w_drop ?_ | refine w_par ?_ | refine w_sfld ?_ | refine w_asgT ?_ | refine w_gset ?_ | refine w_gname ?_ | refine w_gtup rfl ?_ | refine w_gcons ?_ | refine w_gnil ?_ | refine w_yes ?_) | refine w_bl ?_ | refine w_int ?_ | refine w_T ?_ | refine w_F ?_ | refine w_nT ?_ | refine w_nF ?_ | refine q_len_tup ?_ | refine q_int ?_ | refine q_intB ?_ | refine q_add ?_ | refine q_sub ?_ | refine q_neg ?_ | refine q_ord ?_ | refine q_ordS ?_ | refine q_tuple_tup ?_ | refine qEq_int ?_)))
  refine lc_at (xs := dEs rs) (.ad hF) (by rw [dEs_len]; exact size_ge (by omega)) (onE (nearB e0)) (fun y => y) (fun y hy => ?_) (fun m2 hm2 => ?_)
  · obtain ⟨e, he, rfl⟩ := List.mem_map.mp hy
    have en := mem_pairs.mp (hrs e he).1
    have eve : Evs [.str e.1, .str e.2] := dS_ev (ns := [e.1, e.2]) fun n hn => by
      rcases List.mem_cons.mp hn with rfl | hn
      · exact x.v.name _ en.1
      · rw [List.mem_singleton.mp hn]; exact x.v.name _ en.2.1
    have mem2 : ∀ (a : Str) (b : Bool), (b = true ↔ Dv.str a ∈ [Dv.str e.1, Dv.str e.2]) → (false ^^ b) = (decide (a = e.1) || decide (a = e.2)) := fun a b hb => by
      rw [Bool.false_xor, Bool.eq_iff_iff, hb]; simp
    intro G3 s3 N A hN hA
    have hM3 := s3 _ _ hM
    have fin : ∀ k : Bool, k = onE (nearB e0) (dEdge e) → if k = true then (jVar 14) R0 [some (.ad s), some (.ad p), some (.ad r), some (.ad g), some (.ad f), t5, t6, t7, some (.int j), some (.ad m1), t10, t11, t12, t13, some (dEdge e), t15] G3 A else N G3 := fun k hk =>
      iteB (fun h => w_var rfl (hA (by rw [← hk]; exact h) _ (HSub.refl _))) fun h => hN (by rw [← hk]; exact h) _ (HSub.refl _)
    (with_reducible (repeat (first | (first | refine w_var rfl ?_ | refine w_c ?_ | refine w_op ?_ | refine w_un ?_ | refine w_cl ?_ | refine w_nil ?_ | refine w_cons ?_ | refine w_tup ?_ | refine w_lst ?_ | refine w_test ?_ | refine w_not ?_ | refine w_and ?_ | refine w_or ?_ | refine w_andV ?_ | refine w_orV ?_ | refine w_notV ?_ | refine w_if ?_ | refine w_chn ?_ | refine w_call ?_ | refine w_make ?_ | refine w_fld ?_ | refine w_ml ?_ | refine w_ml0 ?_ | refine w_sl ?_ | refine w_slD ?_ | refine w_noPart ?_ | refine w_part ?_ | refine w_dictZ ?_ | refine w_lcA ?_ | refine w_ret ?_ | refine w_rt ?_ | refine w_ifS ?_ | refine w_next ?_ | refine w_break ?_ | refine w_cont ?_ | refine w_seq ?_ | refine w_asg ?_ | refine w_drop ?_ | refine w_par ?_ | refine w_sfld ?_ | refine w_asgT ?_ | refine w_gset ?_ | refine w_gname ?_ | refine w_gtup rfl ?_ | refine w_gcons ?_ | refine w_gnil ?_ | refine w_yes ?_) | refine w_bl ?_ | refine w_int ?_ | refine w_T ?_ | refine w_F ?_ | refine w_nT ?_ | refine w_nF ?_ | refine q_len_tup ?_ | refine q_int ?_ | refine q_intB ?_ | refine q_add ?_ | refine q_sub ?_ | refine q_neg ?_ | refine q_ord ?_ | refine q_ordS ?_ | refine q_tuple_tup ?_ | refine qEq_int ?_)))
    refine q_ix_ad hM3 (at_nat (i := 0) hM0) ?_
    (with_reducible (repeat (first | (first | refine w_var rfl ?_ | refine w_c ?_ | refine w_op ?_ | refine w_un ?_ | refine w_cl ?_ | refine w_nil ?_ | refine w_cons ?_ | refine w_tup ?_ | refine w_lst ?_ | refine w_test ?_ | refine w_not ?_ | refine w_and ?_ | refine w_or ?_ | refine w_andV ?_ | refine w_orV ?_ | refine w_notV ?_ | refine w_if ?_ | refine w_chn ?_ | refine w_call ?_ | refine w_make ?_ | refine w_fld ?_ | refine w_ml ?_ | refine w_ml0 ?_ | refine w_sl ?_ | refine w_slD ?_ | refine w_noPart ?_ | refine w_part ?_ | refine w_dictZ ?_ | refine w_lcA ?_ | refine w_ret ?_ | refine w_rt ?_ | refine w_ifS ?_ | refine w_next ?_ | refine w_break ?_ | refine w_cont ?_ | refine w_seq ?_ | refine w_asg ?_ | refine w_drop ?_ | refine w_par ?_ | refine w_sfld ?_ | refine w_asgT ?_ | refine w_gset ?_ | refine w_gname ?_ | refine w_gtup rfl ?_ | refine w_gcons ?_ | refine w_gnil ?_ | refine w_yes ?_) | refine w_bl ?_ | refine w_int ?_ | refine w_T ?_ | refine w_F ?_ | refine w_nT ?_ | refine w_nF ?_ | refine q_len_tup ?_ | refine q_int ?_ | refine q_intB ?_ | refine q_add ?_ | refine q_sub ?_ | refine q_neg ?_ | refine q_ord ?_ | refine q_ordS ?_ | refine q_tuple_tup ?_ | refine qEq_int ?_)))
    refine q_ix_tup (at_nat (i := 0) rfl) ?_
    (with_reducible (repeat (first | (first | refine w_var rfl ?_ | refine w_c ?_ | refine w_op ?_ | refine w_un ?_ | refine w_cl ?_ | refine w_nil ?_ | refine w_cons ?_ | refine w_tup ?_ | refine w_lst ?_ | refine w_test ?_ | refine w_not ?_ | refine w_and ?_ | refine w_or ?_ | refine w_andV ?_ | refine w_orV ?_ | refine w_notV ?_ | refine w_if ?_ | refine w_chn ?_ | refine w_call ?_ | refine w_make ?_ | refine w_fld ?_ | refine w_ml ?_ | refine w_ml0 ?_ | refine w_sl ?_ | refine w_slD ?_ | refine w_noPart ?_ | refine w_part ?_ | refine w_dictZ ?_ | refine w_lcA ?_ | refine w_ret ?_ | refine w_rt ?_ | refine w_ifS ?_ | refine w_next ?_ | refine w_break ?_ | refine w_cont ?_ | refine w_seq ?_ | refine w_asg ?_ | refine w_drop ?_ | refine w_par ?_ | refine w_sfld ?_ | refine w_asgT ?_ | refine w_gset ?_ | refine w_gname ?_ | refine w_gtup rfl ?_ | refine w_gcons ?_ | refine w_gnil ?_ | refine w_yes ?_) | refine w_bl ?_ | refine w_int ?_ | refine w_T ?_ | refine w_F ?_ | refine w_nT ?_ | refine w_nF ?_ | refine q_len_tup ?_ | refine q_int ?_ | refine q_intB ?_ | refine q_add ?_ | refine q_sub ?_ | refine q_neg ?_ | refine q_ord ?_ | refine q_ordS ?_ | refine q_tuple_tup ?_ | refine qEq_int ?_)))
    refine qIn_row (.inr (.inl rfl)) (isName_ev n01) eve fun b1 hb1 => ?_
    rw [mem2 _ _ hb1]
    (with_reducible (repeat (first | (first | refine w_var rfl ?_ | refine w_c ?_ | refine w_op ?_ | refine w_un ?_ | refine w_cl ?_ | refine w_nil ?_ | refine w_cons ?_ | refine w_tup ?_ | refine w_lst ?_ | refine w_test ?_ | refine w_not ?_ | refine w_and ?_ | refine w_or ?_ | refine w_andV ?_ | refine w_orV ?_ | refine w_notV ?_ | refine w_if ?_ | refine w_chn ?_ | refine w_call ?_ | refine w_make ?_ | refine w_fld ?_ | refine w_ml ?_ | refine w_ml0 ?_ | refine w_sl ?_ | refine w_slD ?_ | refine w_noPart ?_ | refine w_part ?_ | refine w_dictZ ?_ | refine w_lcA ?_ | refine w_ret ?_ | refine w_rt ?_ | refine w_ifS ?_ | refine w_next ?_ | refine w_break ?_ | refine w_cont ?_ | refine w_seq ?_ | refine w_asg ?_ | refine w_drop ?_ | refine w_par ?_ | refine w_sfld ?_ | refine w_asgT ?_ | refine w_gset ?_ | refine w_gname ?_ | refine w_gtup rfl ?_ | refine w_gcons ?_ | refine w_gnil ?_ | refine w_yes ?_) | refine w_bl ?_ | refine w_int ?_ | refine w_T ?_ | refine w_F ?_ | refine w_nT ?_ | refine w_nF ?_ | refine q_len_tup ?_ | refine q_int ?_ | refine q_intB ?_ | refine q_add ?_ | refine q_sub ?_ | refine q_neg ?_ | refine q_ord ?_ | refine q_ordS ?_ | refine q_tuple_tup ?_ | refine qEq_int ?_)))
    refine iteB (fun z => ?_) (fun z => ?_)
    · exact fin true (by show true = nearB e0 (e.1, e.2); unfold nearB; rw [z]; rfl)
    · (with_reducible (repeat (first | (first | refine w_var rfl ?_ | refine w_c ?_ | refine w_op ?_ | refine w_un ?_ | refine w_cl ?_ | refine w_nil ?_ | refine w_cons ?_ | refine w_tup ?_ | refine w_lst ?_ | refine w_test ?_ | refine w_not ?_ | refine w_and ?_ | refine w_or ?_ | refine w_andV ?_ | refine w_orV ?_ | refine w_notV ?_ | refine w_if ?_ | refine w_chn ?_ | refine w_call ?_ | refine w_make ?_ | refine w_fld ?_ | refine w_ml ?_ | refine w_ml0 ?_ | refine w_sl ?_ | refine w_slD ?_ | refine w_noPart ?_ | refine w_part ?_ | refine w_dictZ ?_ | refine w_lcA ?_ | refine w_ret ?_ | refine w_rt ?_ | refine w_ifS ?_ | refine w_next ?_ | refine w_break ?_ | refine w_cont ?_ | refine w_seq ?_ | refine w_asg ?_ | refine w_drop ?_ | refine w_par ?_ | refine w_sfld ?_ | refine w_asgT ?_ | refine w_gset ?_ | refine w_gname ?_ | refine w_gtup rfl ?_ | refine w_gcons ?_ | refine w_gnil ?_ | refine w_yes ?_) | refine w_bl ?_ | refine w_int ?_ | refine w_T ?_ | refine w_F ?_ | refine w_nT ?_ | refine w_nF ?_ | refine q_len_tup ?_ | refine q_int ?_ | refine q_intB ?_ | refine q_add ?_ | refine q_sub ?_ | refine q_neg ?_ | refine q_ord ?_ | refine q_ordS ?_ | refine q_tuple_tup ?_ | refine qEq_int ?_)))
      refine q_ix_ad hM3 (at_nat (i := 0) hM0) ?_
      (with_reducible (repeat (first | (first | refine w_var rfl ?_ | refine w_c ?_ | refine w_op ?_ | refine w_un ?_ | refine w_cl ?_ | refine w_nil ?_ | refine w_cons ?_ | refine w_tup ?_ | refine w_lst ?_ | refine w_test ?_ | refine w_not ?_ | refine w_and ?_ | refine w_or ?_ | refine w_andV ?_ | refine w_orV ?_ | refine w_notV ?_ | refine w_if ?_ | refine w_chn ?_ | refine w_call ?_ | refine w_make ?_ | refine w_fld ?_ | refine w_ml ?_ | refine w_ml0 ?_ | refine w_sl ?_ | refine w_slD ?_ | refine w_noPart ?_ | refine w_part ?_ | refine w_dictZ ?_ | refine w_lcA ?_ | refine w_ret ?_ | refine w_rt ?_ | refine w_ifS ?_ | refine w_next ?_ | refine w_break ?_ | refine w_cont ?_ | refine w_seq ?_ | refine w_asg ?_ | refine w_drop ?_ | refine w_par ?_ | refine w_sfld ?_ | refine w_asgT ?_ | refine w_gset ?_ | refine w_gname ?_ | refine w_gtup rfl ?_ | refine w_gcons ?_ | refine w_gnil ?_ | refine w_yes ?_) | refine w_bl ?_ | refine w_int ?_ | refine w_T ?_ | refine w_F ?_ | refine w_nT ?_ | refine w_nF ?_ | refine q_len_tup ?_ | refine q_int ?_ | refine q_intB ?_ | refine q_add ?_ | refine q_sub ?_ | refine q_neg ?_ | refine q_ord ?_ | refine q_ordS ?_ | refine q_tuple_tup ?_ | refine qEq_int ?_)))
      refine q_ix_tup (at_nat (i := 1) rfl) ?_
      (with_reducible (repeat (first | (first | refine w_var rfl ?_ | refine w_c ?_ | refine w_op ?_ | refine w_un ?_ | refine w_cl ?_ | refine w_nil ?_ | refine w_cons ?_ | refine w_tup ?_ | refine w_lst ?_ | refine w_test ?_ | refine w_not ?_ | refine w_and ?_ | refine w_or ?_ | refine w_andV ?_ | refine w_orV ?_ | refine w_notV ?_ | refine w_if ?_ | refine w_chn ?_ | refine w_call ?_ | refine w_make ?_ | refine w_fld ?_ | refine w_ml ?_ | refine w_ml0 ?_ | refine w_sl ?_ | refine w_slD ?_ | refine w_noPart ?_ | refine w_part ?_ | refine w_dictZ ?_ | refine w_lcA ?_ | refine w_ret ?_ | refine w_rt ?_ | refine w_ifS ?_ | refine w_next ?_ | refine w_break ?_ | refine w_cont ?_ | refine w_seq ?_ | refine w_asg ?_ | refine w_drop ?_ | refine w_par ?_ | refine w_sfld ?_ | refine w_asgT ?_ | refine w_gset ?_ | refine w_gname ?_ | refine w_gtup rfl ?_ | refine w_gcons ?_ | refine w_gnil ?_ | refine w_yes ?_) | refine w_bl ?_ | refine w_int ?_ | refine w_T ?_ | refine w_F ?_ | refine w_nT ?_ | refine w_nF ?_ | refine q_len_tup ?_ | refine q_int ?_ | refine q_intB ?_ | refine q_add ?_ | refine q_sub ?_ | refine q_neg ?_ | refine q_ord ?_ | refine q_ordS ?_ | refine q_tuple_tup ?_ | refine qEq_int ?_)))
      refine qIn_row (.inr (.inl rfl)) (isName_ev n02) eve fun b2 hb2 => ?_
      rw [mem2 _ _ hb2]
      (with_reducible (repeat (first | (first | refine w_var rfl ?_ | refine w_c ?_ | refine w_op ?_ | refine w_un ?_ | refine w_cl ?_ | refine w_nil ?_ | refine w_cons ?_ | refine w_tup ?_ | refine w_lst ?_ | refine w_test ?_ | refine w_not ?_ | refine w_and ?_ | refine w_or ?_ | refine w_andV ?_ | refine w_orV ?_ | refine w_notV ?_ | refine w_if ?_ | refine w_chn ?_ | refine w_call ?_ | refine w_make ?_ | refine w_fld ?_ | refine w_ml ?_ | refine w_ml0 ?_ | refine w_sl ?_ | refine w_slD ?_ | refine w_noPart ?_ | refine w_part ?_ | refine w_dictZ ?_ | refine w_lcA ?_ | refine w_ret ?_ | refine w_rt ?_ | refine w_ifS ?_ | refine w_next ?_ | refine w_break ?_ | refine w_cont ?_ | refine w_seq ?_ | refine w_asg ?_ | refine w_drop ?_ | refine w_par ?_ | refine w_sfld ?_ | refine w_asgT ?_ | refine w_gset ?_ | refine w_gname ?_ | refine w_gtup rfl ?_ | refine w_gcons ?_ | refine w_gnil ?_ | refine w_yes ?_) | refine w_bl ?_ | refine w_int ?_ | refine w_T ?_ | refine w_F ?_ | refine w_nT ?_ | refine w_nF ?_ | refine q_len_tup ?_ | refine q_int ?_ | refine q_intB ?_ | refine q_add ?_ | refine q_sub ?_ | refine q_neg ?_ | refine q_ord ?_ | refine q_ordS ?_ | refine q_tuple_tup ?_ | refine qEq_int ?_)))
      exact fin _ (by show _ = nearB e0 (e.1, e.2); unfold nearB; rw [z]; rfl)
  · rw [filter_dEs_id]
    have cu := cu.new (o := .lst (dEs (rs.filter (nearB e0)))) hm2
    have hM := HSub.new (o := .lst (dEs (rs.filter (nearB e0)))) hm2 _ _ hM
    have hN2 := up_same (G := G2) (a := m2) (o := .lst (dEs (rs.filter (nearB e0))))
    generalize up G2 m2 (.lst (dEs (rs.filter (nearB e0)))) = G3 at cu hM hN2
    have n0s : ∀ e ∈ rs.filter (nearB e0), e ∈ rs := fun e he => (List.mem_filter.mp he).1
    have n0d : (rs.filter (nearB e0)).Nodup := ndr.filter _
    generalize rs.filter (nearB e0) = n0 at cu hN2 n0s n0d
    show t_L_other_edges_right_4 K c _ _ _ _
    unfold t_L_other_edges_right_4
    (with_reducible (repeat (first | (first | refine w_var rfl ?_ | refine w_c ?_ | refine w_op ?_ | refine w_un ?_ | refine w_cl ?_ | refine w_nil ?_ | refine w_cons ?_ | refine w_tup ?_ | refine w_lst ?_ | refine w_test ?_ | refine w_not ?_ | refine w_and ?_ | refine w_or ?_ | refine w_andV ?_ | refine w_orV ?_ | refine w_notV ?_ | refine w_if ?_ | refine w_chn ?_ | refine w_call ?_ | refine w_make ?_ | refine w_fld ?_ | refine w_ml ?_ | refine w_ml0 ?_ | refine w_sl ?_ | refine w_slD ?_ | refine w_noPart ?_ | refine w_part ?_ | refine w_dictZ ?_ | refine w_lcA ?_ | refine w_ret ?_ | refine w_rt ?_ | refine w_ifS ?_ | refine w_next ?_ | refine w_break ?_ | refine w_cont ?_ | refine w_seq ?_ | refine w_asg ?_ | refine w_drop ?_ | refine w_par ?_ | refine w_sfld ?_ | refine w_asgT ?_ | refine w_gset ?_ | refine w_gname ?_ | refine w_gtup rfl ?_ | refine w_gcons ?_ | refine w_gnil ?_ | refine w_yes ?_) | refine w_bl ?_ | refine w_int ?_ | refine w_T ?_ | refine w_F ?_ | refine w_nT ?_ | refine w_nF ?_ | refine q_len_tup ?_ | refine q_int ?_ | refine q_intB ?_ | refine q_add ?_ | refine q_sub ?_ | refine q_neg ?_ | refine q_ord ?_ | refine q_ordS ?_ | refine q_tuple_tup ?_ | refine qEq_int ?_)))
    refine lc_at (xs := dEs rs) (.ad (cu.get hf fs)) (by rw [dEs_len]; exact size_ge (by omega)) (onE (notIn n0)) (fun y => y) (fun y hy => ?_) (fun m3 hm3 => ?_)
    · obtain ⟨e, he, rfl⟩ := List.mem_map.mp hy
      intro G4 s4 N A hN hA
      (with_reducible (repeat (first | (first | refine w_var rfl ?_ | refine w_c ?_ | refine w_op ?_ | refine w_un ?_ | refine w_cl ?_ | refine w_nil ?_ | refine w_cons ?_ | refine w_tup ?_ | refine w_lst ?_ | refine w_test ?_ | refine w_not ?_ | refine w_and ?_ | refine w_or ?_ | refine w_andV ?_ | refine w_orV ?_ | refine w_notV ?_ | refine w_if ?_ | refine w_chn ?_ | refine w_call ?_ | refine w_make ?_ | refine w_fld ?_ | refine w_ml ?_ | refine w_ml0 ?_ | refine w_sl ?_ | refine w_slD ?_ | refine w_noPart ?_ | refine w_part ?_ | refine w_dictZ ?_ | refine w_lcA ?_ | refine w_ret ?_ | refine w_rt ?_ | refine w_ifS ?_ | refine w_next ?_ | refine w_break ?_ | refine w_cont ?_ | refine w_seq ?_ | refine w_asg ?_ | refine w_drop ?_ | refine w_par ?_ | refine w_sfld ?_ | refine w_asgT ?_ | refine w_gset ?_ | refine w_gname ?_ | refine w_gtup rfl ?_ | refine w_gcons ?_ | refine w_gnil ?_ | refine w_yes ?_) | refine w_bl ?_ | refine w_int ?_ | refine w_T ?_ | refine w_F ?_ | refine w_nT ?_ | refine w_nF ?_ | refine q_len_tup ?_ | refine q_int ?_ | refine q_intB ?_ | refine q_add ?_ | refine q_sub ?_ | refine q_neg ?_ | refine q_ord ?_ | refine q_ordS ?_ | refine q_tuple_tup ?_ | refine qEq_int ?_)))
      refine qIn_row (.ad (s4 _ _ hN2)) (evr [e] (by simpa using he) _ (by simp [dEs])) (evr n0 n0s) fun b hb => ?_
      have : (true ^^ b) = onE (notIn n0) (dEdge e) := by
        show _ = notIn n0 (e.1, e.2)
        have : b = decide (e ∈ n0) := by rw [Bool.eq_iff_iff, hb, decide_eq_true_iff]; exact mem_dEs
        rw [this, Bool.true_xor]; rfl
      rw [this]
      (with_reducible (repeat (first | (first | refine w_var rfl ?_ | refine w_c ?_ | refine w_op ?_ | refine w_un ?_ | refine w_cl ?_ | refine w_nil ?_ | refine w_cons ?_ | refine w_tup ?_ | refine w_lst ?_ | refine w_test ?_ | refine w_not ?_ | refine w_and ?_ | refine w_or ?_ | refine w_andV ?_ | refine w_orV ?_ | refine w_notV ?_ | refine w_if ?_ | refine w_chn ?_ | refine w_call ?_ | refine w_make ?_ | refine w_fld ?_ | refine w_ml ?_ | refine w_ml0 ?_ | refine w_sl ?_ | refine w_slD ?_ | refine w_noPart ?_ | refine w_part ?_ | refine w_dictZ ?_ | refine w_lcA ?_ | refine w_ret ?_ | refine w_rt ?_ | refine w_ifS ?_ | refine w_next ?_ | refine w_break ?_ | refine w_cont ?_ | refine w_seq ?_ | refine w_asg ?_ | refine w_drop ?_ | refine w_par ?_ | refine w_sfld ?_ | refine w_asgT ?_ | refine w_gset ?_ | refine w_gname ?_ | refine w_gtup rfl ?_ | refine w_gcons ?_ | refine w_gnil ?_ | refine w_yes ?_) | refine w_bl ?_ | refine w_int ?_ | refine w_T ?_ | refine w_F ?_ | refine w_nT ?_ | refine w_nF ?_ | refine q_len_tup ?_ | refine q_int ?_ | refine q_intB ?_ | refine q_add ?_ | refine q_sub ?_ | refine q_neg ?_ | refine q_ord ?_ | refine q_ordS ?_ | refine q_tuple_tup ?_ | refine qEq_int ?_)))
      exact iteB (fun h => w_var rfl (hA h _ (HSub.refl _))) fun h => hN h _ (HSub.refl _)
    · rw [filter_dEs_id]
      have cu := cu.new (o := .lst (dEs (rs.filter (notIn n0)))) hm3
      have hM := HSub.new (o := .lst (dEs (rs.filter (notIn n0)))) hm3 _ _ hM
      have hN2 := HSub.new (o := .lst (dEs (rs.filter (notIn n0)))) hm3 _ _ hN2
      have f0s : ∀ e ∈ rs.filter (notIn n0), e ∈ rs := fun e he => (List.mem_filter.mp he).1
      obtain ⟨a, b, d, hs⟩ := cu.src
      have mne : ∀ {y : Addr} {o : List Dv}, G0 y = none → True := fun _ => trivial
      (with_reducible (repeat (first | (first | refine w_var rfl ?_ | refine w_c ?_ | refine w_op ?_ | refine w_un ?_ | refine w_cl ?_ | refine w_nil ?_ | refine w_cons ?_ | refine w_tup ?_ | refine w_lst ?_ | refine w_test ?_ | refine w_not ?_ | refine w_and ?_ | refine w_or ?_ | refine w_andV ?_ | refine w_orV ?_ | refine w_notV ?_ | refine w_if ?_ | refine w_chn ?_ | refine w_call ?_ | refine w_make ?_ | refine w_fld ?_ | refine w_ml ?_ | refine w_ml0 ?_ | refine w_sl ?_ | refine w_slD ?_ | refine w_noPart ?_ | refine w_part ?_ | refine w_dictZ ?_ | refine w_lcA ?_ | refine w_ret ?_ | refine w_rt ?_ | refine w_ifS ?_ | refine w_next ?_ | refine w_break ?_ | refine w_cont ?_ | refine w_seq ?_ | refine w_asg ?_ | refine w_drop ?_ | refine w_par ?_ | refine w_sfld ?_ | refine w_asgT ?_ | refine w_gset ?_ | refine w_gname ?_ | refine w_gtup rfl ?_ | refine w_gcons ?_ | refine w_gnil ?_ | refine w_yes ?_) | refine w_bl ?_ | refine w_int ?_ | refine w_T ?_ | refine w_F ?_ | refine w_nT ?_ | refine w_nF ?_ | refine q_len_tup ?_ | refine q_int ?_ | refine q_intB ?_ | refine q_add ?_ | refine q_sub ?_ | refine q_neg ?_ | refine q_ord ?_ | refine q_ordS ?_ | refine q_tuple_tup ?_ | refine qEq_int ?_)))
      refine ⟨_, ⟨s, a, b, d, .ad m3, _, rfl, hs, .ad up_same, evr _ f0s, by rw [dEs_len]; have := List.length_filter_le (notIn n0) rs; omega, rfl⟩, ?_⟩
      rintro _ _ ⟨m4, ys, a2, b2, d2, rfl, hys, hm4, rfl⟩
      obtain ⟨f0, rfl, pf⟩ := perm_dEs hys
      have ns1 : m1 ≠ s := fun e => by subst e; rw [hM] at hs; injection hs with h; injection h with h; cases gs with
        | nil => cases he0
        | cons => cases h
      have ns2 : m2 ≠ s := fun e => by subst e; rw [hN2] at hs; injection hs with h; injection h with h; cases n0 with
        | nil => cases h
        | cons => cases h
      have hm4' : up (up G3 m3 (.lst (dEs (rs.filter (notIn n0))))) s (so a2 b2 d2) m4 = none := by
        rw [up_none]
        exact ⟨(fun e => by rw [e, hs] at hm4; cases hm4), hm4⟩
      have cu := (cu.set a2 b2 d2).new (o := .lst (dEs f0)) hm4'
      have hM := HSub.new (o := .lst (dEs f0)) hm4' m1 _ (by rw [up_ne ns1]; exact hM)
      have hN2 := HSub.new (o := .lst (dEs f0)) hm4' m2 _ (by rw [up_ne ns2]; exact hN2)
      have hF2 := up_same (G := up (up G3 m3 (.lst (dEs (rs.filter (notIn n0))))) s (so a2 b2 d2)) (a := m4) (o := .lst (dEs f0))
      have f0r : ∀ e ∈ f0, e ∈ rs ∧ e ∉ n0 := fun e he => by
        have := List.mem_filter.mp (pf.mem_iff.mp he)
        exact ⟨this.1, notIn_iff.mp this.2⟩
      have f0d : f0.Nodup := pf.symm.nodup (ndr.filter _)
      have l0 : n0.length ≤ 100 := Nat.le_trans (pigeon n0d n0s) frs
      have l1 : f0.length ≤ 100 := Nat.le_trans (pigeon f0d fun e he => (f0r e he).1) frs
      generalize up (up (up G3 m3 (.lst (dEs (rs.filter (notIn n0))))) s (so a2 b2 d2)) m4 (.lst (dEs f0)) = G5 at cu hM hN2 hF2
      show t_L_other_edges_right_3 K c _ _ _ _
      unfold t_L_other_edges_right_3
      (with_reducible (repeat (first | (first | refine w_var rfl ?_ | refine w_c ?_ | refine w_op ?_ | refine w_un ?_ | refine w_cl ?_ | refine w_nil ?_ | refine w_cons ?_ | refine w_tup ?_ | refine w_lst ?_ | refine w_test ?_ | refine w_not ?_ | refine w_and ?_ | refine w_or ?_ | refine w_andV ?_ | refine w_orV ?_ | refine w_notV ?_ | refine w_if ?_ | refine w_chn ?_ | refine w_call ?_ | refine w_make ?_ | refine w_fld ?_ | refine w_ml ?_ | refine w_ml0 ?_ | refine w_sl ?_ | refine w_slD ?_ | refine w_noPart ?_ | refine w_part ?_ | refine w_dictZ ?_ | refine w_lcA ?_ | refine w_ret ?_ | refine w_rt ?_ | refine w_ifS ?_ | refine w_next ?_ | refine w_break ?_ | refine w_cont ?_ | refine w_seq ?_ | refine w_asg ?_ | refine w_drop ?_ | refine w_par ?_ | refine w_sfld ?_ | refine w_asgT ?_ | refine w_gset ?_ | refine w_gname ?_ | refine w_gtup rfl ?_ | refine w_gcons ?_ | refine w_gnil ?_ | refine w_yes ?_) | refine w_bl ?_ | refine w_int ?_ | refine w_T ?_ | refine w_F ?_ | refine w_nT ?_ | refine w_nF ?_ | refine q_len_tup ?_ | refine q_int ?_ | refine q_intB ?_ | refine q_add ?_ | refine q_sub ?_ | refine q_neg ?_ | refine q_ord ?_ | refine q_ordS ?_ | refine q_tuple_tup ?_ | refine qEq_int ?_)))
      refine q_addL hN2 hF2 (by rw [dEs_len, dEs_len]; exact size_ge (by omega)) fun k1 hk1 => ?_
      have cu := cu.new (o := .lst (dEs n0 ++ dEs f0)) hk1
      have hM := HSub.new (o := .lst (dEs n0 ++ dEs f0)) hk1 _ _ hM
      have hN2 := HSub.new (o := .lst (dEs n0 ++ dEs f0)) hk1 _ _ hN2
      have hF2 := HSub.new (o := .lst (dEs n0 ++ dEs f0)) hk1 _ _ hF2
      have hK1 := up_same (G := G5) (a := k1) (o := .lst (dEs n0 ++ dEs f0))
      generalize up G5 k1 (.lst (dEs n0 ++ dEs f0)) = G6 at cu hM hN2 hF2 hK1
      (with_reducible (repeat (first | (first | refine w_var rfl ?_ | refine w_c ?_ | refine w_op ?_ | refine w_un ?_ | refine w_cl ?_ | refine w_nil ?_ | refine w_cons ?_ | refine w_tup ?_ | refine w_lst ?_ | refine w_test ?_ | refine w_not ?_ | refine w_and ?_ | refine w_or ?_ | refine w_andV ?_ | refine w_orV ?_ | refine w_notV ?_ | refine w_if ?_ | refine w_chn ?_ | refine w_call ?_ | refine w_make ?_ | refine w_fld ?_ | refine w_ml ?_ | refine w_ml0 ?_ | refine w_sl ?_ | refine w_slD ?_ | refine w_noPart ?_ | refine w_part ?_ | refine w_dictZ ?_ | refine w_lcA ?_ | refine w_ret ?_ | refine w_rt ?_ | refine w_ifS ?_ | refine w_next ?_ | refine w_break ?_ | refine w_cont ?_ | refine w_seq ?_ | refine w_asg ?_ | refine w_drop ?_ | refine w_par ?_ | refine w_sfld ?_ | refine w_asgT ?_ | refine w_gset ?_ | refine w_gname ?_ | refine w_gtup rfl ?_ | refine w_gcons ?_ | refine w_gnil ?_ | refine w_yes ?_) | refine w_bl ?_ | refine w_int ?_ | refine w_T ?_ | refine w_F ?_ | refine w_nT ?_ | refine w_nF ?_ | refine q_len_tup ?_ | refine q_int ?_ | refine q_intB ?_ | refine q_add ?_ | refine q_sub ?_ | refine q_neg ?_ | refine q_ord ?_ | refine q_ordS ?_ | refine q_tuple_tup ?_ | refine qEq_int ?_)))
      refine q_addL hF2 hN2 (by rw [dEs_len, dEs_len]; exact size_ge (by omega)) fun k2 hk2 => ?_
      have cu := cu.new (o := .lst (dEs f0 ++ dEs n0)) hk2
      have hM := HSub.new (o := .lst (dEs f0 ++ dEs n0)) hk2 _ _ hM
      have hK1 := HSub.new (o := .lst (dEs f0 ++ dEs n0)) hk2 _ _ hK1
      have hK2 := up_same (G := G6) (a := k2) (o := .lst (dEs f0 ++ dEs n0))
      generalize up G6 k2 (.lst (dEs f0 ++ dEs n0)) = G7 at cu hM hK1 hK2
      (with_reducible (repeat (first | (first | refine w_var rfl ?_ | refine w_c ?_ | refine w_op ?_ | refine w_un ?_ | refine w_cl ?_ | refine w_nil ?_ | refine w_cons ?_ | refine w_tup ?_ | refine w_lst ?_ | refine w_test ?_ | refine w_not ?_ | refine w_and ?_ | refine w_or ?_ | refine w_andV ?_ | refine w_orV ?_ | refine w_notV ?_ | refine w_if ?_ | refine w_chn ?_ | refine w_call ?_ | refine w_make ?_ | refine w_fld ?_ | refine w_ml ?_ | refine w_ml0 ?_ | refine w_sl ?_ | refine w_slD ?_ | refine w_noPart ?_ | refine w_part ?_ | refine w_dictZ ?_ | refine w_lcA ?_ | refine w_ret ?_ | refine w_rt ?_ | refine w_ifS ?_ | refine w_next ?_ | refine w_break ?_ | refine w_cont ?_ | refine w_seq ?_ | refine w_asg ?_ | refine w_drop ?_ | refine w_par ?_ | refine w_sfld ?_ | refine w_asgT ?_ | refine w_gset ?_ | refine w_gname ?_ | refine w_gtup rfl ?_ | refine w_gcons ?_ | refine w_gnil ?_ | refine w_yes ?_) | refine w_bl ?_ | refine w_int ?_ | refine w_T ?_ | refine w_F ?_ | refine w_nT ?_ | refine w_nF ?_ | refine q_len_tup ?_ | refine q_int ?_ | refine q_intB ?_ | refine q_add ?_ | refine q_sub ?_ | refine q_neg ?_ | refine q_ord ?_ | refine q_ordS ?_ | refine q_tuple_tup ?_ | refine qEq_int ?_)))
      refine ⟨by show 2 ≤ sizeLine; decide, fun k3 hk3 => ?_⟩
      have cu := cu.new (o := .lst [.ad k1, .ad k2]) hk3
      have hM := HSub.new (o := .lst [.ad k1, .ad k2]) hk3 _ _ hM
      have hK1 := HSub.new (o := .lst [.ad k1, .ad k2]) hk3 _ _ hK1
      have hK2 := HSub.new (o := .lst [.ad k1, .ad k2]) hk3 _ _ hK2
      have hK3 := up_same (G := G7) (a := k3) (o := .lst [.ad k1, .ad k2])
      generalize up G7 k3 (.lst [.ad k1, .ad k2]) = G8 at cu hM hK1 hK2 hK3
      obtain ⟨a, b, d, hs⟩ := cu.src
      have ne_of : ∀ {y : Addr} {o : Ob}, G8 y = some o → o ≠ so a b d → y ≠ s := fun h1 h2 e => by subst e; rw [hs] at h1; injection h1 with h; exact h2 h.symm
      have k3s : k3 ≠ s := ne_of hK3 (fun h => by injection h with h; cases h)
      have k1s : k1 ≠ s := ne_of hK1 (fun h => by injection h with h; rw [← dEs_app] at h; cases hh : n0 ++ f0 with
        | nil => rw [hh] at h; cases h
        | cons => rw [hh] at h; cases h)
      have k2s : k2 ≠ s := ne_of hK2 (fun h => by injection h with h; rw [← dEs_app] at h; cases hh : f0 ++ n0 with
        | nil => rw [hh] at h; cases h
        | cons => rw [hh] at h; cases h)
      (with_reducible (repeat (first | (first | refine w_var rfl ?_ | refine w_c ?_ | refine w_op ?_ | refine w_un ?_ | refine w_cl ?_ | refine w_nil ?_ | refine w_cons ?_ | refine w_tup ?_ | refine w_lst ?_ | refine w_test ?_ | refine w_not ?_ | refine w_and ?_ | refine w_or ?_ | refine w_andV ?_ | refine w_orV ?_ | refine w_notV ?_ | refine w_if ?_ | refine w_chn ?_ | refine w_call ?_ | refine w_make ?_ | refine w_fld ?_ | refine w_ml ?_ | refine w_ml0 ?_ | refine w_sl ?_ | refine w_slD ?_ | refine w_noPart ?_ | refine w_part ?_ | refine w_dictZ ?_ | refine w_lcA ?_ | refine w_ret ?_ | refine w_rt ?_ | refine w_ifS ?_ | refine w_next ?_ | refine w_break ?_ | refine w_cont ?_ | refine w_seq ?_ | refine w_asg ?_ | refine w_drop ?_ | refine w_par ?_ | refine w_sfld ?_ | refine w_asgT ?_ | refine w_gset ?_ | refine w_gname ?_ | refine w_gtup rfl ?_ | refine w_gcons ?_ | refine w_gnil ?_ | refine w_yes ?_) | refine w_bl ?_ | refine w_int ?_ | refine w_T ?_ | refine w_F ?_ | refine w_nT ?_ | refine w_nF ?_ | refine q_len_tup ?_ | refine q_int ?_ | refine q_intB ?_ | refine q_add ?_ | refine q_sub ?_ | refine q_neg ?_ | refine q_ord ?_ | refine q_ordS ?_ | refine q_tuple_tup ?_ | refine qEq_int ?_)))
      refine ⟨_, ⟨s, a, b, d, .ad k3, _, rfl, hs, by show 0 < 2; decide, by show 2 < 2 ^ 60; decide, .inl ⟨.ad hK3, fun e => k3s (by cases e; rfl)⟩, rfl⟩, ?_⟩
      rintro v _ ⟨a3, b3, d3, hv, rfl⟩
      have cu := cu.set a3 b3 d3
      have hM : up G8 s (so a3 b3 d3) m1 = some (.lst (dEs gs)) := by rw [up_ne ns1]; exact hM
      obtain ⟨k, y0, rfl, hY, ynd, yin⟩ : ∃ k y0, v = .ad k ∧ up G8 s (so a3 b3 d3) k = some (.lst (dEs y0)) ∧ y0.Nodup ∧ ∀ e ∈ y0, e ∈ rs := by
        have dj : ∀ x ∈ n0, ∀ y ∈ f0, x ≠ y := fun x hx y hy e => (f0r y hy).2 (by rw [← e]; exact hx)
        rcases List.mem_cons.mp hv with rfl | hv
        · refine ⟨k1, n0 ++ f0, rfl, by rw [up_ne k1s, dEs_app]; exact hK1, by rw [List.nodup_append]; exact ⟨n0d, f0d, dj⟩, fun e he => ?_⟩
          rcases List.mem_append.mp he with he | he
          · exact n0s e he
          · exact (f0r e he).1
        · rw [List.mem_singleton.mp hv]
          refine ⟨k2, f0 ++ n0, rfl, by rw [up_ne k2s, dEs_app]; exact hK2, by rw [List.nodup_append]; exact ⟨f0d, n0d, fun x hx y hy e => dj y hy x hx e.symm⟩, fun e he => ?_⟩
          rcases List.mem_append.mp he with he | he
          · exact (f0r e he).1
          · exact n0s e he
      generalize up G8 s (so a3 b3 d3) = G9 at cu hM hY
      (with_reducible (repeat (first | (first | refine w_var rfl ?_ | refine w_c ?_ | refine w_op ?_ | refine w_un ?_ | refine w_cl ?_ | refine w_nil ?_ | refine w_cons ?_ | refine w_tup ?_ | refine w_lst ?_ | refine w_test ?_ | refine w_not ?_ | refine w_and ?_ | refine w_or ?_ | refine w_andV ?_ | refine w_orV ?_ | refine w_notV ?_ | refine w_if ?_ | refine w_chn ?_ | refine w_call ?_ | refine w_make ?_ | refine w_fld ?_ | refine w_ml ?_ | refine w_ml0 ?_ | refine w_sl ?_ | refine w_slD ?_ | refine w_noPart ?_ | refine w_part ?_ | refine w_dictZ ?_ | refine w_lcA ?_ | refine w_ret ?_ | refine w_rt ?_ | refine w_ifS ?_ | refine w_next ?_ | refine w_break ?_ | refine w_cont ?_ | refine w_seq ?_ | refine w_asg ?_ | refine w_drop ?_ | refine w_par ?_ | refine w_sfld ?_ | refine w_asgT ?_ | refine w_gset ?_ | refine w_gname ?_ | refine w_gtup rfl ?_ | refine w_gcons ?_ | refine w_gnil ?_ | refine w_yes ?_) | refine w_bl ?_ | refine w_int ?_ | refine w_T ?_ | refine w_F ?_ | refine w_nT ?_ | refine w_nF ?_ | refine q_len_tup ?_ | refine q_int ?_ | refine q_intB ?_ | refine q_add ?_ | refine q_sub ?_ | refine q_neg ?_ | refine q_ord ?_ | refine q_ordS ?_ | refine q_tuple_tup ?_ | refine qEq_int ?_)))
      refine q_len_ad hM ?_
      (with_reducible (repeat (first | (first | refine w_var rfl ?_ | refine w_c ?_ | refine w_op ?_ | refine w_un ?_ | refine w_cl ?_ | refine w_nil ?_ | refine w_cons ?_ | refine w_tup ?_ | refine w_lst ?_ | refine w_test ?_ | refine w_not ?_ | refine w_and ?_ | refine w_or ?_ | refine w_andV ?_ | refine w_orV ?_ | refine w_notV ?_ | refine w_if ?_ | refine w_chn ?_ | refine w_call ?_ | refine w_make ?_ | refine w_fld ?_ | refine w_ml ?_ | refine w_ml0 ?_ | refine w_sl ?_ | refine w_slD ?_ | refine w_noPart ?_ | refine w_part ?_ | refine w_dictZ ?_ | refine w_lcA ?_ | refine w_ret ?_ | refine w_rt ?_ | refine w_ifS ?_ | refine w_next ?_ | refine w_break ?_ | refine w_cont ?_ | refine w_seq ?_ | refine w_asg ?_ | refine w_drop ?_ | refine w_par ?_ | refine w_sfld ?_ | refine w_asgT ?_ | refine w_gset ?_ | refine w_gname ?_ | refine w_gtup rfl ?_ | refine w_gcons ?_ | refine w_gnil ?_ | refine w_yes ?_) | refine w_bl ?_ | refine w_int ?_ | refine w_T ?_ | refine w_F ?_ | refine w_nT ?_ | refine w_nF ?_ | refine q_len_tup ?_ | refine q_int ?_ | refine q_intB ?_ | refine q_add ?_ | refine q_sub ?_ | refine q_neg ?_ | refine q_ord ?_ | refine q_ordS ?_ | refine q_tuple_tup ?_ | refine qEq_int ?_)))
      refine q_sl_ad hY fun z1 hz1 => ?_
      rw [cut_take, dEs_take, dEs_len]
      have cu := cu.new (o := .lst (dEs (y0.take gs.length))) hz1
      have hM := HSub.new (o := .lst (dEs (y0.take gs.length))) hz1 _ _ hM
      have hZ := up_same (G := G9) (a := z1) (o := .lst (dEs (y0.take gs.length)))
      generalize up G9 z1 (.lst (dEs (y0.take gs.length))) = G10 at cu hM hZ
      have x := cx.cur cu
      have yy : ∀ e ∈ y0.take gs.length, e ∈ pairs ns ns ∧ e ∉ es := fun e he => hrs e (yin e (List.mem_of_mem_take he))
      have ok := swap_ok x.e gnd gsub (ynd.sublist (List.take_sublist _ _)) (take_len y0 gs.length) yy
      have nn : ¬ (ns = ns ∧ sortE es = sortE (es.filter (notIn gs) ++ y0.take gs.length)) := fun h => swap_ne e0g gsub (fun e he => (yy e he).2) h.2
      show t_L_other_edges_right_2 K c _ _ _ _
      unfold t_L_other_edges_right_2
      (with_reducible (repeat (first | (first | refine w_var rfl ?_ | refine w_c ?_ | refine w_op ?_ | refine w_un ?_ | refine w_cl ?_ | refine w_nil ?_ | refine w_cons ?_ | refine w_tup ?_ | refine w_lst ?_ | refine w_test ?_ | refine w_not ?_ | refine w_and ?_ | refine w_or ?_ | refine w_andV ?_ | refine w_orV ?_ | refine w_notV ?_ | refine w_if ?_ | refine w_chn ?_ | refine w_call ?_ | refine w_make ?_ | refine w_fld ?_ | refine w_ml ?_ | refine w_ml0 ?_ | refine w_sl ?_ | refine w_slD ?_ | refine w_noPart ?_ | refine w_part ?_ | refine w_dictZ ?_ | refine w_lcA ?_ | refine w_ret ?_ | refine w_rt ?_ | refine w_ifS ?_ | refine w_next ?_ | refine w_break ?_ | refine w_cont ?_ | refine w_seq ?_ | refine w_asg ?_ | refine w_drop ?_ | refine w_par ?_ | refine w_sfld ?_ | refine w_asgT ?_ | refine w_gset ?_ | refine w_gname ?_ | refine w_gtup rfl ?_ | refine w_gcons ?_ | refine w_gnil ?_ | refine w_yes ?_) | refine w_bl ?_ | refine w_int ?_ | refine w_T ?_ | refine w_F ?_ | refine w_nT ?_ | refine w_nF ?_ | refine q_len_tup ?_ | refine q_int ?_ | refine q_intB ?_ | refine q_add ?_ | refine q_sub ?_ | refine q_neg ?_ | refine q_ord ?_ | refine q_ordS ?_ | refine q_tuple_tup ?_ | refine qEq_int ?_)))
      refine lc_at (xs := dEs es) (.ad x.hr) (by rw [dEs_len]; exact size_ge (by have := x.e.few; omega)) (onE (notIn gs)) (fun y => y) (fun y hy => ?_) (fun z2 hz2 => ?_)
      · obtain ⟨e, he, rfl⟩ := List.mem_map.mp hy
        intro G4 s4 N A hN hA
        (with_reducible (repeat (first | (first | refine w_var rfl ?_ | refine w_c ?_ | refine w_op ?_ | refine w_un ?_ | refine w_cl ?_ | refine w_nil ?_ | refine w_cons ?_ | refine w_tup ?_ | refine w_lst ?_ | refine w_test ?_ | refine w_not ?_ | refine w_and ?_ | refine w_or ?_ | refine w_andV ?_ | refine w_orV ?_ | refine w_notV ?_ | refine w_if ?_ | refine w_chn ?_ | refine w_call ?_ | refine w_make ?_ | refine w_fld ?_ | refine w_ml ?_ | refine w_ml0 ?_ | refine w_sl ?_ | refine w_slD ?_ | refine w_noPart ?_ | refine w_part ?_ | refine w_dictZ ?_ | refine w_lcA ?_ | refine w_ret ?_ | refine w_rt ?_ | refine w_ifS ?_ | refine w_next ?_ | refine w_break ?_ | refine w_cont ?_ | refine w_seq ?_ | refine w_asg ?_ | refine w_drop ?_ | refine w_par ?_ | refine w_sfld ?_ | refine w_asgT ?_ | refine w_gset ?_ | refine w_gname ?_ | refine w_gtup rfl ?_ | refine w_gcons ?_ | refine w_gnil ?_ | refine w_yes ?_) | refine w_bl ?_ | refine w_int ?_ | refine w_T ?_ | refine w_F ?_ | refine w_nT ?_ | refine w_nF ?_ | refine q_len_tup ?_ | refine q_int ?_ | refine q_intB ?_ | refine q_add ?_ | refine q_sub ?_ | refine q_neg ?_ | refine q_ord ?_ | refine q_ordS ?_ | refine q_tuple_tup ?_ | refine qEq_int ?_)))
        refine qIn_row (.ad (s4 _ _ hM)) (x.e.ev x.v _ (List.mem_map_of_mem he)) (fun y hy => by
          obtain ⟨e', he', rfl⟩ := List.mem_map.mp hy
          exact x.e.ev x.v _ (List.mem_map_of_mem (gsub e' he'))) fun b hb => ?_
        have : (true ^^ b) = onE (notIn gs) (dEdge e) := by
          show _ = notIn gs (e.1, e.2)
          have : b = decide (e ∈ gs) := by rw [Bool.eq_iff_iff, hb, decide_eq_true_iff]; exact mem_dEs
          rw [this, Bool.true_xor]; rfl
        rw [this]
        (with_reducible (repeat (first | (first | refine w_var rfl ?_ | refine w_c ?_ | refine w_op ?_ | refine w_un ?_ | refine w_cl ?_ | refine w_nil ?_ | refine w_cons ?_ | refine w_tup ?_ | refine w_lst ?_ | refine w_test ?_ | refine w_not ?_ | refine w_and ?_ | refine w_or ?_ | refine w_andV ?_ | refine w_orV ?_ | refine w_notV ?_ | refine w_if ?_ | refine w_chn ?_ | refine w_call ?_ | refine w_make ?_ | refine w_fld ?_ | refine w_ml ?_ | refine w_ml0 ?_ | refine w_sl ?_ | refine w_slD ?_ | refine w_noPart ?_ | refine w_part ?_ | refine w_dictZ ?_ | refine w_lcA ?_ | refine w_ret ?_ | refine w_rt ?_ | refine w_ifS ?_ | refine w_next ?_ | refine w_break ?_ | refine w_cont ?_ | refine w_seq ?_ | refine w_asg ?_ | refine w_drop ?_ | refine w_par ?_ | refine w_sfld ?_ | refine w_asgT ?_ | refine w_gset ?_ | refine w_gname ?_ | refine w_gtup rfl ?_ | refine w_gcons ?_ | refine w_gnil ?_ | refine w_yes ?_) | refine w_bl ?_ | refine w_int ?_ | refine w_T ?_ | refine w_F ?_ | refine w_nT ?_ | refine w_nF ?_ | refine q_len_tup ?_ | refine q_int ?_ | refine q_intB ?_ | refine q_add ?_ | refine q_sub ?_ | refine q_neg ?_ | refine q_ord ?_ | refine q_ordS ?_ | refine q_tuple_tup ?_ | refine qEq_int ?_)))
        exact iteB (fun h => w_var rfl (hA h _ (HSub.refl _))) fun h => hN h _ (HSub.refl _)
      · rw [filter_dEs_id]
        have cu := cu.new (o := .lst (dEs (es.filter (notIn gs)))) hz2
        have hZ := HSub.new (o := .lst (dEs (es.filter (notIn gs)))) hz2 _ _ hZ
        (with_reducible (repeat (first | (first | refine w_var rfl ?_ | refine w_c ?_ | refine w_op ?_ | refine w_un ?_ | refine w_cl ?_ | refine w_nil ?_ | refine w_cons ?_ | refine w_tup ?_ | refine w_lst ?_ | refine w_test ?_ | refine w_not ?_ | refine w_and ?_ | refine w_or ?_ | refine w_andV ?_ | refine w_orV ?_ | refine w_notV ?_ | refine w_if ?_ | refine w_chn ?_ | refine w_call ?_ | refine w_make ?_ | refine w_fld ?_ | refine w_ml ?_ | refine w_ml0 ?_ | refine w_sl ?_ | refine w_slD ?_ | refine w_noPart ?_ | refine w_part ?_ | refine w_dictZ ?_ | refine w_lcA ?_ | refine w_ret ?_ | refine w_rt ?_ | refine w_ifS ?_ | refine w_next ?_ | refine w_break ?_ | refine w_cont ?_ | refine w_seq ?_ | refine w_asg ?_ | refine w_drop ?_ | refine w_par ?_ | refine w_sfld ?_ | refine w_asgT ?_ | refine w_gset ?_ | refine w_gname ?_ | refine w_gtup rfl ?_ | refine w_gcons ?_ | refine w_gnil ?_ | refine w_yes ?_) | refine w_bl ?_ | refine w_int ?_ | refine w_T ?_ | refine w_F ?_ | refine w_nT ?_ | refine w_nF ?_ | refine q_len_tup ?_ | refine q_int ?_ | refine q_intB ?_ | refine q_add ?_ | refine q_sub ?_ | refine q_neg ?_ | refine q_ord ?_ | refine q_ordS ?_ | refine q_tuple_tup ?_ | refine qEq_int ?_)))
        refine q_addL up_same hZ (by rw [dEs_len, dEs_len, ← List.length_append]; exact size_ge (by have := ok.few; omega)) fun z3 hz3 => ?_
        rw [← dEs_app]
        have cu := cu.new (o := .lst (dEs (es.filter (notIn gs) ++ y0.take gs.length))) hz3
        have x := cx.cur cu
        (with_reducible (repeat (first | (first | refine w_var rfl ?_ | refine w_c ?_ | refine w_op ?_ | refine w_un ?_ | refine w_cl ?_ | refine w_nil ?_ | refine w_cons ?_ | refine w_tup ?_ | refine w_lst ?_ | refine w_test ?_ | refine w_not ?_ | refine w_and ?_ | refine w_or ?_ | refine w_andV ?_ | refine w_orV ?_ | refine w_notV ?_ | refine w_if ?_ | refine w_chn ?_ | refine w_call ?_ | refine w_make ?_ | refine w_fld ?_ | refine w_ml ?_ | refine w_ml0 ?_ | refine w_sl ?_ | refine w_slD ?_ | refine w_noPart ?_ | refine w_part ?_ | refine w_dictZ ?_ | refine w_lcA ?_ | refine w_ret ?_ | refine w_rt ?_ | refine w_ifS ?_ | refine w_next ?_ | refine w_break ?_ | refine w_cont ?_ | refine w_seq ?_ | refine w_asg ?_ | refine w_drop ?_ | refine w_par ?_ | refine w_sfld ?_ | refine w_asgT ?_ | refine w_gset ?_ | refine w_gname ?_ | refine w_gtup rfl ?_ | refine w_gcons ?_ | refine w_gnil ?_ | refine w_yes ?_) | refine w_bl ?_ | refine w_int ?_ | refine w_T ?_ | refine w_F ?_ | refine w_nT ?_ | refine w_nF ?_ | refine q_len_tup ?_ | refine q_int ?_ | refine q_intB ?_ | refine q_add ?_ | refine q_sub ?_ | refine q_neg ?_ | refine q_ord ?_ | refine q_ordS ?_ | refine q_tuple_tup ?_ | refine qEq_int ?_)))
        refine q_make (.inl ⟨p, rfl, x.hp⟩) (.inl ⟨z3, rfl, up_same⟩) x.v ok fun g2 hg2 => ?_
        have cu := cu.new (o := .ins c.cGraph (gFs ns (es.filter (notIn gs) ++ y0.take gs.length))) hg2
        have x := cx.cur cu
        show t_L_other_edges_right_1 K c _ _ _ _
        unfold t_L_other_edges_right_1
        (with_reducible (repeat (first | (first | refine w_var rfl ?_ | refine w_c ?_ | refine w_op ?_ | refine w_un ?_ | refine w_cl ?_ | refine w_nil ?_ | refine w_cons ?_ | refine w_tup ?_ | refine w_lst ?_ | refine w_test ?_ | refine w_not ?_ | refine w_and ?_ | refine w_or ?_ | refine w_andV ?_ | refine w_orV ?_ | refine w_notV ?_ | refine w_if ?_ | refine w_chn ?_ | refine w_call ?_ | refine w_make ?_ | refine w_fld ?_ | refine w_ml ?_ | refine w_ml0 ?_ | refine w_sl ?_ | refine w_slD ?_ | refine w_noPart ?_ | refine w_part ?_ | refine w_dictZ ?_ | refine w_lcA ?_ | refine w_ret ?_ | refine w_rt ?_ | refine w_ifS ?_ | refine w_next ?_ | refine w_break ?_ | refine w_cont ?_ | refine w_seq ?_ | refine w_asg ?_ | refine w_drop ?_ | refine w_par ?_ | refine w_sfld ?_ | refine w_asgT ?_ | refine w_gset ?_ | refine w_gname ?_ | refine w_gtup rfl ?_ | refine w_gcons ?_ | refine w_gnil ?_ | refine w_yes ?_) | refine w_bl ?_ | refine w_int ?_ | refine w_T ?_ | refine w_F ?_ | refine w_nT ?_ | refine w_nF ?_ | refine q_len_tup ?_ | refine q_int ?_ | refine q_intB ?_ | refine q_add ?_ | refine q_sub ?_ | refine q_neg ?_ | refine q_ord ?_ | refine q_ordS ?_ | refine q_tuple_tup ?_ | refine qEq_int ?_)))
        refine q_eqG_no gf x.hg up_same x.v x.e x.v ok nn ?_
        (with_reducible (repeat (first | (first | refine w_var rfl ?_ | refine w_c ?_ | refine w_op ?_ | refine w_un ?_ | refine w_cl ?_ | refine w_nil ?_ | refine w_cons ?_ | refine w_tup ?_ | refine w_lst ?_ | refine w_test ?_ | refine w_not ?_ | refine w_and ?_ | refine w_or ?_ | refine w_andV ?_ | refine w_orV ?_ | refine w_notV ?_ | refine w_if ?_ | refine w_chn ?_ | refine w_call ?_ | refine w_make ?_ | refine w_fld ?_ | refine w_ml ?_ | refine w_ml0 ?_ | refine w_sl ?_ | refine w_slD ?_ | refine w_noPart ?_ | refine w_part ?_ | refine w_dictZ ?_ | refine w_lcA ?_ | refine w_ret ?_ | refine w_rt ?_ | refine w_ifS ?_ | refine w_next ?_ | refine w_break ?_ | refine w_cont ?_ | refine w_seq ?_ | refine w_asg ?_ | refine w_drop ?_ | refine w_par ?_ | refine w_sfld ?_ | refine w_asgT ?_ | refine w_gset ?_ | refine w_gname ?_ | refine w_gtup rfl ?_ | refine w_gcons ?_ | refine w_gnil ?_ | refine w_yes ?_) | refine w_bl ?_ | refine w_int ?_ | refine w_T ?_ | refine w_F ?_ | refine w_nT ?_ | refine w_nF ?_ | refine q_len_tup ?_ | refine q_int ?_ | refine q_intB ?_ | refine q_add ?_ | refine q_sub ?_ | refine q_neg ?_ | refine q_ord ?_ | refine q_ordS ?_ | refine q_tuple_tup ?_ | refine qEq_int ?_)))
        refine q_eqG_no gf up_same x.hg x.v ok x.v x.e (fun h => nn ⟨rfl, h.2.symm⟩) ?_
        (with_reducible (repeat (first | (first | refine w_var rfl ?_ | refine w_c ?_ | refine w_op ?_ | refine w_un ?_ | refine w_cl ?_ | refine w_nil ?_ | refine w_cons ?_ | refine w_tup ?_ | refine w_lst ?_ | refine w_test ?_ | refine w_not ?_ | refine w_and ?_ | refine w_or ?_ | refine w_andV ?_ | refine w_orV ?_ | refine w_notV ?_ | refine w_if ?_ | refine w_chn ?_ | refine w_call ?_ | refine w_make ?_ | refine w_fld ?_ | refine w_ml ?_ | refine w_ml0 ?_ | refine w_sl ?_ | refine w_slD ?_ | refine w_noPart ?_ | refine w_part ?_ | refine w_dictZ ?_ | refine w_lcA ?_ | refine w_ret ?_ | refine w_rt ?_ | refine w_ifS ?_ | refine w_next ?_ | refine w_break ?_ | refine w_cont ?_ | refine w_seq ?_ | refine w_asg ?_ | refine w_drop ?_ | refine w_par ?_ | refine w_sfld ?_ | refine w_asgT ?_ | refine w_gset ?_ | refine w_gname ?_ | refine w_gtup rfl ?_ | refine w_gcons ?_ | refine w_gnil ?_ | refine w_yes ?_) | refine w_bl ?_ | refine w_int ?_ | refine w_T ?_ | refine w_F ?_ | refine w_nT ?_ | refine w_nF ?_ | refine q_len_tup ?_ | refine q_int ?_ | refine q_intB ?_ | refine q_add ?_ | refine q_sub ?_ | refine q_neg ?_ | refine q_ord ?_ | refine q_ordS ?_ | refine q_tuple_tup ?_ | refine qEq_int ?_)))
        refine q_eqG_no gf x.hg up_same x.v x.e x.v ok nn ?_
        (with_reducible (repeat (first | (first | refine w_var rfl ?_ | refine w_c ?_ | refine w_op ?_ | refine w_un ?_ | refine w_cl ?_ | refine w_nil ?_ | refine w_cons ?_ | refine w_tup ?_ | refine w_lst ?_ | refine w_test ?_ | refine w_not ?_ | refine w_and ?_ | refine w_or ?_ | refine w_andV ?_ | refine w_orV ?_ | refine w_notV ?_ | refine w_if ?_ | refine w_chn ?_ | refine w_call ?_ | refine w_make ?_ | refine w_fld ?_ | refine w_ml ?_ | refine w_ml0 ?_ | refine w_sl ?_ | refine w_slD ?_ | refine w_noPart ?_ | refine w_part ?_ | refine w_dictZ ?_ | refine w_lcA ?_ | refine w_ret ?_ | refine w_rt ?_ | refine w_ifS ?_ | refine w_next ?_ | refine w_break ?_ | refine w_cont ?_ | refine w_seq ?_ | refine w_asg ?_ | refine w_drop ?_ | refine w_par ?_ | refine w_sfld ?_ | refine w_asgT ?_ | refine w_gset ?_ | refine w_gname ?_ | refine w_gtup rfl ?_ | refine w_gcons ?_ | refine w_gnil ?_ | refine w_yes ?_) | refine w_bl ?_ | refine w_int ?_ | refine w_T ?_ | refine w_F ?_ | refine w_nT ?_ | refine w_nF ?_ | refine q_len_tup ?_ | refine q_int ?_ | refine q_intB ?_ | refine q_add ?_ | refine q_sub ?_ | refine q_neg ?_ | refine q_ord ?_ | refine q_ordS ?_ | refine q_tuple_tup ?_ | refine qEq_int ?_)))
        refine q_eqG_no gf up_same x.hg x.v ok x.v x.e (fun h => nn ⟨rfl, h.2.symm⟩) ?_
        (with_reducible (repeat (first | (first | refine w_var rfl ?_ | refine w_c ?_ | refine w_op ?_ | refine w_un ?_ | refine w_cl ?_ | refine w_nil ?_ | refine w_cons ?_ | refine w_tup ?_ | refine w_lst ?_ | refine w_test ?_ | refine w_not ?_ | refine w_and ?_ | refine w_or ?_ | refine w_andV ?_ | refine w_orV ?_ | refine w_notV ?_ | refine w_if ?_ | refine w_chn ?_ | refine w_call ?_ | refine w_make ?_ | refine w_fld ?_ | refine w_ml ?_ | refine w_ml0 ?_ | refine w_sl ?_ | refine w_slD ?_ | refine w_noPart ?_ | refine w_part ?_ | refine w_dictZ ?_ | refine w_lcA ?_ | refine w_ret ?_ | refine w_rt ?_ | refine w_ifS ?_ | refine w_next ?_ | refine w_break ?_ | refine w_cont ?_ | refine w_seq ?_ | refine w_asg ?_ | refine w_drop ?_ | refine w_par ?_ | refine w_sfld ?_ | refine w_asgT ?_ | refine w_gset ?_ | refine w_gname ?_ | refine w_gtup rfl ?_ | refine w_gcons ?_ | refine w_gnil ?_ | refine w_yes ?_) | refine w_bl ?_ | refine w_int ?_ | refine w_T ?_ | refine w_F ?_ | refine w_nT ?_ | refine w_nF ?_ | refine q_len_tup ?_ | refine q_int ?_ | refine q_intB ?_ | refine q_add ?_ | refine q_sub ?_ | refine q_neg ?_ | refine q_ord ?_ | refine q_ordS ?_ | refine q_tuple_tup ?_ | refine qEq_int ?_)))
        exact nx _ _ _ _ _ _ _ cu
theorem er_10 (gf : GF K c) (cx : Ctx c G0 s p r g ns es) (hf : G0 f = some (.lst (dEs rs))) (fs : f ≠ s) (hrs : ∀ e ∈ rs, e ∈ pairs ns ns ∧ e ∉ es) (ndr : rs.Nodup) (frs : rs.length ≤ 100) (fin : ∀ G, Cur G0 s G → D.rt (.bl true) G) :
    t_L_other_edges_right_10 K c R D [some (.ad s), some (.ad p), some (.ad r), some (.ad g), some (.ad f), t5, t6, t7, t8, t9, t10, t11, t12, t13, t14, t15] G0 := by
  have cu := cx.self
  have evr : Evs (dEs rs) := dEs_ev fun e he => by
    have := mem_pairs.mp (hrs e he).1
    exact ⟨cx.v.name _ this.1, cx.v.name _ this.2.1⟩
  unfold t_L_other_edges_right_10
  refine w_seq (w_forR1 ?_)
  (with_reducible (repeat (first | (first | refine w_var rfl ?_ | refine w_c ?_ | refine w_op ?_ | refine w_un ?_ | refine w_cl ?_ | refine w_nil ?_ | refine w_cons ?_ | refine w_tup ?_ | refine w_lst ?_ | refine w_test ?_ | refine w_not ?_ | refine w_and ?_ | refine w_or ?_ | refine w_andV ?_ | refine w_orV ?_ | refine w_notV ?_ | refine w_if ?_ | refine w_chn ?_ | refine w_call ?_ | refine w_make ?_ | refine w_fld ?_ | refine w_ml ?_ | refine w_ml0 ?_ | refine w_sl ?_ | refine w_slD ?_ | refine w_noPart ?_ | refine w_part ?_ | refine w_dictZ ?_ | refine w_lcA ?_ | refine w_ret ?_ | refine w_rt ?_ | refine w_ifS ?_ | refine w_next ?_ | refine w_break ?_ | refine w_cont ?_ | refine w_seq ?_ | refine w_asg ?_ | refine w_drop ?_ | refine w_par ?_ | refine w_sfld ?_ | refine w_asgT ?_ | refine w_gset ?_ | refine w_gname ?_ | refine w_gtup rfl ?_ | refine w_gcons ?_ | refine w_gnil ?_ | refine w_yes ?_) | refine w_bl ?_ | refine w_int ?_ | refine w_T ?_ | refine w_F ?_ | refine w_nT ?_ | refine w_nF ?_ | refine q_len_tup ?_ | refine q_int ?_ | refine q_intB ?_ | refine q_add ?_ | refine q_sub ?_ | refine q_neg ?_ | refine q_ord ?_ | refine q_ordS ?_ | refine q_tuple_tup ?_ | refine qEq_int ?_)))
  refine ⟨by show 0 ≤ sizeLine; decide, fun l hl => ?_⟩
  have cu := cu.new (o := .lst []) hl
  have x := cx.cur cu
  have loop : ∀ (G : Hq) (n : Nat), Cur G0 s G → n ≤ 4 → (0 < n → es ≠ [] ∧ rs ≠ []) → ForOn (jgName 6)
      (jSeq (jAsg (jCall (sp_L_one K c) (jCons (jVar 0) (jCons (jLst (jCons (jC (.int 1)) (jCons (jC (.int 1)) (jCons (jCl qLen (jCons (jVar 2) jNil)) (jCons (jOp qAdd (jC (.int 1)) (jCall (sp_L_next K c) (jCons (jVar 0) (jCons (jCl qLen (jCons (jVar 2) jNil)) jNil)))) jNil))))) jNil))) (jgName 8)) (t_L_other_edges_right_6 K c)) R
      { D with nx := t_L_other_edges_right_9 K c R D } [some (.ad s), some (.ad p), some (.ad r), some (.ad g), some (.ad f), t5, t6, t7, t8, t9, t10, t11, t12, t13, t14, t15] (rangeD 0 n) (fun _ => True) G := by
    intro G n cu hn hne
    refine ⟨fun i τ G => ∃ t6 t8 t9 t10 t11 t12 t13 t14, τ = [some (.ad s), some (.ad p), some (.ad r), some (.ad g), some (.ad f), t5, t6, t7, t8, t9, t10, t11, t12, t13, t14, t15] ∧ Cur G0 s G, ⟨t6, t8, t9, t10, t11, t12, t13, t14, rfl, cu⟩, fun _ _ _ _ _ => trivial, ?_, ?_⟩
    · rintro i y _ G hy ⟨t6, t8, t9, t10, t11, t12, t13, t14, rfl, cu⟩
      obtain ⟨hi, rfl⟩ := rangeD_get hy
      obtain ⟨ne, nr⟩ := hne (by omega)
      have pos := List.length_pos_iff.mpr ne
      have x := cx.cur cu
      obtain ⟨a, b, d, hs⟩ := x.src
      (with_reducible (repeat (first | (first | refine w_var rfl ?_ | refine w_c ?_ | refine w_op ?_ | refine w_un ?_ | refine w_cl ?_ | refine w_nil ?_ | refine w_cons ?_ | refine w_tup ?_ | refine w_lst ?_ | refine w_test ?_ | refine w_not ?_ | refine w_and ?_ | refine w_or ?_ | refine w_andV ?_ | refine w_orV ?_ | refine w_notV ?_ | refine w_if ?_ | refine w_chn ?_ | refine w_call ?_ | refine w_make ?_ | refine w_fld ?_ | refine w_ml ?_ | refine w_ml0 ?_ | refine w_sl ?_ | refine w_slD ?_ | refine w_noPart ?_ | refine w_part ?_ | refine w_dictZ ?_ | refine w_lcA ?_ | refine w_ret ?_ | refine w_rt ?_ | refine w_ifS ?_ | refine w_next ?_ | refine w_break ?_ | refine w_cont ?_ | refine w_seq ?_ | refine w_asg ?_ | refine w_drop ?_ | refine w_par ?_ | refine w_sfld ?_ | refine w_asgT ?_ | refine w_gset ?_ | refine w_gname ?_ | refine w_gtup rfl ?_ | refine w_gcons ?_ | refine w_gnil ?_ | refine w_yes ?_) | refine w_bl ?_ | refine w_int ?_ | refine w_T ?_ | refine w_F ?_ | refine w_nT ?_ | refine w_nF ?_ | refine q_len_tup ?_ | refine q_int ?_ | refine q_intB ?_ | refine q_add ?_ | refine q_sub ?_ | refine q_neg ?_ | refine q_ord ?_ | refine q_ordS ?_ | refine q_tuple_tup ?_ | refine qEq_int ?_)))
      refine q_len_ad x.hr ?_
      (with_reducible (repeat (first | (first | refine w_var rfl ?_ | refine w_c ?_ | refine w_op ?_ | refine w_un ?_ | refine w_cl ?_ | refine w_nil ?_ | refine w_cons ?_ | refine w_tup ?_ | refine w_lst ?_ | refine w_test ?_ | refine w_not ?_ | refine w_and ?_ | refine w_or ?_ | refine w_andV ?_ | refine w_orV ?_ | refine w_notV ?_ | refine w_if ?_ | refine w_chn ?_ | refine w_call ?_ | refine w_make ?_ | refine w_fld ?_ | refine w_ml ?_ | refine w_ml0 ?_ | refine w_sl ?_ | refine w_slD ?_ | refine w_noPart ?_ | refine w_part ?_ | refine w_dictZ ?_ | refine w_lcA ?_ | refine w_ret ?_ | refine w_rt ?_ | refine w_ifS ?_ | refine w_next ?_ | refine w_break ?_ | refine w_cont ?_ | refine w_seq ?_ | refine w_asg ?_ | refine w_drop ?_ | refine w_par ?_ | refine w_sfld ?_ | refine w_asgT ?_ | refine w_gset ?_ | refine w_gname ?_ | refine w_gtup rfl ?_ | refine w_gcons ?_ | refine w_gnil ?_ | refine w_yes ?_) | refine w_bl ?_ | refine w_int ?_ | refine w_T ?_ | refine w_F ?_ | refine w_nT ?_ | refine w_nF ?_ | refine q_len_tup ?_ | refine q_int ?_ | refine q_intB ?_ | refine q_add ?_ | refine q_sub ?_ | refine q_neg ?_ | refine q_ord ?_ | refine q_ordS ?_ | refine q_tuple_tup ?_ | refine qEq_int ?_)))
      refine q_len_ad x.hr ?_
      (with_reducible (repeat (first | (first | refine w_var rfl ?_ | refine w_c ?_ | refine w_op ?_ | refine w_un ?_ | refine w_cl ?_ | refine w_nil ?_ | refine w_cons ?_ | refine w_tup ?_ | refine w_lst ?_ | refine w_test ?_ | refine w_not ?_ | refine w_and ?_ | refine w_or ?_ | refine w_andV ?_ | refine w_orV ?_ | refine w_notV ?_ | refine w_if ?_ | refine w_chn ?_ | refine w_call ?_ | refine w_make ?_ | refine w_fld ?_ | refine w_ml ?_ | refine w_ml0 ?_ | refine w_sl ?_ | refine w_slD ?_ | refine w_noPart ?_ | refine w_part ?_ | refine w_dictZ ?_ | refine w_lcA ?_ | refine w_ret ?_ | refine w_rt ?_ | refine w_ifS ?_ | refine w_next ?_ | refine w_break ?_ | refine w_cont ?_ | refine w_seq ?_ | refine w_asg ?_ | refine w_drop ?_ | refine w_par ?_ | refine w_sfld ?_ | refine w_asgT ?_ | refine w_gset ?_ | refine w_gname ?_ | refine w_gtup rfl ?_ | refine w_gcons ?_ | refine w_gnil ?_ | refine w_yes ?_) | refine w_bl ?_ | refine w_int ?_ | refine w_T ?_ | refine w_F ?_ | refine w_nT ?_ | refine w_nF ?_ | refine q_len_tup ?_ | refine q_int ?_ | refine q_intB ?_ | refine q_add ?_ | refine q_sub ?_ | refine q_neg ?_ | refine q_ord ?_ | refine q_ordS ?_ | refine q_tuple_tup ?_ | refine qEq_int ?_)))
      refine ⟨_, ⟨s, a, b, d, (dEs es).length, rfl, hs, by rw [dEs_len]; exact pos, by rw [dEs_len]; have := x.e.few; omega, rfl⟩, ?_⟩
      rintro _ _ ⟨k, a, b, d, rfl, hk, rfl⟩
      rw [dEs_len] at hk ⊢
      have cu := cu.set a b d
      have hs : up G s (so a b d) s = some (so a b d) := up_same
      generalize up G s (so a b d) = G1 at cu hs
      (with_reducible (repeat (first | (first | refine w_var rfl ?_ | refine w_c ?_ | refine w_op ?_ | refine w_un ?_ | refine w_cl ?_ | refine w_nil ?_ | refine w_cons ?_ | refine w_tup ?_ | refine w_lst ?_ | refine w_test ?_ | refine w_not ?_ | refine w_and ?_ | refine w_or ?_ | refine w_andV ?_ | refine w_orV ?_ | refine w_notV ?_ | refine w_if ?_ | refine w_chn ?_ | refine w_call ?_ | refine w_make ?_ | refine w_fld ?_ | refine w_ml ?_ | refine w_ml0 ?_ | refine w_sl ?_ | refine w_slD ?_ | refine w_noPart ?_ | refine w_part ?_ | refine w_dictZ ?_ | refine w_lcA ?_ | refine w_ret ?_ | refine w_rt ?_ | refine w_ifS ?_ | refine w_next ?_ | refine w_break ?_ | refine w_cont ?_ | refine w_seq ?_ | refine w_asg ?_ | refine w_drop ?_ | refine w_par ?_ | refine w_sfld ?_ | refine w_asgT ?_ | refine w_gset ?_ | refine w_gname ?_ | refine w_gtup rfl ?_ | refine w_gcons ?_ | refine w_gnil ?_ | refine w_yes ?_) | refine w_bl ?_ | refine w_int ?_ | refine w_T ?_ | refine w_F ?_ | refine w_nT ?_ | refine w_nF ?_ | refine q_len_tup ?_ | refine q_int ?_ | refine q_intB ?_ | refine q_add ?_ | refine q_sub ?_ | refine q_neg ?_ | refine q_ord ?_ | refine q_ordS ?_ | refine q_tuple_tup ?_ | refine qEq_int ?_)))
      refine ⟨by show 4 ≤ sizeLine; decide, fun q4 hq4 => ?_⟩
      have cu := cu.new (o := .lst [.int 1, .int 1, .int es.length, .int (1 + k)]) hq4
      have hs := HSub.new (o := .lst [.int 1, .int 1, .int es.length, .int (1 + k)]) hq4 _ _ hs
      have qs : q4 ≠ s := fun e => by subst e; rw [up_same] at hs; injection hs with h; injection h with h; cases h
      (with_reducible (repeat (first | (first | refine w_var rfl ?_ | refine w_c ?_ | refine w_op ?_ | refine w_un ?_ | refine w_cl ?_ | refine w_nil ?_ | refine w_cons ?_ | refine w_tup ?_ | refine w_lst ?_ | refine w_test ?_ | refine w_not ?_ | refine w_and ?_ | refine w_or ?_ | refine w_andV ?_ | refine w_orV ?_ | refine w_notV ?_ | refine w_if ?_ | refine w_chn ?_ | refine w_call ?_ | refine w_make ?_ | refine w_fld ?_ | refine w_ml ?_ | refine w_ml0 ?_ | refine w_sl ?_ | refine w_slD ?_ | refine w_noPart ?_ | refine w_part ?_ | refine w_dictZ ?_ | refine w_lcA ?_ | refine w_ret ?_ | refine w_rt ?_ | refine w_ifS ?_ | refine w_next ?_ | refine w_break ?_ | refine w_cont ?_ | refine w_seq ?_ | refine w_asg ?_ | refine w_drop ?_ | refine w_par ?_ | refine w_sfld ?_ | refine w_asgT ?_ | refine w_gset ?_ | refine w_gname ?_ | refine w_gtup rfl ?_ | refine w_gcons ?_ | refine w_gnil ?_ | refine w_yes ?_) | refine w_bl ?_ | refine w_int ?_ | refine w_T ?_ | refine w_F ?_ | refine w_nT ?_ | refine w_nF ?_ | refine q_len_tup ?_ | refine q_int ?_ | refine q_intB ?_ | refine q_add ?_ | refine q_sub ?_ | refine q_neg ?_ | refine q_ord ?_ | refine q_ordS ?_ | refine q_tuple_tup ?_ | refine qEq_int ?_)))
      refine ⟨_, ⟨s, a, b, d, .ad q4, _, rfl, hs, by show 0 < 4; decide, by show 4 < 2 ^ 60; decide, .inl ⟨.ad up_same, fun e => qs (by cases e; rfl)⟩, rfl⟩, ?_⟩
      rintro v _ ⟨a, b, d, hv, rfl⟩
      have cu := cu.set a b d
      have hj : ∃ j : Nat, v = .int j ∧ 1 ≤ j := by
        rcases List.mem_cons.mp hv with rfl | hv
        · exact ⟨1, rfl, Nat.le_refl _⟩
        rcases List.mem_cons.mp hv with rfl | hv
        · exact ⟨1, rfl, Nat.le_refl _⟩
        rcases List.mem_cons.mp hv with rfl | hv
        · exact ⟨es.length, rfl, pos⟩
        rcases List.mem_cons.mp hv with rfl | hv
        · exact ⟨1 + k, by simp, by omega⟩
        · cases hv
      obtain ⟨j, rfl, j1⟩ := hj
      show t_L_other_edges_right_6 K c _ _ _ _
      refine er_6 gf cx hf fs hrs ndr frs cu j1 ne fun G t9 t10 t11 t12 t13 t14 h => ?_
      exact ⟨_, _, TSub.refl _, HSub.refl _, _, _, _, _, _, _, _, _, rfl, h⟩
    · rintro _ G ⟨t6, t8, t9, t10, t11, t12, t13, t14, rfl, cu⟩
      exact er_9 gf cx hf fs hrs frs fin cu
  refine qEq_lst (ys := []) x.hr up_same (x.e.ev x.v) .nil fun b hb => ?_
  (with_reducible (repeat (first | (first | refine w_var rfl ?_ | refine w_c ?_ | refine w_op ?_ | refine w_un ?_ | refine w_cl ?_ | refine w_nil ?_ | refine w_cons ?_ | refine w_tup ?_ | refine w_lst ?_ | refine w_test ?_ | refine w_not ?_ | refine w_and ?_ | refine w_or ?_ | refine w_andV ?_ | refine w_orV ?_ | refine w_notV ?_ | refine w_if ?_ | refine w_chn ?_ | refine w_call ?_ | refine w_make ?_ | refine w_fld ?_ | refine w_ml ?_ | refine w_ml0 ?_ | refine w_sl ?_ | refine w_slD ?_ | refine w_noPart ?_ | refine w_part ?_ | refine w_dictZ ?_ | refine w_lcA ?_ | refine w_ret ?_ | refine w_rt ?_ | refine w_ifS ?_ | refine w_next ?_ | refine w_break ?_ | refine w_cont ?_ | refine w_seq ?_ | refine w_asg ?_ | refine w_drop ?_ | refine w_par ?_ | refine w_sfld ?_ | refine w_asgT ?_ | refine w_gset ?_ | refine w_gname ?_ | refine w_gtup rfl ?_ | refine w_gcons ?_ | refine w_gnil ?_ | refine w_yes ?_) | refine w_bl ?_ | refine w_int ?_ | refine w_T ?_ | refine w_F ?_ | refine w_nT ?_ | refine w_nF ?_ | refine q_len_tup ?_ | refine q_int ?_ | refine q_intB ?_ | refine q_add ?_ | refine q_sub ?_ | refine q_neg ?_ | refine q_ord ?_ | refine q_ordS ?_ | refine q_tuple_tup ?_ | refine qEq_int ?_)))
  refine iteB (fun z => ?_) (fun z => ?_)
  · have ne : es ≠ [] := fun e => by
      have : b = true := hb.mpr (by rw [e]; rfl)
      rw [this] at z; cases z
    (with_reducible (repeat (first | (first | refine w_var rfl ?_ | refine w_c ?_ | refine w_op ?_ | refine w_un ?_ | refine w_cl ?_ | refine w_nil ?_ | refine w_cons ?_ | refine w_tup ?_ | refine w_lst ?_ | refine w_test ?_ | refine w_not ?_ | refine w_and ?_ | refine w_or ?_ | refine w_andV ?_ | refine w_orV ?_ | refine w_notV ?_ | refine w_if ?_ | refine w_chn ?_ | refine w_call ?_ | refine w_make ?_ | refine w_fld ?_ | refine w_ml ?_ | refine w_ml0 ?_ | refine w_sl ?_ | refine w_slD ?_ | refine w_noPart ?_ | refine w_part ?_ | refine w_dictZ ?_ | refine w_lcA ?_ | refine w_ret ?_ | refine w_rt ?_ | refine w_ifS ?_ | refine w_next ?_ | refine w_break ?_ | refine w_cont ?_ | refine w_seq ?_ | refine w_asg ?_ | refine w_drop ?_ | refine w_par ?_ | refine w_sfld ?_ | refine w_asgT ?_ | refine w_gset ?_ | refine w_gname ?_ | refine w_gtup rfl ?_ | refine w_gcons ?_ | refine w_gnil ?_ | refine w_yes ?_) | refine w_bl ?_ | refine w_int ?_ | refine w_T ?_ | refine w_F ?_ | refine w_nT ?_ | refine w_nF ?_ | refine q_len_tup ?_ | refine q_int ?_ | refine q_intB ?_ | refine q_add ?_ | refine q_sub ?_ | refine q_neg ?_ | refine q_ord ?_ | refine q_ordS ?_ | refine q_tuple_tup ?_ | refine qEq_int ?_)))
    refine ⟨by show 0 ≤ sizeLine; decide, fun l2 hl2 => ?_⟩
    have cu := cu.new (o := .lst []) hl2
    refine qEq_lst (ys := []) (cu.get hf fs) up_same evr .nil fun b2 hb2 => ?_
    (with_reducible (repeat (first | (first | refine w_var rfl ?_ | refine w_c ?_ | refine w_op ?_ | refine w_un ?_ | refine w_cl ?_ | refine w_nil ?_ | refine w_cons ?_ | refine w_tup ?_ | refine w_lst ?_ | refine w_test ?_ | refine w_not ?_ | refine w_and ?_ | refine w_or ?_ | refine w_andV ?_ | refine w_orV ?_ | refine w_notV ?_ | refine w_if ?_ | refine w_chn ?_ | refine w_call ?_ | refine w_make ?_ | refine w_fld ?_ | refine w_ml ?_ | refine w_ml0 ?_ | refine w_sl ?_ | refine w_slD ?_ | refine w_noPart ?_ | refine w_part ?_ | refine w_dictZ ?_ | refine w_lcA ?_ | refine w_ret ?_ | refine w_rt ?_ | refine w_ifS ?_ | refine w_next ?_ | refine w_break ?_ | refine w_cont ?_ | refine w_seq ?_ | refine w_asg ?_ | refine w_drop ?_ | refine w_par ?_ | refine w_sfld ?_ | refine w_asgT ?_ | refine w_gset ?_ | refine w_gname ?_ | refine w_gtup rfl ?_ | refine w_gcons ?_ | refine w_gnil ?_ | refine w_yes ?_) | refine w_bl ?_ | refine w_int ?_ | refine w_T ?_ | refine w_F ?_ | refine w_nT ?_ | refine w_nF ?_ | refine q_len_tup ?_ | refine q_int ?_ | refine q_intB ?_ | refine q_add ?_ | refine q_sub ?_ | refine q_neg ?_ | refine q_ord ?_ | refine q_ordS ?_ | refine q_tuple_tup ?_ | refine qEq_int ?_)))
    cases b2 with
    | true =>
      refine q_I (cm (by decide)) ?_
      (with_reducible (repeat (first | (first | refine w_var rfl ?_ | refine w_c ?_ | refine w_op ?_ | refine w_un ?_ | refine w_cl ?_ | refine w_nil ?_ | refine w_cons ?_ | refine w_tup ?_ | refine w_lst ?_ | refine w_test ?_ | refine w_not ?_ | refine w_and ?_ | refine w_or ?_ | refine w_andV ?_ | refine w_orV ?_ | refine w_notV ?_ | refine w_if ?_ | refine w_chn ?_ | refine w_call ?_ | refine w_make ?_ | refine w_fld ?_ | refine w_ml ?_ | refine w_ml0 ?_ | refine w_sl ?_ | refine w_slD ?_ | refine w_noPart ?_ | refine w_part ?_ | refine w_dictZ ?_ | refine w_lcA ?_ | refine w_ret ?_ | refine w_rt ?_ | refine w_ifS ?_ | refine w_next ?_ | refine w_break ?_ | refine w_cont ?_ | refine w_seq ?_ | refine w_asg ?_ | refine w_drop ?_ | refine w_par ?_ | refine w_sfld ?_ | refine w_asgT ?_ | refine w_gset ?_ | refine w_gname ?_ | refine w_gtup rfl ?_ | refine w_gcons ?_ | refine w_gnil ?_ | refine w_yes ?_) | refine w_bl ?_ | refine w_int ?_ | refine w_T ?_ | refine w_F ?_ | refine w_nT ?_ | refine w_nF ?_ | refine q_len_tup ?_ | refine q_int ?_ | refine q_intB ?_ | refine q_add ?_ | refine q_sub ?_ | refine q_neg ?_ | refine q_ord ?_ | refine q_ordS ?_ | refine q_tuple_tup ?_ | refine qEq_int ?_)))
      exact ⟨0, rfl, by decide, by decide, loop _ 0 cu (by decide) (fun h => absurd h (by decide))⟩
    | false =>
      refine q_I (cm (by decide)) ?_
      (with_reducible (repeat (first | (first | refine w_var rfl ?_ | refine w_c ?_ | refine w_op ?_ | refine w_un ?_ | refine w_cl ?_ | refine w_nil ?_ | refine w_cons ?_ | refine w_tup ?_ | refine w_lst ?_ | refine w_test ?_ | refine w_not ?_ | refine w_and ?_ | refine w_or ?_ | refine w_andV ?_ | refine w_orV ?_ | refine w_notV ?_ | refine w_if ?_ | refine w_chn ?_ | refine w_call ?_ | refine w_make ?_ | refine w_fld ?_ | refine w_ml ?_ | refine w_ml0 ?_ | refine w_sl ?_ | refine w_slD ?_ | refine w_noPart ?_ | refine w_part ?_ | refine w_dictZ ?_ | refine w_lcA ?_ | refine w_ret ?_ | refine w_rt ?_ | refine w_ifS ?_ | refine w_next ?_ | refine w_break ?_ | refine w_cont ?_ | refine w_seq ?_ | refine w_asg ?_ | refine w_drop ?_ | refine w_par ?_ | refine w_sfld ?_ | refine w_asgT ?_ | refine w_gset ?_ | refine w_gname ?_ | refine w_gtup rfl ?_ | refine w_gcons ?_ | refine w_gnil ?_ | refine w_yes ?_) | refine w_bl ?_ | refine w_int ?_ | refine w_T ?_ | refine w_F ?_ | refine w_nT ?_ | refine w_nF ?_ | refine q_len_tup ?_ | refine q_int ?_ | refine q_intB ?_ | refine q_add ?_ | refine q_sub ?_ | refine q_neg ?_ | refine q_ord ?_ | refine q_ordS ?_ | refine q_tuple_tup ?_ | refine qEq_int ?_)))
      refine ⟨4, rfl, by decide, by decide, loop _ 4 cu (by decide) (fun _ => ⟨ne, fun e => ?_⟩)⟩
      have := hb2.mpr (by rw [e]; rfl)
      cases this
  · (with_reducible (repeat (first | (first | refine w_var rfl ?_ | refine w_c ?_ | refine w_op ?_ | refine w_un ?_ | refine w_cl ?_ | refine w_nil ?_ | refine w_cons ?_ | refine w_tup ?_ | refine w_lst ?_ | refine w_test ?_ | refine w_not ?_ | refine w_and ?_ | refine w_or ?_ | refine w_andV ?_ | refine w_orV ?_ | refine w_notV ?_ | refine w_if ?_ | refine w_chn ?_ | refine w_call ?_ | refine w_make ?_ | refine w_fld ?_ | refine w_ml ?_ | refine w_ml0 ?_ | refine w_sl ?_ | refine w_slD ?_ | refine w_noPart ?_ | refine w_part ?_ | refine w_dictZ ?_ | refine w_lcA ?_ | refine w_ret ?_ | refine w_rt ?_ | refine w_ifS ?_ | refine w_next ?_ | refine w_break ?_ | refine w_cont ?_ | refine w_seq ?_ | refine w_asg ?_ | refine w_drop ?_ | refine w_par ?_ | refine w_sfld ?_ | refine w_asgT ?_ | refine w_gset ?_ | refine w_gname ?_ | refine w_gtup rfl ?_ | refine w_gcons ?_ | refine w_gnil ?_ | refine w_yes ?_) | refine w_bl ?_ | refine w_int ?_ | refine w_T ?_ | refine w_F ?_ | refine w_nT ?_ | refine w_nF ?_ | refine q_len_tup ?_ | refine q_int ?_ | refine q_intB ?_ | refine q_add ?_ | refine q_sub ?_ | refine q_neg ?_ | refine q_ord ?_ | refine q_ordS ?_ | refine q_tuple_tup ?_ | refine qEq_int ?_)))
    refine q_I (cm (by decide)) ?_
    (with_reducible (repeat (first | (first | refine w_var rfl ?_ | refine w_c ?_ | refine w_op ?_ | refine w_un ?_ | refine w_cl ?_ | refine w_nil ?_ | refine w_cons ?_ | refine w_tup ?_ | refine w_lst ?_ | refine w_test ?_ | refine w_not ?_ | refine w_and ?_ | refine w_or ?_ | refine w_andV ?_ | refine w_orV ?_ | refine w_notV ?_ | refine w_if ?_ | refine w_chn ?_ | refine w_call ?_ | refine w_make ?_ | refine w_fld ?_ | refine w_ml ?_ | refine w_ml0 ?_ | refine w_sl ?_ | refine w_slD ?_ | refine w_noPart ?_ | refine w_part ?_ | refine w_dictZ ?_ | refine w_lcA ?_ | refine w_ret ?_ | refine w_rt ?_ | refine w_ifS ?_ | refine w_next ?_ | refine w_break ?_ | refine w_cont ?_ | refine w_seq ?_ | refine w_asg ?_ | refine w_drop ?_ | refine w_par ?_ | refine w_sfld ?_ | refine w_asgT ?_ | refine w_gset ?_ | refine w_gname ?_ | refine w_gtup rfl ?_ | refine w_gcons ?_ | refine w_gnil ?_ | refine w_yes ?_) | refine w_bl ?_ | refine w_int ?_ | refine w_T ?_ | refine w_F ?_ | refine w_nT ?_ | refine w_nF ?_ | refine q_len_tup ?_ | refine q_int ?_ | refine q_intB ?_ | refine q_add ?_ | refine q_sub ?_ | refine q_neg ?_ | refine q_ord ?_ | refine q_ordS ?_ | refine q_tuple_tup ?_ | refine qEq_int ?_)))
    exact ⟨0, rfl, by decide, by decide, loop _ 0 cu (by decide) (fun h => absurd h (by decide))⟩
end
theorem rest_app (ns l : List Str) (es) (a : Str) : (pairs ns (l ++ [a])).filter (notIn es) = (pairs ns l).filter (notIn es) ++ (ends ns a).filter (notIn es) := by rw [pairs_snoc, List.filter_append]
theorem pure_L_other_edges_right {K : PySem.W.Frag} {c : Ad} (gf : GF K c) : ∀ ws G Q E, Up Q → UpX E → sp_L_other_edges_right K c ws G Q E → t_L_other_edges_right K c (fun c f _ G => E c f G) { nx := fun _ G => Q .non G, rt := Q } (startT N_L_other_edges_right ws) G := by
  rintro _ G0 Q E hU _ ⟨_, ⟨s, p, r, g, ns, es, rfl, x, rfl⟩, q⟩
  have fin : ∀ G, Cur G0 s G → Q (.bl true) G := fun G h => h.ends hU fun a b d => q _ _ ⟨rfl, a, b, d, rfl⟩
  obtain ⟨a0, b0, d0, hs0⟩ := x.src
  unfold t_L_other_edges_right
  (with_reducible (repeat (first | (first | refine w_var rfl ?_ | refine w_c ?_ | refine w_op ?_ | refine w_un ?_ | refine w_cl ?_ | refine w_nil ?_ | refine w_cons ?_ | refine w_tup ?_ | refine w_lst ?_ | refine w_test ?_ | refine w_not ?_ | refine w_and ?_ | refine w_or ?_ | refine w_andV ?_ | refine w_orV ?_ | refine w_notV ?_ | refine w_if ?_ | refine w_chn ?_ | refine w_call ?_ | refine w_make ?_ | refine w_fld ?_ | refine w_ml ?_ | refine w_ml0 ?_ | refine w_sl ?_ | refine w_slD ?_ | refine w_noPart ?_ | refine w_part ?_ | refine w_dictZ ?_ | refine w_lcA ?_ | refine w_ret ?_ | refine w_rt ?_ | refine w_ifS ?_ | refine w_next ?_ | refine w_break ?_ | refine w_cont ?_ | refine w_seq ?_ | refine w_asg ?_ | refine w_drop ?_ | refine w_par ?_ | refine w_sfld ?_ | refine w_asgT ?_ | refine w_gset ?_ | refine w_gname ?_ | refine w_gtup rfl ?_ | refine w_gcons ?_ | refine w_gnil ?_ | refine w_yes ?_) | refine w_bl ?_ | refine w_int ?_ | refine w_T ?_ | refine w_F ?_ | refine w_nT ?_ | refine w_nF ?_ | refine q_len_tup ?_ | refine q_int ?_ | refine q_intB ?_ | refine q_add ?_ | refine q_sub ?_ | refine q_neg ?_ | refine q_ord ?_ | refine q_ordS ?_ | refine q_tuple_tup ?_ | refine qEq_int ?_)))
  refine ⟨by show 0 ≤ sizeLine; decide, fun f hf => ?_⟩
  have fs : f ≠ s := fun e => by subst e; rw [hf] at hs0; cases hs0
  unfold t_L_other_edges_right_11
  (with_reducible (repeat (first | (first | refine w_var rfl ?_ | refine w_c ?_ | refine w_op ?_ | refine w_un ?_ | refine w_cl ?_ | refine w_nil ?_ | refine w_cons ?_ | refine w_tup ?_ | refine w_lst ?_ | refine w_test ?_ | refine w_not ?_ | refine w_and ?_ | refine w_or ?_ | refine w_andV ?_ | refine w_orV ?_ | refine w_notV ?_ | refine w_if ?_ | refine w_chn ?_ | refine w_call ?_ | refine w_make ?_ | refine w_fld ?_ | refine w_ml ?_ | refine w_ml0 ?_ | refine w_sl ?_ | refine w_slD ?_ | refine w_noPart ?_ | refine w_part ?_ | refine w_dictZ ?_ | refine w_lcA ?_ | refine w_ret ?_ | refine w_rt ?_ | refine w_ifS ?_ | refine w_next ?_ | refine w_break ?_ | refine w_cont ?_ | refine w_seq ?_ | refine w_asg ?_ | refine w_drop ?_ | refine w_par ?_ | refine w_sfld ?_ | refine w_asgT ?_ | refine w_gset ?_ | refine w_gname ?_ | refine w_gtup rfl ?_ | refine w_gcons ?_ | refine w_gnil ?_ | refine w_yes ?_) | refine w_bl ?_ | refine w_int ?_ | refine w_T ?_ | refine w_F ?_ | refine w_nT ?_ | refine w_nF ?_ | refine q_len_tup ?_ | refine q_int ?_ | refine q_intB ?_ | refine q_add ?_ | refine q_sub ?_ | refine q_neg ?_ | refine q_ord ?_ | refine q_ordS ?_ | refine q_tuple_tup ?_ | refine qEq_int ?_)))
  refine w_forA ?_
  (with_reducible (repeat (first | (first | refine w_var rfl ?_ | refine w_c ?_ | refine w_op ?_ | refine w_un ?_ | refine w_cl ?_ | refine w_nil ?_ | refine w_cons ?_ | refine w_tup ?_ | refine w_lst ?_ | refine w_test ?_ | refine w_not ?_ | refine w_and ?_ | refine w_or ?_ | refine w_andV ?_ | refine w_orV ?_ | refine w_notV ?_ | refine w_if ?_ | refine w_chn ?_ | refine w_call ?_ | refine w_make ?_ | refine w_fld ?_ | refine w_ml ?_ | refine w_ml0 ?_ | refine w_sl ?_ | refine w_slD ?_ | refine w_noPart ?_ | refine w_part ?_ | refine w_dictZ ?_ | refine w_lcA ?_ | refine w_ret ?_ | refine w_rt ?_ | refine w_ifS ?_ | refine w_next ?_ | refine w_break ?_ | refine w_cont ?_ | refine w_seq ?_ | refine w_asg ?_ | refine w_drop ?_ | refine w_par ?_ | refine w_sfld ?_ | refine w_asgT ?_ | refine w_gset ?_ | refine w_gname ?_ | refine w_gtup rfl ?_ | refine w_gcons ?_ | refine w_gnil ?_ | refine w_yes ?_) | refine w_bl ?_ | refine w_int ?_ | refine w_T ?_ | refine w_F ?_ | refine w_nT ?_ | refine w_nF ?_ | refine q_len_tup ?_ | refine q_int ?_ | refine q_intB ?_ | refine q_add ?_ | refine q_sub ?_ | refine q_neg ?_ | refine q_ord ?_ | refine q_ordS ?_ | refine q_tuple_tup ?_ | refine qEq_int ?_)))
  refine ⟨dS ns, HSub.new hf _ _ x.hp, ?_⟩
  refine ⟨fun i τ G => ∃ t5, τ = [some (.ad s), some (.ad p), some (.ad r), some (.ad g), some (.ad f), t5, none, none, none, none, none, none, none, none, none, none] ∧ G = up G0 f (.lst (dEs ((pairs ns (ns.take i)).filter (notIn es)))), ⟨none, rfl, rfl⟩, ?_, ?_, ?_⟩
  · rintro i _ _ _ ⟨t5, rfl, rfl⟩
    exact HSub.new hf _ _ x.hp
  · rintro i y _ _ hy ⟨t5, rfl, rfl⟩
    obtain ⟨z, hz, rfl⟩ : ∃ z, ns[i]? = some z ∧ y = .str z := by
      unfold dS at hy
      rw [List.getElem?_map] at hy
      cases e : ns[i]? with
      | none => rw [e] at hy; cases hy
      | some z => rw [e] at hy; cases hy; exact ⟨z, rfl, rfl⟩
    have zn := x.v.name z (List.mem_of_getElem? hz)
    have tk : ns.take (i + 1) = ns.take i ++ [z] := by rw [List.take_add_one, hz]; rfl
    (with_reducible (repeat (first | (first | refine w_var rfl ?_ | refine w_c ?_ | refine w_op ?_ | refine w_un ?_ | refine w_cl ?_ | refine w_nil ?_ | refine w_cons ?_ | refine w_tup ?_ | refine w_lst ?_ | refine w_test ?_ | refine w_not ?_ | refine w_and ?_ | refine w_or ?_ | refine w_andV ?_ | refine w_orV ?_ | refine w_notV ?_ | refine w_if ?_ | refine w_chn ?_ | refine w_call ?_ | refine w_make ?_ | refine w_fld ?_ | refine w_ml ?_ | refine w_ml0 ?_ | refine w_sl ?_ | refine w_slD ?_ | refine w_noPart ?_ | refine w_part ?_ | refine w_dictZ ?_ | refine w_lcA ?_ | refine w_ret ?_ | refine w_rt ?_ | refine w_ifS ?_ | refine w_next ?_ | refine w_break ?_ | refine w_cont ?_ | refine w_seq ?_ | refine w_asg ?_ | refine w_drop ?_ | refine w_par ?_ | refine w_sfld ?_ | refine w_asgT ?_ | refine w_gset ?_ | refine w_gname ?_ | refine w_gtup rfl ?_ | refine w_gcons ?_ | refine w_gnil ?_ | refine w_yes ?_) | refine w_bl ?_ | refine w_int ?_ | refine w_T ?_ | refine w_F ?_ | refine w_nT ?_ | refine w_nF ?_ | refine q_len_tup ?_ | refine q_int ?_ | refine q_intB ?_ | refine q_add ?_ | refine q_sub ?_ | refine q_neg ?_ | refine q_ord ?_ | refine q_ordS ?_ | refine q_tuple_tup ?_ | refine qEq_int ?_)))
    refine ⟨⟨f, dEs ((pairs ns (ns.take i)).filter (notIn es)), rfl, up_same⟩, ?_⟩
    (with_reducible (repeat (first | (first | refine w_var rfl ?_ | refine w_c ?_ | refine w_op ?_ | refine w_un ?_ | refine w_cl ?_ | refine w_nil ?_ | refine w_cons ?_ | refine w_tup ?_ | refine w_lst ?_ | refine w_test ?_ | refine w_not ?_ | refine w_and ?_ | refine w_or ?_ | refine w_andV ?_ | refine w_orV ?_ | refine w_notV ?_ | refine w_if ?_ | refine w_chn ?_ | refine w_call ?_ | refine w_make ?_ | refine w_fld ?_ | refine w_ml ?_ | refine w_ml0 ?_ | refine w_sl ?_ | refine w_slD ?_ | refine w_noPart ?_ | refine w_part ?_ | refine w_dictZ ?_ | refine w_lcA ?_ | refine w_ret ?_ | refine w_rt ?_ | refine w_ifS ?_ | refine w_next ?_ | refine w_break ?_ | refine w_cont ?_ | refine w_seq ?_ | refine w_asg ?_ | refine w_drop ?_ | refine w_par ?_ | refine w_sfld ?_ | refine w_asgT ?_ | refine w_gset ?_ | refine w_gname ?_ | refine w_gtup rfl ?_ | refine w_gcons ?_ | refine w_gnil ?_ | refine w_yes ?_) | refine w_bl ?_ | refine w_int ?_ | refine w_T ?_ | refine w_F ?_ | refine w_nT ?_ | refine w_nF ?_ | refine q_len_tup ?_ | refine q_int ?_ | refine q_intB ?_ | refine q_add ?_ | refine q_sub ?_ | refine q_neg ?_ | refine q_ord ?_ | refine q_ordS ?_ | refine q_tuple_tup ?_ | refine qEq_int ?_)))
    refine lc_at (xs := dS ns) (.ad (HSub.new hf _ _ x.hp)) (by rw [dS_len]; exact size_ge (by have := x.v.few; omega)) (onS fun w => ltS z w && notIn es (z, w)) (mapS fun w => .tup [.str z, .str w]) (fun y hy => ?_) (fun t ht => ?_)
    · obtain ⟨w, hw, rfl⟩ := List.mem_map.mp hy
      intro G2 s2 N A hN hA
      have hR := s2 _ _ (HSub.new hf _ _ x.hr)
      (with_reducible (repeat (first | (first | refine w_var rfl ?_ | refine w_c ?_ | refine w_op ?_ | refine w_un ?_ | refine w_cl ?_ | refine w_nil ?_ | refine w_cons ?_ | refine w_tup ?_ | refine w_lst ?_ | refine w_test ?_ | refine w_not ?_ | refine w_and ?_ | refine w_or ?_ | refine w_andV ?_ | refine w_orV ?_ | refine w_notV ?_ | refine w_if ?_ | refine w_chn ?_ | refine w_call ?_ | refine w_make ?_ | refine w_fld ?_ | refine w_ml ?_ | refine w_ml0 ?_ | refine w_sl ?_ | refine w_slD ?_ | refine w_noPart ?_ | refine w_part ?_ | refine w_dictZ ?_ | refine w_lcA ?_ | refine w_ret ?_ | refine w_rt ?_ | refine w_ifS ?_ | refine w_next ?_ | refine w_break ?_ | refine w_cont ?_ | refine w_seq ?_ | refine w_asg ?_ | refine w_drop ?_ | refine w_par ?_ | refine w_sfld ?_ | refine w_asgT ?_ | refine w_gset ?_ | refine w_gname ?_ | refine w_gtup rfl ?_ | refine w_gcons ?_ | refine w_gnil ?_ | refine w_yes ?_) | refine w_bl ?_ | refine w_int ?_ | refine w_T ?_ | refine w_F ?_ | refine w_nT ?_ | refine w_nF ?_ | refine q_len_tup ?_ | refine q_int ?_ | refine q_intB ?_ | refine q_add ?_ | refine q_sub ?_ | refine q_neg ?_ | refine q_ord ?_ | refine q_ordS ?_ | refine q_tuple_tup ?_ | refine qEq_int ?_)))
      refine iteB (fun h1 => ?_) (fun h1 => ?_)
      · (with_reducible (repeat (first | (first | refine w_var rfl ?_ | refine w_c ?_ | refine w_op ?_ | refine w_un ?_ | refine w_cl ?_ | refine w_nil ?_ | refine w_cons ?_ | refine w_tup ?_ | refine w_lst ?_ | refine w_test ?_ | refine w_not ?_ | refine w_and ?_ | refine w_or ?_ | refine w_andV ?_ | refine w_orV ?_ | refine w_notV ?_ | refine w_if ?_ | refine w_chn ?_ | refine w_call ?_ | refine w_make ?_ | refine w_fld ?_ | refine w_ml ?_ | refine w_ml0 ?_ | refine w_sl ?_ | refine w_slD ?_ | refine w_noPart ?_ | refine w_part ?_ | refine w_dictZ ?_ | refine w_lcA ?_ | refine w_ret ?_ | refine w_rt ?_ | refine w_ifS ?_ | refine w_next ?_ | refine w_break ?_ | refine w_cont ?_ | refine w_seq ?_ | refine w_asg ?_ | refine w_drop ?_ | refine w_par ?_ | refine w_sfld ?_ | refine w_asgT ?_ | refine w_gset ?_ | refine w_gname ?_ | refine w_gtup rfl ?_ | refine w_gcons ?_ | refine w_gnil ?_ | refine w_yes ?_) | refine w_bl ?_ | refine w_int ?_ | refine w_T ?_ | refine w_F ?_ | refine w_nT ?_ | refine w_nF ?_ | refine q_len_tup ?_ | refine q_int ?_ | refine q_intB ?_ | refine q_add ?_ | refine q_sub ?_ | refine q_neg ?_ | refine q_ord ?_ | refine q_ordS ?_ | refine q_tuple_tup ?_ | refine qEq_int ?_)))
        refine ⟨by show 2 ≤ sizeLine; decide, ?_⟩
        (with_reducible (repeat (first | (first | refine w_var rfl ?_ | refine w_c ?_ | refine w_op ?_ | refine w_un ?_ | refine w_cl ?_ | refine w_nil ?_ | refine w_cons ?_ | refine w_tup ?_ | refine w_lst ?_ | refine w_test ?_ | refine w_not ?_ | refine w_and ?_ | refine w_or ?_ | refine w_andV ?_ | refine w_orV ?_ | refine w_notV ?_ | refine w_if ?_ | refine w_chn ?_ | refine w_call ?_ | refine w_make ?_ | refine w_fld ?_ | refine w_ml ?_ | refine w_ml0 ?_ | refine w_sl ?_ | refine w_slD ?_ | refine w_noPart ?_ | refine w_part ?_ | refine w_dictZ ?_ | refine w_lcA ?_ | refine w_ret ?_ | refine w_rt ?_ | refine w_ifS ?_ | refine w_next ?_ | refine w_break ?_ | refine w_cont ?_ | refine w_seq ?_ | refine w_asg ?_ | refine w_drop ?_ | refine w_par ?_ | refine w_sfld ?_ | refine w_asgT ?_ | refine w_gset ?_ | refine w_gname ?_ | refine w_gtup rfl ?_ | refine w_gcons ?_ | refine w_gnil ?_ | refine w_yes ?_) | refine w_bl ?_ | refine w_int ?_ | refine w_T ?_ | refine w_F ?_ | refine w_nT ?_ | refine w_nF ?_ | refine q_len_tup ?_ | refine q_int ?_ | refine q_intB ?_ | refine q_add ?_ | refine q_sub ?_ | refine q_neg ?_ | refine q_ord ?_ | refine q_ordS ?_ | refine q_tuple_tup ?_ | refine qEq_int ?_)))
        refine qIn_row (.ad hR) (Ev.edge (isName_ok zn) (isName_ok (x.v.name w hw))) (x.e.ev x.v) fun b hb => ?_
        have : (true ^^ b) = notIn es (z, w) := by
          have : b = decide ((z, w) ∈ es) := by rw [Bool.eq_iff_iff, hb, decide_eq_true_iff]; exact mem_dEs (e := (z, w))
          rw [this, Bool.true_xor]; rfl
        rw [this]
        (with_reducible (repeat (first | (first | refine w_var rfl ?_ | refine w_c ?_ | refine w_op ?_ | refine w_un ?_ | refine w_cl ?_ | refine w_nil ?_ | refine w_cons ?_ | refine w_tup ?_ | refine w_lst ?_ | refine w_test ?_ | refine w_not ?_ | refine w_and ?_ | refine w_or ?_ | refine w_andV ?_ | refine w_orV ?_ | refine w_notV ?_ | refine w_if ?_ | refine w_chn ?_ | refine w_call ?_ | refine w_make ?_ | refine w_fld ?_ | refine w_ml ?_ | refine w_ml0 ?_ | refine w_sl ?_ | refine w_slD ?_ | refine w_noPart ?_ | refine w_part ?_ | refine w_dictZ ?_ | refine w_lcA ?_ | refine w_ret ?_ | refine w_rt ?_ | refine w_ifS ?_ | refine w_next ?_ | refine w_break ?_ | refine w_cont ?_ | refine w_seq ?_ | refine w_asg ?_ | refine w_drop ?_ | refine w_par ?_ | refine w_sfld ?_ | refine w_asgT ?_ | refine w_gset ?_ | refine w_gname ?_ | refine w_gtup rfl ?_ | refine w_gcons ?_ | refine w_gnil ?_ | refine w_yes ?_) | refine w_bl ?_ | refine w_int ?_ | refine w_T ?_ | refine w_F ?_ | refine w_nT ?_ | refine w_nF ?_ | refine q_len_tup ?_ | refine q_int ?_ | refine q_intB ?_ | refine q_add ?_ | refine q_sub ?_ | refine q_neg ?_ | refine q_ord ?_ | refine q_ordS ?_ | refine q_tuple_tup ?_ | refine qEq_int ?_)))
        refine iteB (fun h2 => ?_) (fun h2 => ?_)
        · (with_reducible (repeat (first | (first | refine w_var rfl ?_ | refine w_c ?_ | refine w_op ?_ | refine w_un ?_ | refine w_cl ?_ | refine w_nil ?_ | refine w_cons ?_ | refine w_tup ?_ | refine w_lst ?_ | refine w_test ?_ | refine w_not ?_ | refine w_and ?_ | refine w_or ?_ | refine w_andV ?_ | refine w_orV ?_ | refine w_notV ?_ | refine w_if ?_ | refine w_chn ?_ | refine w_call ?_ | refine w_make ?_ | refine w_fld ?_ | refine w_ml ?_ | refine w_ml0 ?_ | refine w_sl ?_ | refine w_slD ?_ | refine w_noPart ?_ | refine w_part ?_ | refine w_dictZ ?_ | refine w_lcA ?_ | refine w_ret ?_ | refine w_rt ?_ | refine w_ifS ?_ | refine w_next ?_ | refine w_break ?_ | refine w_cont ?_ | refine w_seq ?_ | refine w_asg ?_ | refine w_drop ?_ | refine w_par ?_ | refine w_sfld ?_ | refine w_asgT ?_ | refine w_gset ?_ | refine w_gname ?_ | refine w_gtup rfl ?_ | refine w_gcons ?_ | refine w_gnil ?_ | refine w_yes ?_) | refine w_bl ?_ | refine w_int ?_ | refine w_T ?_ | refine w_F ?_ | refine w_nT ?_ | refine w_nF ?_ | refine q_len_tup ?_ | refine q_int ?_ | refine q_intB ?_ | refine q_add ?_ | refine q_sub ?_ | refine q_neg ?_ | refine q_ord ?_ | refine q_ordS ?_ | refine q_tuple_tup ?_ | refine qEq_int ?_)))
          refine ⟨by show 2 ≤ sizeLine; decide, hA ?_ _ (HSub.refl _)⟩
          show (ltS z w && notIn es (z, w)) = true
          rw [h1, h2]; rfl
        · refine hN ?_ _ (HSub.refl _)
          show (ltS z w && notIn es (z, w)) = false
          rw [h2, Bool.and_false]
      · (with_reducible (repeat (first | (first | refine w_var rfl ?_ | refine w_c ?_ | refine w_op ?_ | refine w_un ?_ | refine w_cl ?_ | refine w_nil ?_ | refine w_cons ?_ | refine w_tup ?_ | refine w_lst ?_ | refine w_test ?_ | refine w_not ?_ | refine w_and ?_ | refine w_or ?_ | refine w_andV ?_ | refine w_orV ?_ | refine w_notV ?_ | refine w_if ?_ | refine w_chn ?_ | refine w_call ?_ | refine w_make ?_ | refine w_fld ?_ | refine w_ml ?_ | refine w_ml0 ?_ | refine w_sl ?_ | refine w_slD ?_ | refine w_noPart ?_ | refine w_part ?_ | refine w_dictZ ?_ | refine w_lcA ?_ | refine w_ret ?_ | refine w_rt ?_ | refine w_ifS ?_ | refine w_next ?_ | refine w_break ?_ | refine w_cont ?_ | refine w_seq ?_ | refine w_asg ?_ | refine w_drop ?_ | refine w_par ?_ | refine w_sfld ?_ | refine w_asgT ?_ | refine w_gset ?_ | refine w_gname ?_ | refine w_gtup rfl ?_ | refine w_gcons ?_ | refine w_gnil ?_ | refine w_yes ?_) | refine w_bl ?_ | refine w_int ?_ | refine w_T ?_ | refine w_F ?_ | refine w_nT ?_ | refine w_nF ?_ | refine q_len_tup ?_ | refine q_int ?_ | refine q_intB ?_ | refine q_add ?_ | refine q_sub ?_ | refine q_neg ?_ | refine q_ord ?_ | refine q_ordS ?_ | refine q_tuple_tup ?_ | refine qEq_int ?_)))
        refine hN ?_ _ (HSub.refl _)
        show (ltS z w && notIn es (z, w)) = false
        rw [h1, Bool.false_and]
    · rw [rest_ends]
      have tf : f ≠ t := fun e => by subst e; rw [up_same] at ht; cases ht
      (with_reducible (repeat (first | (first | refine w_var rfl ?_ | refine w_c ?_ | refine w_op ?_ | refine w_un ?_ | refine w_cl ?_ | refine w_nil ?_ | refine w_cons ?_ | refine w_tup ?_ | refine w_lst ?_ | refine w_test ?_ | refine w_not ?_ | refine w_and ?_ | refine w_or ?_ | refine w_andV ?_ | refine w_orV ?_ | refine w_notV ?_ | refine w_if ?_ | refine w_chn ?_ | refine w_call ?_ | refine w_make ?_ | refine w_fld ?_ | refine w_ml ?_ | refine w_ml0 ?_ | refine w_sl ?_ | refine w_slD ?_ | refine w_noPart ?_ | refine w_part ?_ | refine w_dictZ ?_ | refine w_lcA ?_ | refine w_ret ?_ | refine w_rt ?_ | refine w_ifS ?_ | refine w_next ?_ | refine w_break ?_ | refine w_cont ?_ | refine w_seq ?_ | refine w_asg ?_ | refine w_drop ?_ | refine w_par ?_ | refine w_sfld ?_ | refine w_asgT ?_ | refine w_gset ?_ | refine w_gname ?_ | refine w_gtup rfl ?_ | refine w_gcons ?_ | refine w_gnil ?_ | refine w_yes ?_) | refine w_bl ?_ | refine w_int ?_ | refine w_T ?_ | refine w_F ?_ | refine w_nT ?_ | refine w_nF ?_ | refine q_len_tup ?_ | refine q_int ?_ | refine q_intB ?_ | refine q_add ?_ | refine q_sub ?_ | refine q_neg ?_ | refine q_ord ?_ | refine q_ordS ?_ | refine q_tuple_tup ?_ | refine qEq_int ?_)))
      refine q_extend (xs := dEs ((pairs ns (ns.take i)).filter (notIn es))) (ys := dEs ((ends ns z).filter (notIn es))) (by rw [up_ne tf, up_same]) up_same ?_ ?_
      · rw [dEs_len, dEs_len]
        have h1 := pairs_le ns (ns.take i)
        have h2 := ends_le ns z
        have h3 : (ns.take i).length * ns.length ≤ 10 * 10 := Nat.mul_le_mul (by rw [List.length_take]; have := x.v.few; omega) x.v.few
        have h4 := List.length_filter_le (notIn es) (pairs ns (ns.take i))
        have h5 := List.length_filter_le (notIn es) (ends ns z)
        exact size_ge (by have := x.v.few; omega)
      · rw [← dEs_app, ← rest_app, ← tk]
        refine ⟨_, _, TSub.refl _, ?_, _, rfl, rfl⟩
        have := (HSub.new (o := .lst (dEs ((ends ns z).filter (notIn es)))) ht).up (p := f) (o := .lst (dEs ((pairs ns (ns.take (i + 1))).filter (notIn es))))
        rwa [up_up] at this
  · rintro _ _ ⟨t5, rfl, rfl⟩
    rw [dS_len, List.take_length]
    have pl := pairs_le ns ns
    have pl2 : ns.length * ns.length ≤ 10 * 10 := Nat.mul_le_mul x.v.few x.v.few
    have pl3 := List.length_filter_le (notIn es) (pairs ns ns)
    have cu := x.self.new (o := .lst (dEs ((pairs ns ns).filter (notIn es)))) hf
    exact er_10 gf (x.cur cu) up_same fs (fun e he => ⟨(List.mem_filter.mp he).1, notIn_iff.mp (List.mem_filter.mp he).2⟩) ((pairs_nd x.v.nd x.v.nd).filter _) (by omega) fun G h => fin G (cu.trans h)

/-! ### L_other_names_right -/
abbrev N_L_other_names_right : List Str := ["_law_source", "_law_names", "_law_edges", "_law_graph", "_law_fresh", "_law_at", "_law_some", "_law_table", "_law_ends", "_law_twin", "_law_turned", "_law_one_here", "_law_other", "_law_pair", "_law_letter"]
def t_L_other_names_right_1 (K : PySem.W.Frag) (c : Ad) : JSt := (jRet (jAndV (jNotV (jOrV (jOp (qOwn false K c.cGraph (sp_Graph___eq__ K c)) (jVar 3) (jVar 10)) (jOp (qOwn false K c.cGraph (sp_Graph___eq__ K c)) (jVar 10) (jVar 3)))) (jOp (qOwn true K c.cGraph (sp_Graph___eq__ K c)) (jVar 3) (jVar 10))))
def t_L_other_names_right_2 (K : PySem.W.Frag) (c : Ad) : JSt := (jSeq (jAsg (jMake c.cGraph (sp_Graph___init__ K c) (jCons (jOp qAdd (jSl (jVar 1) jNoPart (jPart (jUn qNeg (jC (.int 2))))) (jSlD (jVar 1) (jPart (jUn qNeg (jC (.int 3)))) (jPart (jUn qNeg (jC (.int 1)))))) (jCons (jVar 2) jNil))) (jgName 10)) (t_L_other_names_right_1 K c))
def t_L_other_names_right_3 (K : PySem.W.Frag) (c : Ad) : JSt := (jSeq (jIfS (jTest (jOp qLt (jCl qLen (jCons (jVar 1) jNil)) (jC (.int 3)))) (jRet (jC (.bl true))) jNext) (t_L_other_names_right_2 K c))
def t_L_other_names_right_4 (K : PySem.W.Frag) (c : Ad) : JSt := (jSeq (jIfS (jOr (jTest (jOp (qOwn false K c.cGraph (sp_Graph___eq__ K c)) (jVar 3) (jVar 9))) (jTest (jOp (qOwn false K c.cGraph (sp_Graph___eq__ K c)) (jVar 9) (jVar 3)))) (jRet (jC (.bl false))) jNext) (t_L_other_names_right_3 K c))
def t_L_other_names_right_5 (K : PySem.W.Frag) (c : Ad) : JSt := (jSeq (jAsg (jMake c.cGraph (sp_Graph___init__ K c) (jCons (jVar 6) (jCons (jLc (jiAny (jVar 8)) (jgName 13) jYes (jTup (jCons (jCl qMin (jCons (jVar 13) jNil)) (jCons (jCl qMax (jCons (jVar 13) jNil)) jNil))) [13]) jNil))) (jgName 9)) (t_L_other_names_right_4 K c))
def t_L_other_names_right_6 (K : PySem.W.Frag) (c : Ad) : JSt := (jSeq (jAsg (jLc (jiAny (jVar 2)) (jgTup 2 (jgCons (jgName 11) (jgCons (jgName 12) jgNil))) jYes (jTup (jCons (jOp qIx2 (jVar 7) (jVar 11)) (jCons (jOp qIx2 (jVar 7) (jVar 12)) jNil))) [11, 12]) (jgName 8)) (t_L_other_names_right_5 K c))
def t_L_other_names_right_7 (K : PySem.W.Frag) (c : Ad) : JSt := (jSeq (jAsg (jDictZ (jCons (jVar 1) (jCons (jVar 6) jNil))) (jgName 7)) (t_L_other_names_right_6 K c))
def t_L_other_names_right_8 (K : PySem.W.Frag) (c : Ad) : JSt := (jSeq (jAsg (jOp qAdd (jOp qAdd (jSl (jVar 1) jNoPart (jPart (jVar 5))) (jLst (jCons (jVar 4) jNil))) (jSl (jVar 1) (jPart (jOp qAdd (jVar 5) (jC (.int 1)))) jNoPart)) (jgName 6)) (t_L_other_names_right_7 K c))
def t_L_other_names_right_9 (K : PySem.W.Frag) (c : Ad) : JSt := (jSeq (jAsg (jCall (sp_L_next K c) (jCons (jVar 0) (jCons (jCl qLen (jCons (jVar 1) jNil)) jNil))) (jgName 5)) (t_L_other_names_right_8 K c))
def t_L_other_names_right (K : PySem.W.Frag) (c : Ad) : JSt := (jSeq (jAsg (jOp qIx2 (jLc (jiAny (jLc (jiAny (jC (.str "abcdefghijk"))) (jgName 14) jYes (jOp qAdd (jC (.str "q")) (jVar 14)) [14])) (jgName 11) (jTest (jOp (qIn2 true) (jVar 11) (jVar 1))) (jVar 11) [11]) (jC (.int 0))) (jgName 4)) (t_L_other_names_right_9 K c))
def sp_L_other_names_right (K : PySem.W.Frag) (c : Ad) : Sq := spA fun ws G po => ∃ s p r g ns es, ws = [.ad s, .ad p, .ad r, .ad g] ∧ Ctx c G s p r g ns es ∧ po = fun v G1 => v = .bl true ∧ ∃ a b d, G1 = up G s (so a b d)
theorem mono_L_other_names_right {K : PySem.W.Frag} {c : Ad} : MonoSq (sp_L_other_names_right K c) := spA.mono
theorem len_L_other_names_right {K : PySem.W.Frag} {c : Ad} : ∀ ws G Q E, sp_L_other_names_right K c ws G Q E → ws.length = (["_law_source", "_law_names", "_law_edges", "_law_graph"] : List Str).length := by
  rintro _ _ _ _ ⟨_, ⟨_, _, _, _, _, _, rfl, _⟩, _⟩; rfl
section
variable {K : PySem.W.Frag} {c : Ad} {R : JX} {D : JEnds} {G0 G : Hq} {s p r g : Addr} {ns : List Str} {es : List (Str × Str)} {t4 t5 t6 t7 t8 t9 t10 t11 t12 t13 t14 : Option Dv}
def mapE (f : Str × Str → Dv) : Dv → Dv
  | .tup [.str a, .str b] => f (a, b)
  | _ => .non
theorem map_dEs {f : Str × Str → Str × Str} (l : List (Str × Str)) : (dEs l).map (mapE fun e => dEdge (f e)) = dEs (l.map f) := by unfold dEs; rw [List.map_map, List.map_map]; rfl
theorem neg2 {α : Type} (xs : List α) (h : 2 ≤ xs.length) : cutL xs none (some (-2)) = xs.take (xs.length - 2) := by
  unfold cutL
  rw [HT.sIx_none, List.drop_zero, Nat.sub_zero]
  have : HT.sIx xs.length xs.length (some (-2)) = xs.length - 2 := by
    show (if (-2 : Int) < 0 then ((-2 : Int) + (xs.length : Int)).toNat else min (-2 : Int).toNat xs.length) = xs.length - 2
    rw [if_pos (by decide)]; omega
  rw [this]
theorem neg3 {α : Type} (xs : List α) (h : 2 ≤ xs.length) : revCut xs (some (-3)) = (xs.drop (xs.length - 2)).reverse := by
  unfold revCut
  show (xs.drop (if (-3 : Int) < 0 then ((xs.length : Int) + -3 + 1).toNat else (-3 : Int).toNat + 1)).reverse = _
  rw [if_pos (by decide), show ((xs.length : Int) + -3 + 1).toNat = xs.length - 2 by omega]
theorem nr_3 (gf : GF K c) (cx : Ctx c G0 s p r g ns es) (fin : ∀ G, Cur G0 s G → D.rt (.bl true) G) (cu : Cur G0 s G) : t_L_other_names_right_3 K c R D [some (.ad s), some (.ad p), some (.ad r), some (.ad g), t4, t5, t6, t7, t8, t9, t10, t11, t12, t13, t14] G := by
  have x := cx.cur cu
  unfold t_L_other_names_right_3
  (with_reducible (repeat (first | (first | refine w_var rfl ?_ | refine w_c ?_ | refine w_op ?_ | refine w_un ?_ | refine w_cl ?_ | refine w_nil ?_ | refine w_cons ?_ | refine w_tup ?_ | refine w_lst ?_ | refine w_test ?_ | refine w_not ?_ | refine w_and ?_ | refine w_or ?_ | refine w_andV ?_ | refine w_orV ?_ | refine w_notV ?_ | refine w_if ?_ | refine w_chn ?_ | refine w_call ?_ | refine w_make ?_ | refine w_fld ?_ | refine w_ml ?_ | refine w_ml0 ?_ | refine w_sl ?_ | refine w_slD ?_ | refine w_noPart ?_ | refine w_part ?_ | refine w_dictZ ?_ | refine w_lcA ?_ | refine w_ret ?_ | refine w_rt ?_ | refine w_ifS ?_ | refine w_next ?_ | refine w_break ?_ | refine w_cont ?_ | refine w_seq ?_ | refine w_asg ?_ | refine w_drop ?_ | refine w_par ?_ | refine w_sfld ?_ | refine w_asgT ?_ | refine w_gset ?_ | refine w_gname ?_ | refine w_gtup rfl ?_ | refine w_gcons ?_ | refine w_gnil ?_ | refine w_yes ?_) | refine w_bl ?_ | refine w_int ?_ | refine w_T ?_ | refine w_F ?_ | refine w_nT ?_ | refine w_nF ?_ | refine q_len_tup ?_ | refine q_int ?_ | refine q_intB ?_ | refine q_add ?_ | refine q_sub ?_ | refine q_neg ?_ | refine q_ord ?_ | refine q_ordS ?_ | refine q_tuple_tup ?_ | refine qEq_int ?_)))
  refine q_len_ad x.hp ?_
  (with_reducible (repeat (first | (first | refine w_var rfl ?_ | refine w_c ?_ | refine w_op ?_ | refine w_un ?_ | refine w_cl ?_ | refine w_nil ?_ | refine w_cons ?_ | refine w_tup ?_ | refine w_lst ?_ | refine w_test ?_ | refine w_not ?_ | refine w_and ?_ | refine w_or ?_ | refine w_andV ?_ | refine w_orV ?_ | refine w_notV ?_ | refine w_if ?_ | refine w_chn ?_ | refine w_call ?_ | refine w_make ?_ | refine w_fld ?_ | refine w_ml ?_ | refine w_ml0 ?_ | refine w_sl ?_ | refine w_slD ?_ | refine w_noPart ?_ | refine w_part ?_ | refine w_dictZ ?_ | refine w_lcA ?_ | refine w_ret ?_ | refine w_rt ?_ | refine w_ifS ?_ | refine w_next ?_ | refine w_break ?_ | refine w_cont ?_ | refine w_seq ?_ | refine w_asg ?_ | refine w_drop ?_ | refine w_par ?_ | refine w_sfld ?_ | refine w_asgT ?_ | refine w_gset ?_ | refine w_gname ?_ | refine w_gtup rfl ?_ | refine w_gcons ?_ | refine w_gnil ?_ | refine w_yes ?_) | refine w_bl ?_ | refine w_int ?_ | refine w_T ?_ | refine w_F ?_ | refine w_nT ?_ | refine w_nF ?_ | refine q_len_tup ?_ | refine q_int ?_ | refine q_intB ?_ | refine q_add ?_ | refine q_sub ?_ | refine q_neg ?_ | refine q_ord ?_ | refine q_ordS ?_ | refine q_tuple_tup ?_ | refine qEq_int ?_)))
  refine iteB (fun z => ?_) (fun z => ?_)
  · (with_reducible (repeat (first | (first | refine w_var rfl ?_ | refine w_c ?_ | refine w_op ?_ | refine w_un ?_ | refine w_cl ?_ | refine w_nil ?_ | refine w_cons ?_ | refine w_tup ?_ | refine w_lst ?_ | refine w_test ?_ | refine w_not ?_ | refine w_and ?_ | refine w_or ?_ | refine w_andV ?_ | refine w_orV ?_ | refine w_notV ?_ | refine w_if ?_ | refine w_chn ?_ | refine w_call ?_ | refine w_make ?_ | refine w_fld ?_ | refine w_ml ?_ | refine w_ml0 ?_ | refine w_sl ?_ | refine w_slD ?_ | refine w_noPart ?_ | refine w_part ?_ | refine w_dictZ ?_ | refine w_lcA ?_ | refine w_ret ?_ | refine w_rt ?_ | refine w_ifS ?_ | refine w_next ?_ | refine w_break ?_ | refine w_cont ?_ | refine w_seq ?_ | refine w_asg ?_ | refine w_drop ?_ | refine w_par ?_ | refine w_sfld ?_ | refine w_asgT ?_ | refine w_gset ?_ | refine w_gname ?_ | refine w_gtup rfl ?_ | refine w_gcons ?_ | refine w_gnil ?_ | refine w_yes ?_) | refine w_bl ?_ | refine w_int ?_ | refine w_T ?_ | refine w_F ?_ | refine w_nT ?_ | refine w_nF ?_ | refine q_len_tup ?_ | refine q_int ?_ | refine q_intB ?_ | refine q_add ?_ | refine q_sub ?_ | refine q_neg ?_ | refine q_ord ?_ | refine q_ordS ?_ | refine q_tuple_tup ?_ | refine qEq_int ?_)))
    exact fin _ cu
  · have h3 : 3 ≤ ns.length := by have := of_decide_eq_false z; rw [dS_len] at this; omega
    (with_reducible (repeat (first | (first | refine w_var rfl ?_ | refine w_c ?_ | refine w_op ?_ | refine w_un ?_ | refine w_cl ?_ | refine w_nil ?_ | refine w_cons ?_ | refine w_tup ?_ | refine w_lst ?_ | refine w_test ?_ | refine w_not ?_ | refine w_and ?_ | refine w_or ?_ | refine w_andV ?_ | refine w_orV ?_ | refine w_notV ?_ | refine w_if ?_ | refine w_chn ?_ | refine w_call ?_ | refine w_make ?_ | refine w_fld ?_ | refine w_ml ?_ | refine w_ml0 ?_ | refine w_sl ?_ | refine w_slD ?_ | refine w_noPart ?_ | refine w_part ?_ | refine w_dictZ ?_ | refine w_lcA ?_ | refine w_ret ?_ | refine w_rt ?_ | refine w_ifS ?_ | refine w_next ?_ | refine w_break ?_ | refine w_cont ?_ | refine w_seq ?_ | refine w_asg ?_ | refine w_drop ?_ | refine w_par ?_ | refine w_sfld ?_ | refine w_asgT ?_ | refine w_gset ?_ | refine w_gname ?_ | refine w_gtup rfl ?_ | refine w_gcons ?_ | refine w_gnil ?_ | refine w_yes ?_) | refine w_bl ?_ | refine w_int ?_ | refine w_T ?_ | refine w_F ?_ | refine w_nT ?_ | refine w_nF ?_ | refine q_len_tup ?_ | refine q_int ?_ | refine q_intB ?_ | refine q_add ?_ | refine q_sub ?_ | refine q_neg ?_ | refine q_ord ?_ | refine q_ordS ?_ | refine q_tuple_tup ?_ | refine qEq_int ?_)))
    unfold t_L_other_names_right_2
    (with_reducible (repeat (first | (first | refine w_var rfl ?_ | refine w_c ?_ | refine w_op ?_ | refine w_un ?_ | refine w_cl ?_ | refine w_nil ?_ | refine w_cons ?_ | refine w_tup ?_ | refine w_lst ?_ | refine w_test ?_ | refine w_not ?_ | refine w_and ?_ | refine w_or ?_ | refine w_andV ?_ | refine w_orV ?_ | refine w_notV ?_ | refine w_if ?_ | refine w_chn ?_ | refine w_call ?_ | refine w_make ?_ | refine w_fld ?_ | refine w_ml ?_ | refine w_ml0 ?_ | refine w_sl ?_ | refine w_slD ?_ | refine w_noPart ?_ | refine w_part ?_ | refine w_dictZ ?_ | refine w_lcA ?_ | refine w_ret ?_ | refine w_rt ?_ | refine w_ifS ?_ | refine w_next ?_ | refine w_break ?_ | refine w_cont ?_ | refine w_seq ?_ | refine w_asg ?_ | refine w_drop ?_ | refine w_par ?_ | refine w_sfld ?_ | refine w_asgT ?_ | refine w_gset ?_ | refine w_gname ?_ | refine w_gtup rfl ?_ | refine w_gcons ?_ | refine w_gnil ?_ | refine w_yes ?_) | refine w_bl ?_ | refine w_int ?_ | refine w_T ?_ | refine w_F ?_ | refine w_nT ?_ | refine w_nF ?_ | refine q_len_tup ?_ | refine q_int ?_ | refine q_intB ?_ | refine q_add ?_ | refine q_sub ?_ | refine q_neg ?_ | refine q_ord ?_ | refine q_ordS ?_ | refine q_tuple_tup ?_ | refine qEq_int ?_)))
    refine q_sl_ad x.hp fun l1 hl1 => ?_
    rw [neg2 _ (by rw [dS_len]; omega)]
    have cu1 := cu.new (o := .lst ((dS ns).take ((dS ns).length - 2))) hl1
    have x1 := cx.cur cu1
    (with_reducible (repeat (first | (first | refine w_var rfl ?_ | refine w_c ?_ | refine w_op ?_ | refine w_un ?_ | refine w_cl ?_ | refine w_nil ?_ | refine w_cons ?_ | refine w_tup ?_ | refine w_lst ?_ | refine w_test ?_ | refine w_not ?_ | refine w_and ?_ | refine w_or ?_ | refine w_andV ?_ | refine w_orV ?_ | refine w_notV ?_ | refine w_if ?_ | refine w_chn ?_ | refine w_call ?_ | refine w_make ?_ | refine w_fld ?_ | refine w_ml ?_ | refine w_ml0 ?_ | refine w_sl ?_ | refine w_slD ?_ | refine w_noPart ?_ | refine w_part ?_ | refine w_dictZ ?_ | refine w_lcA ?_ | refine w_ret ?_ | refine w_rt ?_ | refine w_ifS ?_ | refine w_next ?_ | refine w_break ?_ | refine w_cont ?_ | refine w_seq ?_ | refine w_asg ?_ | refine w_drop ?_ | refine w_par ?_ | refine w_sfld ?_ | refine w_asgT ?_ | refine w_gset ?_ | refine w_gname ?_ | refine w_gtup rfl ?_ | refine w_gcons ?_ | refine w_gnil ?_ | refine w_yes ?_) | refine w_bl ?_ | refine w_int ?_ | refine w_T ?_ | refine w_F ?_ | refine w_nT ?_ | refine w_nF ?_ | refine q_len_tup ?_ | refine q_int ?_ | refine q_intB ?_ | refine q_add ?_ | refine q_sub ?_ | refine q_neg ?_ | refine q_ord ?_ | refine q_ordS ?_ | refine q_tuple_tup ?_ | refine qEq_int ?_)))
    refine ⟨rfl, ?_⟩
    refine q_slD_ad x1.hp fun l2 hl2 => ?_
    rw [neg3 _ (by rw [dS_len]; omega)]
    have cu2 := cu1.new (o := .lst ((dS ns).drop ((dS ns).length - 2)).reverse) hl2
    have x2 := cx.cur cu2
    refine q_addL (HSub.new hl2 _ _ up_same) up_same (by rw [List.length_take, List.length_reverse, List.length_drop, dS_len]; exact size_ge (by have := x.v.few; omega)) fun l3 hl3 => ?_
    have eq : (dS ns).take ((dS ns).length - 2) ++ ((dS ns).drop ((dS ns).length - 2)).reverse = dS (ns.take (ns.length - 2) ++ (ns.drop (ns.length - 2)).reverse) := by
      rw [dS_len]; unfold dS; rw [List.map_append, List.map_take, List.map_reverse, List.map_drop]
    rw [eq]
    have pm : (ns.take (ns.length - 2) ++ (ns.drop (ns.length - 2)).reverse).Perm ns := by
      have := (List.reverse_perm (ns.drop (ns.length - 2))).append_left (ns.take (ns.length - 2))
      rwa [List.take_append_drop] at this
    have ne : ns ≠ ns.take (ns.length - 2) ++ (ns.drop (ns.length - 2)).reverse := fun h => by
      have h2 : ns.take (ns.length - 2) ++ ns.drop (ns.length - 2) = ns.take (ns.length - 2) ++ (ns.drop (ns.length - 2)).reverse := by rw [List.take_append_drop]; exact h
      have h3' := List.append_cancel_left h2
      have l2 : (ns.drop (ns.length - 2)).length = 2 := by rw [List.length_drop]; omega
      have := (rev_one (x.v.nd.sublist (List.drop_sublist _ _)) (by omega)).mp h3'
      omega
    have cu3 := cu2.new (o := .lst (dS (ns.take (ns.length - 2) ++ (ns.drop (ns.length - 2)).reverse))) hl3
    have x3 := cx.cur cu3
    have v2 := x.v.perm pm
    have e2 := x.e.permV pm
    (with_reducible (repeat (first | (first | refine w_var rfl ?_ | refine w_c ?_ | refine w_op ?_ | refine w_un ?_ | refine w_cl ?_ | refine w_nil ?_ | refine w_cons ?_ | refine w_tup ?_ | refine w_lst ?_ | refine w_test ?_ | refine w_not ?_ | refine w_and ?_ | refine w_or ?_ | refine w_andV ?_ | refine w_orV ?_ | refine w_notV ?_ | refine w_if ?_ | refine w_chn ?_ | refine w_call ?_ | refine w_make ?_ | refine w_fld ?_ | refine w_ml ?_ | refine w_ml0 ?_ | refine w_sl ?_ | refine w_slD ?_ | refine w_noPart ?_ | refine w_part ?_ | refine w_dictZ ?_ | refine w_lcA ?_ | refine w_ret ?_ | refine w_rt ?_ | refine w_ifS ?_ | refine w_next ?_ | refine w_break ?_ | refine w_cont ?_ | refine w_seq ?_ | refine w_asg ?_ | refine w_drop ?_ | refine w_par ?_ | refine w_sfld ?_ | refine w_asgT ?_ | refine w_gset ?_ | refine w_gname ?_ | refine w_gtup rfl ?_ | refine w_gcons ?_ | refine w_gnil ?_ | refine w_yes ?_) | refine w_bl ?_ | refine w_int ?_ | refine w_T ?_ | refine w_F ?_ | refine w_nT ?_ | refine w_nF ?_ | refine q_len_tup ?_ | refine q_int ?_ | refine q_intB ?_ | refine q_add ?_ | refine q_sub ?_ | refine q_neg ?_ | refine q_ord ?_ | refine q_ordS ?_ | refine q_tuple_tup ?_ | refine qEq_int ?_)))
    refine q_make (.inl ⟨l3, rfl, up_same⟩) (.inl ⟨r, rfl, x3.hr⟩) v2 e2 fun g2 hg2 => ?_
    have cu4 := cu3.new (o := .ins c.cGraph (gFs (ns.take (ns.length - 2) ++ (ns.drop (ns.length - 2)).reverse) es)) hg2
    have x4 := cx.cur cu4
    show t_L_other_names_right_1 K c _ _ _ _
    unfold t_L_other_names_right_1
    (with_reducible (repeat (first | (first | refine w_var rfl ?_ | refine w_c ?_ | refine w_op ?_ | refine w_un ?_ | refine w_cl ?_ | refine w_nil ?_ | refine w_cons ?_ | refine w_tup ?_ | refine w_lst ?_ | refine w_test ?_ | refine w_not ?_ | refine w_and ?_ | refine w_or ?_ | refine w_andV ?_ | refine w_orV ?_ | refine w_notV ?_ | refine w_if ?_ | refine w_chn ?_ | refine w_call ?_ | refine w_make ?_ | refine w_fld ?_ | refine w_ml ?_ | refine w_ml0 ?_ | refine w_sl ?_ | refine w_slD ?_ | refine w_noPart ?_ | refine w_part ?_ | refine w_dictZ ?_ | refine w_lcA ?_ | refine w_ret ?_ | refine w_rt ?_ | refine w_ifS ?_ | refine w_next ?_ | refine w_break ?_ | refine w_cont ?_ | refine w_seq ?_ | refine w_asg ?_ | refine w_drop ?_ | refine w_par ?_ | refine w_sfld ?_ | refine w_asgT ?_ | refine w_gset ?_ | refine w_gname ?_ | refine w_gtup rfl ?_ | refine w_gcons ?_ | refine w_gnil ?_ | refine w_yes ?_) | refine w_bl ?_ | refine w_int ?_ | refine w_T ?_ | refine w_F ?_ | refine w_nT ?_ | refine w_nF ?_ | refine q_len_tup ?_ | refine q_int ?_ | refine q_intB ?_ | refine q_add ?_ | refine q_sub ?_ | refine q_neg ?_ | refine q_ord ?_ | refine q_ordS ?_ | refine q_tuple_tup ?_ | refine qEq_int ?_)))
    refine q_eqG_no gf x4.hg up_same x.v x.e v2 e2 (fun h => ne h.1) ?_
    (with_reducible (repeat (first | (first | refine w_var rfl ?_ | refine w_c ?_ | refine w_op ?_ | refine w_un ?_ | refine w_cl ?_ | refine w_nil ?_ | refine w_cons ?_ | refine w_tup ?_ | refine w_lst ?_ | refine w_test ?_ | refine w_not ?_ | refine w_and ?_ | refine w_or ?_ | refine w_andV ?_ | refine w_orV ?_ | refine w_notV ?_ | refine w_if ?_ | refine w_chn ?_ | refine w_call ?_ | refine w_make ?_ | refine w_fld ?_ | refine w_ml ?_ | refine w_ml0 ?_ | refine w_sl ?_ | refine w_slD ?_ | refine w_noPart ?_ | refine w_part ?_ | refine w_dictZ ?_ | refine w_lcA ?_ | refine w_ret ?_ | refine w_rt ?_ | refine w_ifS ?_ | refine w_next ?_ | refine w_break ?_ | refine w_cont ?_ | refine w_seq ?_ | refine w_asg ?_ | refine w_drop ?_ | refine w_par ?_ | refine w_sfld ?_ | refine w_asgT ?_ | refine w_gset ?_ | refine w_gname ?_ | refine w_gtup rfl ?_ | refine w_gcons ?_ | refine w_gnil ?_ | refine w_yes ?_) | refine w_bl ?_ | refine w_int ?_ | refine w_T ?_ | refine w_F ?_ | refine w_nT ?_ | refine w_nF ?_ | refine q_len_tup ?_ | refine q_int ?_ | refine q_intB ?_ | refine q_add ?_ | refine q_sub ?_ | refine q_neg ?_ | refine q_ord ?_ | refine q_ordS ?_ | refine q_tuple_tup ?_ | refine qEq_int ?_)))
    refine q_eqG_no gf up_same x4.hg v2 e2 x.v x.e (fun h => ne h.1.symm) ?_
    (with_reducible (repeat (first | (first | refine w_var rfl ?_ | refine w_c ?_ | refine w_op ?_ | refine w_un ?_ | refine w_cl ?_ | refine w_nil ?_ | refine w_cons ?_ | refine w_tup ?_ | refine w_lst ?_ | refine w_test ?_ | refine w_not ?_ | refine w_and ?_ | refine w_or ?_ | refine w_andV ?_ | refine w_orV ?_ | refine w_notV ?_ | refine w_if ?_ | refine w_chn ?_ | refine w_call ?_ | refine w_make ?_ | refine w_fld ?_ | refine w_ml ?_ | refine w_ml0 ?_ | refine w_sl ?_ | refine w_slD ?_ | refine w_noPart ?_ | refine w_part ?_ | refine w_dictZ ?_ | refine w_lcA ?_ | refine w_ret ?_ | refine w_rt ?_ | refine w_ifS ?_ | refine w_next ?_ | refine w_break ?_ | refine w_cont ?_ | refine w_seq ?_ | refine w_asg ?_ | refine w_drop ?_ | refine w_par ?_ | refine w_sfld ?_ | refine w_asgT ?_ | refine w_gset ?_ | refine w_gname ?_ | refine w_gtup rfl ?_ | refine w_gcons ?_ | refine w_gnil ?_ | refine w_yes ?_) | refine w_bl ?_ | refine w_int ?_ | refine w_T ?_ | refine w_F ?_ | refine w_nT ?_ | refine w_nF ?_ | refine q_len_tup ?_ | refine q_int ?_ | refine q_intB ?_ | refine q_add ?_ | refine q_sub ?_ | refine q_neg ?_ | refine q_ord ?_ | refine q_ordS ?_ | refine q_tuple_tup ?_ | refine qEq_int ?_)))
    refine q_eqG_no gf x4.hg up_same x.v x.e v2 e2 (fun h => ne h.1) ?_
    exact fin _ cu4
end
theorem pure_L_other_names_right {K : PySem.W.Frag} {c : Ad} (gf : GF K c) : ∀ ws G Q E, Up Q → UpX E → sp_L_other_names_right K c ws G Q E → t_L_other_names_right K c (fun c f _ G => E c f G) { nx := fun _ G => Q .non G, rt := Q } (startT N_L_other_names_right ws) G := by
  rintro _ G0 Q E hU _ ⟨_, ⟨s, p, r, g, ns, es, rfl, x, rfl⟩, q⟩
  have fin : ∀ G, Cur G0 s G → Q (.bl true) G := fun G h => h.ends hU fun a b d => q _ _ ⟨rfl, a, b, d, rfl⟩
  have cu := x.self
  unfold t_L_other_names_right
  (with_reducible (repeat (first | (first | refine w_var rfl ?_ | refine w_c ?_ | refine w_op ?_ | refine w_un ?_ | refine w_cl ?_ | refine w_nil ?_ | refine w_cons ?_ | refine w_tup ?_ | refine w_lst ?_ | refine w_test ?_ | refine w_not ?_ | refine w_and ?_ | refine w_or ?_ | refine w_andV ?_ | refine w_orV ?_ | refine w_notV ?_ | refine w_if ?_ | refine w_chn ?_ | refine w_call ?_ | refine w_make ?_ | refine w_fld ?_ | refine w_ml ?_ | refine w_ml0 ?_ | refine w_sl ?_ | refine w_slD ?_ | refine w_noPart ?_ | refine w_part ?_ | refine w_dictZ ?_ | refine w_lcA ?_ | refine w_ret ?_ | refine w_rt ?_ | refine w_ifS ?_ | refine w_next ?_ | refine w_break ?_ | refine w_cont ?_ | refine w_seq ?_ | refine w_asg ?_ | refine w_drop ?_ | refine w_par ?_ | refine w_sfld ?_ | refine w_asgT ?_ | refine w_gset ?_ | refine w_gname ?_ | refine w_gtup rfl ?_ | refine w_gcons ?_ | refine w_gnil ?_ | refine w_yes ?_) | refine w_bl ?_ | refine w_int ?_ | refine w_T ?_ | refine w_F ?_ | refine w_nT ?_ | refine w_nF ?_ | refine q_len_tup ?_ | refine q_int ?_ | refine q_intB ?_ | refine q_add ?_ | refine q_sub ?_ | refine q_neg ?_ | refine q_ord ?_ | refine q_ordS ?_ | refine q_tuple_tup ?_ | refine qEq_int ?_)))
  refine w_fresh (i := 14) (j := 11) (k := 1) (pre := "q") (ls := "abcdefghijk") (x := .ad p) (ns := ns) (fun Q h => w_c h) rfl (.ad x.hp) (by decide) (by decide) (by show 14 < 15; decide) (by show 11 < 15; decide) x.v.name (Nat.lt_of_le_of_lt x.v.few (by decide +kernel)) (by decide +kernel) (by decide +kernel) (by decide +kernel) (by decide +kernel) (by decide +kernel) fun w G1 hs1 nw hn => ?_
  have cu := cu.sub hs1
  obtain ⟨a, b, d, hs⟩ := cu.src
  have x1 := x.cur cu
  show t_L_other_names_right_9 K c _ _ _ _
  unfold t_L_other_names_right_9
  (with_reducible (repeat (first | (first | refine w_var rfl ?_ | refine w_c ?_ | refine w_op ?_ | refine w_un ?_ | refine w_cl ?_ | refine w_nil ?_ | refine w_cons ?_ | refine w_tup ?_ | refine w_lst ?_ | refine w_test ?_ | refine w_not ?_ | refine w_and ?_ | refine w_or ?_ | refine w_andV ?_ | refine w_orV ?_ | refine w_notV ?_ | refine w_if ?_ | refine w_chn ?_ | refine w_call ?_ | refine w_make ?_ | refine w_fld ?_ | refine w_ml ?_ | refine w_ml0 ?_ | refine w_sl ?_ | refine w_slD ?_ | refine w_noPart ?_ | refine w_part ?_ | refine w_dictZ ?_ | refine w_lcA ?_ | refine w_ret ?_ | refine w_rt ?_ | refine w_ifS ?_ | refine w_next ?_ | refine w_break ?_ | refine w_cont ?_ | refine w_seq ?_ | refine w_asg ?_ | refine w_drop ?_ | refine w_par ?_ | refine w_sfld ?_ | refine w_asgT ?_ | refine w_gset ?_ | refine w_gname ?_ | refine w_gtup rfl ?_ | refine w_gcons ?_ | refine w_gnil ?_ | refine w_yes ?_) | refine w_bl ?_ | refine w_int ?_ | refine w_T ?_ | refine w_F ?_ | refine w_nT ?_ | refine w_nF ?_ | refine q_len_tup ?_ | refine q_int ?_ | refine q_intB ?_ | refine q_add ?_ | refine q_sub ?_ | refine q_neg ?_ | refine q_ord ?_ | refine q_ordS ?_ | refine q_tuple_tup ?_ | refine qEq_int ?_)))
  refine q_len_ad x1.hp ?_
  (with_reducible (repeat (first | (first | refine w_var rfl ?_ | refine w_c ?_ | refine w_op ?_ | refine w_un ?_ | refine w_cl ?_ | refine w_nil ?_ | refine w_cons ?_ | refine w_tup ?_ | refine w_lst ?_ | refine w_test ?_ | refine w_not ?_ | refine w_and ?_ | refine w_or ?_ | refine w_andV ?_ | refine w_orV ?_ | refine w_notV ?_ | refine w_if ?_ | refine w_chn ?_ | refine w_call ?_ | refine w_make ?_ | refine w_fld ?_ | refine w_ml ?_ | refine w_ml0 ?_ | refine w_sl ?_ | refine w_slD ?_ | refine w_noPart ?_ | refine w_part ?_ | refine w_dictZ ?_ | refine w_lcA ?_ | refine w_ret ?_ | refine w_rt ?_ | refine w_ifS ?_ | refine w_next ?_ | refine w_break ?_ | refine w_cont ?_ | refine w_seq ?_ | refine w_asg ?_ | refine w_drop ?_ | refine w_par ?_ | refine w_sfld ?_ | refine w_asgT ?_ | refine w_gset ?_ | refine w_gname ?_ | refine w_gtup rfl ?_ | refine w_gcons ?_ | refine w_gnil ?_ | refine w_yes ?_) | refine w_bl ?_ | refine w_int ?_ | refine w_T ?_ | refine w_F ?_ | refine w_nT ?_ | refine w_nF ?_ | refine q_len_tup ?_ | refine q_int ?_ | refine q_intB ?_ | refine q_add ?_ | refine q_sub ?_ | refine q_neg ?_ | refine q_ord ?_ | refine q_ordS ?_ | refine q_tuple_tup ?_ | refine qEq_int ?_)))
  refine ⟨_, ⟨s, a, b, d, (dS ns).length, rfl, hs, by rw [dS_len]; exact x.v.pos, by rw [dS_len]; have := x.v.few; omega, rfl⟩, ?_⟩
  rintro _ _ ⟨k, a, b, d, rfl, hk, rfl⟩
  rw [dS_len] at hk
  have cu := cu.set a b d
  have x1 := x.cur cu
  show t_L_other_names_right_8 K c _ _ _ _
  unfold t_L_other_names_right_8
  (with_reducible (repeat (first | (first | refine w_var rfl ?_ | refine w_c ?_ | refine w_op ?_ | refine w_un ?_ | refine w_cl ?_ | refine w_nil ?_ | refine w_cons ?_ | refine w_tup ?_ | refine w_lst ?_ | refine w_test ?_ | refine w_not ?_ | refine w_and ?_ | refine w_or ?_ | refine w_andV ?_ | refine w_orV ?_ | refine w_notV ?_ | refine w_if ?_ | refine w_chn ?_ | refine w_call ?_ | refine w_make ?_ | refine w_fld ?_ | refine w_ml ?_ | refine w_ml0 ?_ | refine w_sl ?_ | refine w_slD ?_ | refine w_noPart ?_ | refine w_part ?_ | refine w_dictZ ?_ | refine w_lcA ?_ | refine w_ret ?_ | refine w_rt ?_ | refine w_ifS ?_ | refine w_next ?_ | refine w_break ?_ | refine w_cont ?_ | refine w_seq ?_ | refine w_asg ?_ | refine w_drop ?_ | refine w_par ?_ | refine w_sfld ?_ | refine w_asgT ?_ | refine w_gset ?_ | refine w_gname ?_ | refine w_gtup rfl ?_ | refine w_gcons ?_ | refine w_gnil ?_ | refine w_yes ?_) | refine w_bl ?_ | refine w_int ?_ | refine w_T ?_ | refine w_F ?_ | refine w_nT ?_ | refine w_nF ?_ | refine q_len_tup ?_ | refine q_int ?_ | refine q_intB ?_ | refine q_add ?_ | refine q_sub ?_ | refine q_neg ?_ | refine q_ord ?_ | refine q_ordS ?_ | refine q_tuple_tup ?_ | refine qEq_int ?_)))
  refine q_sl_ad x1.hp fun l1 hl1 => ?_
  rw [cut_take]
  have cu1 := cu.new (o := .lst ((dS ns).take k)) hl1
  (with_reducible (repeat (first | (first | refine w_var rfl ?_ | refine w_c ?_ | refine w_op ?_ | refine w_un ?_ | refine w_cl ?_ | refine w_nil ?_ | refine w_cons ?_ | refine w_tup ?_ | refine w_lst ?_ | refine w_test ?_ | refine w_not ?_ | refine w_and ?_ | refine w_or ?_ | refine w_andV ?_ | refine w_orV ?_ | refine w_notV ?_ | refine w_if ?_ | refine w_chn ?_ | refine w_call ?_ | refine w_make ?_ | refine w_fld ?_ | refine w_ml ?_ | refine w_ml0 ?_ | refine w_sl ?_ | refine w_slD ?_ | refine w_noPart ?_ | refine w_part ?_ | refine w_dictZ ?_ | refine w_lcA ?_ | refine w_ret ?_ | refine w_rt ?_ | refine w_ifS ?_ | refine w_next ?_ | refine w_break ?_ | refine w_cont ?_ | refine w_seq ?_ | refine w_asg ?_ | refine w_drop ?_ | refine w_par ?_ | refine w_sfld ?_ | refine w_asgT ?_ | refine w_gset ?_ | refine w_gname ?_ | refine w_gtup rfl ?_ | refine w_gcons ?_ | refine w_gnil ?_ | refine w_yes ?_) | refine w_bl ?_ | refine w_int ?_ | refine w_T ?_ | refine w_F ?_ | refine w_nT ?_ | refine w_nF ?_ | refine q_len_tup ?_ | refine q_int ?_ | refine q_intB ?_ | refine q_add ?_ | refine q_sub ?_ | refine q_neg ?_ | refine q_ord ?_ | refine q_ordS ?_ | refine q_tuple_tup ?_ | refine qEq_int ?_)))
  refine ⟨by show 1 ≤ sizeLine; decide, fun l2 hl2 => ?_⟩
  have cu2 := cu1.new (o := .lst [.str w]) hl2
  refine q_addL (HSub.new hl2 _ _ up_same) up_same (by rw [List.length_take, dS_len]; exact size_ge (by have := x.v.few; show _ + 1 ≤ 4000; omega)) fun l3 hl3 => ?_
  have cu3 := cu2.new (o := .lst ((dS ns).take k ++ [.str w])) hl3
  have x3 := x.cur cu3
  (with_reducible (repeat (first | (first | refine w_var rfl ?_ | refine w_c ?_ | refine w_op ?_ | refine w_un ?_ | refine w_cl ?_ | refine w_nil ?_ | refine w_cons ?_ | refine w_tup ?_ | refine w_lst ?_ | refine w_test ?_ | refine w_not ?_ | refine w_and ?_ | refine w_or ?_ | refine w_andV ?_ | refine w_orV ?_ | refine w_notV ?_ | refine w_if ?_ | refine w_chn ?_ | refine w_call ?_ | refine w_make ?_ | refine w_fld ?_ | refine w_ml ?_ | refine w_ml0 ?_ | refine w_sl ?_ | refine w_slD ?_ | refine w_noPart ?_ | refine w_part ?_ | refine w_dictZ ?_ | refine w_lcA ?_ | refine w_ret ?_ | refine w_rt ?_ | refine w_ifS ?_ | refine w_next ?_ | refine w_break ?_ | refine w_cont ?_ | refine w_seq ?_ | refine w_asg ?_ | refine w_drop ?_ | refine w_par ?_ | refine w_sfld ?_ | refine w_asgT ?_ | refine w_gset ?_ | refine w_gname ?_ | refine w_gtup rfl ?_ | refine w_gcons ?_ | refine w_gnil ?_ | refine w_yes ?_) | refine w_bl ?_ | refine w_int ?_ | refine w_T ?_ | refine w_F ?_ | refine w_nT ?_ | refine w_nF ?_ | refine q_len_tup ?_ | refine q_int ?_ | refine q_intB ?_ | refine q_add ?_ | refine q_sub ?_ | refine q_neg ?_ | refine q_ord ?_ | refine q_ordS ?_ | refine q_tuple_tup ?_ | refine qEq_int ?_)))
  refine q_sl_ad x3.hp fun l4 hl4 => ?_
  have ecut : cutL (dS ns) (some ((k : Int) + 1)) none = (dS ns).drop (k + 1) := cut_drop (dS ns) (k + 1)
  rw [ecut]
  have cu4 := cu3.new (o := .lst ((dS ns).drop (k + 1))) hl4
  refine q_addL (HSub.new hl4 _ _ up_same) up_same (by rw [List.length_append, List.length_take, List.length_drop, dS_len]; exact size_ge (by have := x.v.few; show _ + 1 + _ ≤ 4000; omega)) fun l5 hl5 => ?_
  have eq : (dS ns).take k ++ [.str w] ++ (dS ns).drop (k + 1) = dS (ns.map fun a => if a = ns[k] then w else a) := by
    rw [← set_map x.v.nd hk]; unfold dS; rw [List.map_append, List.map_append, List.map_take, List.map_drop]; rfl
  rw [eq]
  generalize hf : (fun a => if a = ns[k] then w else a) = f
  have inj : ∀ a ∈ ns, ∀ b ∈ ns, f a = f b → a = b := by
    intro a ha b hb e
    subst hf
    by_cases h1 : a = ns[k] <;> by_cases h2 : b = ns[k]
    · rw [h1, h2]
    · simp only [if_pos h1, if_neg h2] at e; exact absurd (by rw [e]; exact hb) hn
    · simp only [if_neg h1, if_pos h2] at e; exact absurd (by rw [← e]; exact ha) hn
    · simpa only [if_neg h1, if_neg h2] using e
  have nmf : ∀ a ∈ ns, isName (f a) = true := fun a ha => by
    subst hf
    by_cases h1 : a = ns[k]
    · simp only [if_pos h1]; exact nw
    · simp only [if_neg h1]; exact x.v.name a ha
  have wm : w ∈ ns.map f := by
    refine List.mem_map.mpr ⟨ns[k], List.getElem_mem hk, ?_⟩
    subst hf; simp
  have nne : ns ≠ ns.map f := fun e => hn (by rw [e]; exact wm)
  have v2 := x.v.map inj nmf
  have e2 := x.e.map inj
  have cu5 := cu4.new (o := .lst (dS (ns.map f))) hl5
  have x5 := x.cur cu5
  show t_L_other_names_right_7 K c _ _ _ _
  unfold t_L_other_names_right_7
  (with_reducible (repeat (first | (first | refine w_var rfl ?_ | refine w_c ?_ | refine w_op ?_ | refine w_un ?_ | refine w_cl ?_ | refine w_nil ?_ | refine w_cons ?_ | refine w_tup ?_ | refine w_lst ?_ | refine w_test ?_ | refine w_not ?_ | refine w_and ?_ | refine w_or ?_ | refine w_andV ?_ | refine w_orV ?_ | refine w_notV ?_ | refine w_if ?_ | refine w_chn ?_ | refine w_call ?_ | refine w_make ?_ | refine w_fld ?_ | refine w_ml ?_ | refine w_ml0 ?_ | refine w_sl ?_ | refine w_slD ?_ | refine w_noPart ?_ | refine w_part ?_ | refine w_dictZ ?_ | refine w_lcA ?_ | refine w_ret ?_ | refine w_rt ?_ | refine w_ifS ?_ | refine w_next ?_ | refine w_break ?_ | refine w_cont ?_ | refine w_seq ?_ | refine w_asg ?_ | refine w_drop ?_ | refine w_par ?_ | refine w_sfld ?_ | refine w_asgT ?_ | refine w_gset ?_ | refine w_gname ?_ | refine w_gtup rfl ?_ | refine w_gcons ?_ | refine w_gnil ?_ | refine w_yes ?_) | refine w_bl ?_ | refine w_int ?_ | refine w_T ?_ | refine w_F ?_ | refine w_nT ?_ | refine w_nF ?_ | refine q_len_tup ?_ | refine q_int ?_ | refine q_intB ?_ | refine q_add ?_ | refine q_sub ?_ | refine q_neg ?_ | refine q_ord ?_ | refine q_ordS ?_ | refine q_tuple_tup ?_ | refine qEq_int ?_)))
  refine ⟨p, l5, ns.map fun a => (Sum.inr a : Key), dS (ns.map f), rfl, ?_, up_same, ?_⟩
  · rw [List.map_map]; exact x5.hp
  rw [tab_of x.v.nd]
  intro dd hdd
  have cu6 := cu5.new (o := .dic (tab f ns)) hdd
  have x6 := x.cur cu6
  have h5 := HSub.new (o := .dic (tab f ns)) hdd l5 _ up_same
  (with_reducible (repeat (first | (first | refine w_var rfl ?_ | refine w_c ?_ | refine w_op ?_ | refine w_un ?_ | refine w_cl ?_ | refine w_nil ?_ | refine w_cons ?_ | refine w_tup ?_ | refine w_lst ?_ | refine w_test ?_ | refine w_not ?_ | refine w_and ?_ | refine w_or ?_ | refine w_andV ?_ | refine w_orV ?_ | refine w_notV ?_ | refine w_if ?_ | refine w_chn ?_ | refine w_call ?_ | refine w_make ?_ | refine w_fld ?_ | refine w_ml ?_ | refine w_ml0 ?_ | refine w_sl ?_ | refine w_slD ?_ | refine w_noPart ?_ | refine w_part ?_ | refine w_dictZ ?_ | refine w_lcA ?_ | refine w_ret ?_ | refine w_rt ?_ | refine w_ifS ?_ | refine w_next ?_ | refine w_break ?_ | refine w_cont ?_ | refine w_seq ?_ | refine w_asg ?_ | refine w_drop ?_ | refine w_par ?_ | refine w_sfld ?_ | refine w_asgT ?_ | refine w_gset ?_ | refine w_gname ?_ | refine w_gtup rfl ?_ | refine w_gcons ?_ | refine w_gnil ?_ | refine w_yes ?_) | refine w_bl ?_ | refine w_int ?_ | refine w_T ?_ | refine w_F ?_ | refine w_nT ?_ | refine w_nF ?_ | refine q_len_tup ?_ | refine q_int ?_ | refine q_intB ?_ | refine q_add ?_ | refine q_sub ?_ | refine q_neg ?_ | refine q_ord ?_ | refine q_ordS ?_ | refine q_tuple_tup ?_ | refine qEq_int ?_)))
  unfold t_L_other_names_right_6
  (with_reducible (repeat (first | (first | refine w_var rfl ?_ | refine w_c ?_ | refine w_op ?_ | refine w_un ?_ | refine w_cl ?_ | refine w_nil ?_ | refine w_cons ?_ | refine w_tup ?_ | refine w_lst ?_ | refine w_test ?_ | refine w_not ?_ | refine w_and ?_ | refine w_or ?_ | refine w_andV ?_ | refine w_orV ?_ | refine w_notV ?_ | refine w_if ?_ | refine w_chn ?_ | refine w_call ?_ | refine w_make ?_ | refine w_fld ?_ | refine w_ml ?_ | refine w_ml0 ?_ | refine w_sl ?_ | refine w_slD ?_ | refine w_noPart ?_ | refine w_part ?_ | refine w_dictZ ?_ | refine w_lcA ?_ | refine w_ret ?_ | refine w_rt ?_ | refine w_ifS ?_ | refine w_next ?_ | refine w_break ?_ | refine w_cont ?_ | refine w_seq ?_ | refine w_asg ?_ | refine w_drop ?_ | refine w_par ?_ | refine w_sfld ?_ | refine w_asgT ?_ | refine w_gset ?_ | refine w_gname ?_ | refine w_gtup rfl ?_ | refine w_gcons ?_ | refine w_gnil ?_ | refine w_yes ?_) | refine w_bl ?_ | refine w_int ?_ | refine w_T ?_ | refine w_F ?_ | refine w_nT ?_ | refine w_nF ?_ | refine q_len_tup ?_ | refine q_int ?_ | refine q_intB ?_ | refine q_add ?_ | refine q_sub ?_ | refine q_neg ?_ | refine q_ord ?_ | refine q_ordS ?_ | refine q_tuple_tup ?_ | refine qEq_int ?_)))
  refine lc_at (xs := dEs es) (.ad x6.hr) (by rw [dEs_len]; exact size_ge (by have := x.e.few; omega)) (fun _ => true) (mapE fun e => dEdge (f e.1, f e.2)) (fun y hy => ?_) (fun m hm => ?_)
  · obtain ⟨e, he, rfl⟩ := List.mem_map.mp hy
    intro G2 s2 N A _ hA
    have hd2 := s2 _ _ (up_same (a := dd) (o := .dic (tab f ns)))
    (with_reducible (repeat (first | (first | refine w_var rfl ?_ | refine w_c ?_ | refine w_op ?_ | refine w_un ?_ | refine w_cl ?_ | refine w_nil ?_ | refine w_cons ?_ | refine w_tup ?_ | refine w_lst ?_ | refine w_test ?_ | refine w_not ?_ | refine w_and ?_ | refine w_or ?_ | refine w_andV ?_ | refine w_orV ?_ | refine w_notV ?_ | refine w_if ?_ | refine w_chn ?_ | refine w_call ?_ | refine w_make ?_ | refine w_fld ?_ | refine w_ml ?_ | refine w_ml0 ?_ | refine w_sl ?_ | refine w_slD ?_ | refine w_noPart ?_ | refine w_part ?_ | refine w_dictZ ?_ | refine w_lcA ?_ | refine w_ret ?_ | refine w_rt ?_ | refine w_ifS ?_ | refine w_next ?_ | refine w_break ?_ | refine w_cont ?_ | refine w_seq ?_ | refine w_asg ?_ | refine w_drop ?_ | refine w_par ?_ | refine w_sfld ?_ | refine w_asgT ?_ | refine w_gset ?_ | refine w_gname ?_ | refine w_gtup rfl ?_ | refine w_gcons ?_ | refine w_gnil ?_ | refine w_yes ?_) | refine w_bl ?_ | refine w_int ?_ | refine w_T ?_ | refine w_F ?_ | refine w_nT ?_ | refine w_nF ?_ | refine q_len_tup ?_ | refine q_int ?_ | refine q_intB ?_ | refine q_add ?_ | refine q_sub ?_ | refine q_neg ?_ | refine q_ord ?_ | refine q_ordS ?_ | refine q_tuple_tup ?_ | refine qEq_int ?_)))
    refine q_ix_dic hd2 rfl (tab_get (x.e.ends e he).1) ?_
    (with_reducible (repeat (first | (first | refine w_var rfl ?_ | refine w_c ?_ | refine w_op ?_ | refine w_un ?_ | refine w_cl ?_ | refine w_nil ?_ | refine w_cons ?_ | refine w_tup ?_ | refine w_lst ?_ | refine w_test ?_ | refine w_not ?_ | refine w_and ?_ | refine w_or ?_ | refine w_andV ?_ | refine w_orV ?_ | refine w_notV ?_ | refine w_if ?_ | refine w_chn ?_ | refine w_call ?_ | refine w_make ?_ | refine w_fld ?_ | refine w_ml ?_ | refine w_ml0 ?_ | refine w_sl ?_ | refine w_slD ?_ | refine w_noPart ?_ | refine w_part ?_ | refine w_dictZ ?_ | refine w_lcA ?_ | refine w_ret ?_ | refine w_rt ?_ | refine w_ifS ?_ | refine w_next ?_ | refine w_break ?_ | refine w_cont ?_ | refine w_seq ?_ | refine w_asg ?_ | refine w_drop ?_ | refine w_par ?_ | refine w_sfld ?_ | refine w_asgT ?_ | refine w_gset ?_ | refine w_gname ?_ | refine w_gtup rfl ?_ | refine w_gcons ?_ | refine w_gnil ?_ | refine w_yes ?_) | refine w_bl ?_ | refine w_int ?_ | refine w_T ?_ | refine w_F ?_ | refine w_nT ?_ | refine w_nF ?_ | refine q_len_tup ?_ | refine q_int ?_ | refine q_intB ?_ | refine q_add ?_ | refine q_sub ?_ | refine q_neg ?_ | refine q_ord ?_ | refine q_ordS ?_ | refine q_tuple_tup ?_ | refine qEq_int ?_)))
    refine q_ix_dic hd2 rfl (tab_get (x.e.ends e he).2.1) ?_
    (with_reducible (repeat (first | (first | refine w_var rfl ?_ | refine w_c ?_ | refine w_op ?_ | refine w_un ?_ | refine w_cl ?_ | refine w_nil ?_ | refine w_cons ?_ | refine w_tup ?_ | refine w_lst ?_ | refine w_test ?_ | refine w_not ?_ | refine w_and ?_ | refine w_or ?_ | refine w_andV ?_ | refine w_orV ?_ | refine w_notV ?_ | refine w_if ?_ | refine w_chn ?_ | refine w_call ?_ | refine w_make ?_ | refine w_fld ?_ | refine w_ml ?_ | refine w_ml0 ?_ | refine w_sl ?_ | refine w_slD ?_ | refine w_noPart ?_ | refine w_part ?_ | refine w_dictZ ?_ | refine w_lcA ?_ | refine w_ret ?_ | refine w_rt ?_ | refine w_ifS ?_ | refine w_next ?_ | refine w_break ?_ | refine w_cont ?_ | refine w_seq ?_ | refine w_asg ?_ | refine w_drop ?_ | refine w_par ?_ | refine w_sfld ?_ | refine w_asgT ?_ | refine w_gset ?_ | refine w_gname ?_ | refine w_gtup rfl ?_ | refine w_gcons ?_ | refine w_gnil ?_ | refine w_yes ?_) | refine w_bl ?_ | refine w_int ?_ | refine w_T ?_ | refine w_F ?_ | refine w_nT ?_ | refine w_nF ?_ | refine q_len_tup ?_ | refine q_int ?_ | refine q_intB ?_ | refine q_add ?_ | refine q_sub ?_ | refine q_neg ?_ | refine q_ord ?_ | refine q_ordS ?_ | refine q_tuple_tup ?_ | refine qEq_int ?_)))
    exact ⟨by show 2 ≤ sizeLine; decide, hA rfl _ (HSub.refl _)⟩
  · rw [List.filter_eq_self.mpr (by intros; rfl), map_dEs (f := fun e => (f e.1, f e.2))]
    have cu7 := cu6.new (o := .lst (dEs (es.map fun e => (f e.1, f e.2)))) hm
    have h5 := HSub.new (o := .lst (dEs (es.map fun e => (f e.1, f e.2)))) hm _ _ h5
    (with_reducible (repeat (first | (first | refine w_var rfl ?_ | refine w_c ?_ | refine w_op ?_ | refine w_un ?_ | refine w_cl ?_ | refine w_nil ?_ | refine w_cons ?_ | refine w_tup ?_ | refine w_lst ?_ | refine w_test ?_ | refine w_not ?_ | refine w_and ?_ | refine w_or ?_ | refine w_andV ?_ | refine w_orV ?_ | refine w_notV ?_ | refine w_if ?_ | refine w_chn ?_ | refine w_call ?_ | refine w_make ?_ | refine w_fld ?_ | refine w_ml ?_ | refine w_ml0 ?_ | refine w_sl ?_ | refine w_slD ?_ | refine w_noPart ?_ | refine w_part ?_ | refine w_dictZ ?_ | refine w_lcA ?_ | refine w_ret ?_ | refine w_rt ?_ | refine w_ifS ?_ | refine w_next ?_ | refine w_break ?_ | refine w_cont ?_ | refine w_seq ?_ | refine w_asg ?_ | refine w_drop ?_ | refine w_par ?_ | refine w_sfld ?_ | refine w_asgT ?_ | refine w_gset ?_ | refine w_gname ?_ | refine w_gtup rfl ?_ | refine w_gcons ?_ | refine w_gnil ?_ | refine w_yes ?_) | refine w_bl ?_ | refine w_int ?_ | refine w_T ?_ | refine w_F ?_ | refine w_nT ?_ | refine w_nF ?_ | refine q_len_tup ?_ | refine q_int ?_ | refine q_intB ?_ | refine q_add ?_ | refine q_sub ?_ | refine q_neg ?_ | refine q_ord ?_ | refine q_ordS ?_ | refine q_tuple_tup ?_ | refine qEq_int ?_)))
    unfold t_L_other_names_right_5
    (with_reducible (repeat (first | (first | refine w_var rfl ?_ | refine w_c ?_ | refine w_op ?_ | refine w_un ?_ | refine w_cl ?_ | refine w_nil ?_ | refine w_cons ?_ | refine w_tup ?_ | refine w_lst ?_ | refine w_test ?_ | refine w_not ?_ | refine w_and ?_ | refine w_or ?_ | refine w_andV ?_ | refine w_orV ?_ | refine w_notV ?_ | refine w_if ?_ | refine w_chn ?_ | refine w_call ?_ | refine w_make ?_ | refine w_fld ?_ | refine w_ml ?_ | refine w_ml0 ?_ | refine w_sl ?_ | refine w_slD ?_ | refine w_noPart ?_ | refine w_part ?_ | refine w_dictZ ?_ | refine w_lcA ?_ | refine w_ret ?_ | refine w_rt ?_ | refine w_ifS ?_ | refine w_next ?_ | refine w_break ?_ | refine w_cont ?_ | refine w_seq ?_ | refine w_asg ?_ | refine w_drop ?_ | refine w_par ?_ | refine w_sfld ?_ | refine w_asgT ?_ | refine w_gset ?_ | refine w_gname ?_ | refine w_gtup rfl ?_ | refine w_gcons ?_ | refine w_gnil ?_ | refine w_yes ?_) | refine w_bl ?_ | refine w_int ?_ | refine w_T ?_ | refine w_F ?_ | refine w_nT ?_ | refine w_nF ?_ | refine q_len_tup ?_ | refine q_int ?_ | refine q_intB ?_ | refine q_add ?_ | refine q_sub ?_ | refine q_neg ?_ | refine q_ord ?_ | refine q_ordS ?_ | refine q_tuple_tup ?_ | refine qEq_int ?_)))
    refine lc_at (xs := dEs (es.map fun e => (f e.1, f e.2))) (.ad up_same) (by rw [dEs_len, List.length_map]; exact size_ge (by have := x.e.few; omega)) (fun _ => true) (mapE fun e => dEdge (mm e)) (fun y hy => ?_) (fun m2 hm2 => ?_)
    · obtain ⟨e, he, rfl⟩ := List.mem_map.mp hy
      intro G2 s2 N A _ hA
      (with_reducible (repeat (first | (first | refine w_var rfl ?_ | refine w_c ?_ | refine w_op ?_ | refine w_un ?_ | refine w_cl ?_ | refine w_nil ?_ | refine w_cons ?_ | refine w_tup ?_ | refine w_lst ?_ | refine w_test ?_ | refine w_not ?_ | refine w_and ?_ | refine w_or ?_ | refine w_andV ?_ | refine w_orV ?_ | refine w_notV ?_ | refine w_if ?_ | refine w_chn ?_ | refine w_call ?_ | refine w_make ?_ | refine w_fld ?_ | refine w_ml ?_ | refine w_ml0 ?_ | refine w_sl ?_ | refine w_slD ?_ | refine w_noPart ?_ | refine w_part ?_ | refine w_dictZ ?_ | refine w_lcA ?_ | refine w_ret ?_ | refine w_rt ?_ | refine w_ifS ?_ | refine w_next ?_ | refine w_break ?_ | refine w_cont ?_ | refine w_seq ?_ | refine w_asg ?_ | refine w_drop ?_ | refine w_par ?_ | refine w_sfld ?_ | refine w_asgT ?_ | refine w_gset ?_ | refine w_gname ?_ | refine w_gtup rfl ?_ | refine w_gcons ?_ | refine w_gnil ?_ | refine w_yes ?_) | refine w_bl ?_ | refine w_int ?_ | refine w_T ?_ | refine w_F ?_ | refine w_nT ?_ | refine w_nF ?_ | refine q_len_tup ?_ | refine q_int ?_ | refine q_intB ?_ | refine q_add ?_ | refine q_sub ?_ | refine q_neg ?_ | refine q_ord ?_ | refine q_ordS ?_ | refine q_tuple_tup ?_ | refine qEq_int ?_)))
      refine q_min2 ?_
      (with_reducible (repeat (first | (first | refine w_var rfl ?_ | refine w_c ?_ | refine w_op ?_ | refine w_un ?_ | refine w_cl ?_ | refine w_nil ?_ | refine w_cons ?_ | refine w_tup ?_ | refine w_lst ?_ | refine w_test ?_ | refine w_not ?_ | refine w_and ?_ | refine w_or ?_ | refine w_andV ?_ | refine w_orV ?_ | refine w_notV ?_ | refine w_if ?_ | refine w_chn ?_ | refine w_call ?_ | refine w_make ?_ | refine w_fld ?_ | refine w_ml ?_ | refine w_ml0 ?_ | refine w_sl ?_ | refine w_slD ?_ | refine w_noPart ?_ | refine w_part ?_ | refine w_dictZ ?_ | refine w_lcA ?_ | refine w_ret ?_ | refine w_rt ?_ | refine w_ifS ?_ | refine w_next ?_ | refine w_break ?_ | refine w_cont ?_ | refine w_seq ?_ | refine w_asg ?_ | refine w_drop ?_ | refine w_par ?_ | refine w_sfld ?_ | refine w_asgT ?_ | refine w_gset ?_ | refine w_gname ?_ | refine w_gtup rfl ?_ | refine w_gcons ?_ | refine w_gnil ?_ | refine w_yes ?_) | refine w_bl ?_ | refine w_int ?_ | refine w_T ?_ | refine w_F ?_ | refine w_nT ?_ | refine w_nF ?_ | refine q_len_tup ?_ | refine q_int ?_ | refine q_intB ?_ | refine q_add ?_ | refine q_sub ?_ | refine q_neg ?_ | refine q_ord ?_ | refine q_ordS ?_ | refine q_tuple_tup ?_ | refine qEq_int ?_)))
      refine q_max2 ?_
      (with_reducible (repeat (first | (first | refine w_var rfl ?_ | refine w_c ?_ | refine w_op ?_ | refine w_un ?_ | refine w_cl ?_ | refine w_nil ?_ | refine w_cons ?_ | refine w_tup ?_ | refine w_lst ?_ | refine w_test ?_ | refine w_not ?_ | refine w_and ?_ | refine w_or ?_ | refine w_andV ?_ | refine w_orV ?_ | refine w_notV ?_ | refine w_if ?_ | refine w_chn ?_ | refine w_call ?_ | refine w_make ?_ | refine w_fld ?_ | refine w_ml ?_ | refine w_ml0 ?_ | refine w_sl ?_ | refine w_slD ?_ | refine w_noPart ?_ | refine w_part ?_ | refine w_dictZ ?_ | refine w_lcA ?_ | refine w_ret ?_ | refine w_rt ?_ | refine w_ifS ?_ | refine w_next ?_ | refine w_break ?_ | refine w_cont ?_ | refine w_seq ?_ | refine w_asg ?_ | refine w_drop ?_ | refine w_par ?_ | refine w_sfld ?_ | refine w_asgT ?_ | refine w_gset ?_ | refine w_gname ?_ | refine w_gtup rfl ?_ | refine w_gcons ?_ | refine w_gnil ?_ | refine w_yes ?_) | refine w_bl ?_ | refine w_int ?_ | refine w_T ?_ | refine w_F ?_ | refine w_nT ?_ | refine w_nF ?_ | refine q_len_tup ?_ | refine q_int ?_ | refine q_intB ?_ | refine q_add ?_ | refine q_sub ?_ | refine q_neg ?_ | refine q_ord ?_ | refine q_ordS ?_ | refine q_tuple_tup ?_ | refine qEq_int ?_)))
      exact ⟨by show 2 ≤ sizeLine; decide, hA rfl _ (HSub.refl _)⟩
    · rw [List.filter_eq_self.mpr (by intros; rfl), map_dEs (f := mm), List.map_map]
      have cu8 := cu7.new (o := .lst (dEs (es.map (mm ∘ fun e => (f e.1, f e.2))))) hm2
      have h5 := HSub.new (o := .lst (dEs (es.map (mm ∘ fun e => (f e.1, f e.2))))) hm2 _ _ h5
      (with_reducible (repeat (first | (first | refine w_var rfl ?_ | refine w_c ?_ | refine w_op ?_ | refine w_un ?_ | refine w_cl ?_ | refine w_nil ?_ | refine w_cons ?_ | refine w_tup ?_ | refine w_lst ?_ | refine w_test ?_ | refine w_not ?_ | refine w_and ?_ | refine w_or ?_ | refine w_andV ?_ | refine w_orV ?_ | refine w_notV ?_ | refine w_if ?_ | refine w_chn ?_ | refine w_call ?_ | refine w_make ?_ | refine w_fld ?_ | refine w_ml ?_ | refine w_ml0 ?_ | refine w_sl ?_ | refine w_slD ?_ | refine w_noPart ?_ | refine w_part ?_ | refine w_dictZ ?_ | refine w_lcA ?_ | refine w_ret ?_ | refine w_rt ?_ | refine w_ifS ?_ | refine w_next ?_ | refine w_break ?_ | refine w_cont ?_ | refine w_seq ?_ | refine w_asg ?_ | refine w_drop ?_ | refine w_par ?_ | refine w_sfld ?_ | refine w_asgT ?_ | refine w_gset ?_ | refine w_gname ?_ | refine w_gtup rfl ?_ | refine w_gcons ?_ | refine w_gnil ?_ | refine w_yes ?_) | refine w_bl ?_ | refine w_int ?_ | refine w_T ?_ | refine w_F ?_ | refine w_nT ?_ | refine w_nF ?_ | refine q_len_tup ?_ | refine q_int ?_ | refine q_intB ?_ | refine q_add ?_ | refine q_sub ?_ | refine q_neg ?_ | refine q_ord ?_ | refine q_ordS ?_ | refine q_tuple_tup ?_ | refine qEq_int ?_)))
      refine q_make (ns := ns.map f) (es := es.map fun e => mm (f e.1, f e.2)) (.inl ⟨l5, rfl, h5⟩) (.inl ⟨m2, rfl, up_same⟩) v2 e2 fun g2 hg2 => ?_
      have cu9 := cu8.new (o := .ins c.cGraph (gFs (ns.map f) (es.map fun e => mm (f e.1, f e.2)))) hg2
      have x9 := x.cur cu9
      show t_L_other_names_right_4 K c _ _ _ _
      unfold t_L_other_names_right_4
      (with_reducible (repeat (first | (first | refine w_var rfl ?_ | refine w_c ?_ | refine w_op ?_ | refine w_un ?_ | refine w_cl ?_ | refine w_nil ?_ | refine w_cons ?_ | refine w_tup ?_ | refine w_lst ?_ | refine w_test ?_ | refine w_not ?_ | refine w_and ?_ | refine w_or ?_ | refine w_andV ?_ | refine w_orV ?_ | refine w_notV ?_ | refine w_if ?_ | refine w_chn ?_ | refine w_call ?_ | refine w_make ?_ | refine w_fld ?_ | refine w_ml ?_ | refine w_ml0 ?_ | refine w_sl ?_ | refine w_slD ?_ | refine w_noPart ?_ | refine w_part ?_ | refine w_dictZ ?_ | refine w_lcA ?_ | refine w_ret ?_ | refine w_rt ?_ | refine w_ifS ?_ | refine w_next ?_ | refine w_break ?_ | refine w_cont ?_ | refine w_seq ?_ | refine w_asg ?_ | refine w_drop ?_ | refine w_par ?_ | refine w_sfld ?_ | refine w_asgT ?_ | refine w_gset ?_ | refine w_gname ?_ | refine w_gtup rfl ?_ | refine w_gcons ?_ | refine w_gnil ?_ | refine w_yes ?_) | refine w_bl ?_ | refine w_int ?_ | refine w_T ?_ | refine w_F ?_ | refine w_nT ?_ | refine w_nF ?_ | refine q_len_tup ?_ | refine q_int ?_ | refine q_intB ?_ | refine q_add ?_ | refine q_sub ?_ | refine q_neg ?_ | refine q_ord ?_ | refine q_ordS ?_ | refine q_tuple_tup ?_ | refine qEq_int ?_)))
      refine q_eqG_no gf x9.hg up_same x.v x.e v2 e2 (fun h => nne h.1) ?_
      (with_reducible (repeat (first | (first | refine w_var rfl ?_ | refine w_c ?_ | refine w_op ?_ | refine w_un ?_ | refine w_cl ?_ | refine w_nil ?_ | refine w_cons ?_ | refine w_tup ?_ | refine w_lst ?_ | refine w_test ?_ | refine w_not ?_ | refine w_and ?_ | refine w_or ?_ | refine w_andV ?_ | refine w_orV ?_ | refine w_notV ?_ | refine w_if ?_ | refine w_chn ?_ | refine w_call ?_ | refine w_make ?_ | refine w_fld ?_ | refine w_ml ?_ | refine w_ml0 ?_ | refine w_sl ?_ | refine w_slD ?_ | refine w_noPart ?_ | refine w_part ?_ | refine w_dictZ ?_ | refine w_lcA ?_ | refine w_ret ?_ | refine w_rt ?_ | refine w_ifS ?_ | refine w_next ?_ | refine w_break ?_ | refine w_cont ?_ | refine w_seq ?_ | refine w_asg ?_ | refine w_drop ?_ | refine w_par ?_ | refine w_sfld ?_ | refine w_asgT ?_ | refine w_gset ?_ | refine w_gname ?_ | refine w_gtup rfl ?_ | refine w_gcons ?_ | refine w_gnil ?_ | refine w_yes ?_) | refine w_bl ?_ | refine w_int ?_ | refine w_T ?_ | refine w_F ?_ | refine w_nT ?_ | refine w_nF ?_ | refine q_len_tup ?_ | refine q_int ?_ | refine q_intB ?_ | refine q_add ?_ | refine q_sub ?_ | refine q_neg ?_ | refine q_ord ?_ | refine q_ordS ?_ | refine q_tuple_tup ?_ | refine qEq_int ?_)))
      refine q_eqG_no gf up_same x9.hg v2 e2 x.v x.e (fun h => nne h.1.symm) ?_
      (with_reducible (repeat (first | (first | refine w_var rfl ?_ | refine w_c ?_ | refine w_op ?_ | refine w_un ?_ | refine w_cl ?_ | refine w_nil ?_ | refine w_cons ?_ | refine w_tup ?_ | refine w_lst ?_ | refine w_test ?_ | refine w_not ?_ | refine w_and ?_ | refine w_or ?_ | refine w_andV ?_ | refine w_orV ?_ | refine w_notV ?_ | refine w_if ?_ | refine w_chn ?_ | refine w_call ?_ | refine w_make ?_ | refine w_fld ?_ | refine w_ml ?_ | refine w_ml0 ?_ | refine w_sl ?_ | refine w_slD ?_ | refine w_noPart ?_ | refine w_part ?_ | refine w_dictZ ?_ | refine w_lcA ?_ | refine w_ret ?_ | refine w_rt ?_ | refine w_ifS ?_ | refine w_next ?_ | refine w_break ?_ | refine w_cont ?_ | refine w_seq ?_ | refine w_asg ?_ | refine w_drop ?_ | refine w_par ?_ | refine w_sfld ?_ | refine w_asgT ?_ | refine w_gset ?_ | refine w_gname ?_ | refine w_gtup rfl ?_ | refine w_gcons ?_ | refine w_gnil ?_ | refine w_yes ?_) | refine w_bl ?_ | refine w_int ?_ | refine w_T ?_ | refine w_F ?_ | refine w_nT ?_ | refine w_nF ?_ | refine q_len_tup ?_ | refine q_int ?_ | refine q_intB ?_ | refine q_add ?_ | refine q_sub ?_ | refine q_neg ?_ | refine q_ord ?_ | refine q_ordS ?_ | refine q_tuple_tup ?_ | refine qEq_int ?_)))
      exact nr_3 gf x fin cu9

/-! ### L_alike_right -/
abbrev N_L_alike_right : List Str := ["_law_source", "_law_names", "_law_edges", "_law_graph", "_law_other", "_law_things", "_law_turned", "_law_less", "_law_more", "_law_one_here", "_law_thing", "_law_letter"]
def t_L_alike_right_1 (K : PySem.W.Frag) (c : Ad) : JSt := (jIfS (jNot (jAnd (jTest (jOp (qOwn true K c.cGraph (sp_Graph___eq__ K c)) (jVar 3) (jVar 8))) (jTest (jOp (qOwn true K c.cGraph (sp_Graph___eq__ K c)) (jVar 8) (jVar 3))))) (jRet (jC (.bl false))) jNext)
def t_L_alike_right_2 (K : PySem.W.Frag) (c : Ad) : JSt := (jSeq (jIfS (jOr (jTest (jOp (qOwn false K c.cGraph (sp_Graph___eq__ K c)) (jVar 3) (jVar 8))) (jTest (jOp (qOwn false K c.cGraph (sp_Graph___eq__ K c)) (jVar 8) (jVar 3)))) (jRet (jC (.bl false))) jNext) (t_L_alike_right_1 K c))
def t_L_alike_right_3 (K : PySem.W.Frag) (c : Ad) : JSt := (jRet (jOp (qEq false) (jLc (jiAny (jVar 5)) (jgName 10) (jTest (jOp (qOwn false K c.cGraph (sp_Graph___eq__ K c)) (jVar 3) (jVar 10))) (jVar 10) [10]) (jLst jNil)))
def t_L_alike_right_4 (K : PySem.W.Frag) (c : Ad) : JSt := (jSeq (jAsg (jLst (jCons (jC .non) (jCons (jC (.int 5)) (jCons (jC (.str "graph")) (jCons (jCl qTuple (jCons (jVar 1) jNil)) (jCons (jTup (jCons (jCl qTuple (jCons (jVar 1) jNil)) (jCons (jFld c.cGraph "edges" (jVar 3)) jNil))) (jCons (jLst (jCons (jVar 3) jNil)) jNil))))))) (jgName 5)) (t_L_alike_right_3 K c))
def t_L_alike_right_5 (K : PySem.W.Frag) (c : Ad) : JSt := (jSeq (jIfS (jNot (jTest (jCall (sp_L_other_names_right K c) (jCons (jVar 0) (jCons (jVar 1) (jCons (jVar 2) (jCons (jVar 3) jNil))))))) (jRet (jC (.bl false))) jNext) (t_L_alike_right_4 K c))
def t_L_alike_right_6 (K : PySem.W.Frag) (c : Ad) : JSt := (jSeq (jIfS (jNot (jTest (jCall (sp_L_other_edges_right K c) (jCons (jVar 0) (jCons (jVar 1) (jCons (jVar 2) (jCons (jVar 3) jNil))))))) (jRet (jC (.bl false))) jNext) (t_L_alike_right_5 K c))
def t_L_alike_right_7 (K : PySem.W.Frag) (c : Ad) : JSt := (jSeq (jIfS (jTest (jOp qLt (jCl qLen (jCons (jVar 1) jNil)) (jC (.int 10)))) (jSeq (jAsg (jMake c.cGraph (sp_Graph___init__ K c) (jCons (jOp qAdd (jVar 1) (jLst (jCons (jVar 4) jNil))) (jCons (jVar 2) jNil))) (jgName 8)) (t_L_alike_right_2 K c)) jNext) (t_L_alike_right_6 K c))
def t_L_alike_right_8 (K : PySem.W.Frag) (c : Ad) : JSt := (jSeq (jAsg (jOp qIx2 (jLc (jiAny (jLc (jiAny (jC (.str "abcdefghijk"))) (jgName 11) jYes (jOp qAdd (jC (.str "q")) (jVar 11)) [11])) (jgName 9) (jTest (jOp (qIn2 true) (jVar 9) (jVar 1))) (jVar 9) [9]) (jC (.int 0))) (jgName 4)) (t_L_alike_right_7 K c))
def t_L_alike_right_9 (K : PySem.W.Frag) (c : Ad) : JSt := (jSeq (jIfS (jAnd (jTest (jOp (qEq true) (jVar 2) (jLst jNil))) (jNot (jAnd (jTest (jOp (qOwn true K c.cGraph (sp_Graph___eq__ K c)) (jVar 3) (jVar 7))) (jTest (jOp (qOwn true K c.cGraph (sp_Graph___eq__ K c)) (jVar 7) (jVar 3)))))) (jRet (jC (.bl false))) jNext) (t_L_alike_right_8 K c))
def t_L_alike_right_10 (K : PySem.W.Frag) (c : Ad) : JSt := (jSeq (jIfS (jAnd (jTest (jOp (qEq true) (jVar 2) (jLst jNil))) (jOr (jTest (jOp (qOwn false K c.cGraph (sp_Graph___eq__ K c)) (jVar 3) (jVar 7))) (jTest (jOp (qOwn false K c.cGraph (sp_Graph___eq__ K c)) (jVar 7) (jVar 3))))) (jRet (jC (.bl false))) jNext) (t_L_alike_right_9 K c))
def t_L_alike_right_11 (K : PySem.W.Frag) (c : Ad) : JSt := (jSeq (jIfS (jOr (jTest (jOp (qEq true) (jOp (qOwn false K c.cGraph (sp_Graph___eq__ K c)) (jVar 3) (jVar 6)) (jOp (qEq false) (jCl qLen (jCons (jVar 1) jNil)) (jC (.int 1))))) (jTest (jOp (qEq true) (jOp (qOwn false K c.cGraph (sp_Graph___eq__ K c)) (jVar 6) (jVar 3)) (jOp (qEq false) (jCl qLen (jCons (jVar 1) jNil)) (jC (.int 1)))))) (jRet (jC (.bl false))) jNext) (t_L_alike_right_10 K c))
def t_L_alike_right_12 (K : PySem.W.Frag) (c : Ad) : JSt := (jSeq (jPar 6 7 (jCons (jMake c.cGraph (sp_Graph___init__ K c) (jCons (jSlD (jVar 1) jNoPart (jPart (jUn qNeg (jC (.int 1))))) (jCons (jVar 2) jNil))) (jCons (jMake c.cGraph (sp_Graph___init__ K c) (jCons (jVar 1) (jCons (jSl (jVar 2) (jPart (jC (.int 1))) jNoPart) jNil))) jNil))) (t_L_alike_right_11 K c))
def t_L_alike_right (K : PySem.W.Frag) (c : Ad) : JSt := (jSeq (jIfS (jTest (jOp (qOwn true K c.cGraph (sp_Graph___eq__ K c)) (jVar 3) (jMake c.cGraph (sp_Graph___init__ K c) (jCons (jCl qTuple (jCons (jVar 1) jNil)) (jCons (jCl qTuple (jCons (jCall (sp_L_mixed K c) (jCons (jVar 0) (jCons (jVar 2) jNil))) jNil)) jNil))))) (jRet (jC (.bl false))) jNext) (t_L_alike_right_12 K c))
def sp_L_alike_right (K : PySem.W.Frag) (c : Ad) : Sq := spA fun ws G po => ∃ s p r g ns es, ws = [.ad s, .ad p, .ad r, .ad g] ∧ Ctx c G s p r g ns es ∧ po = fun v G1 => v = .bl true ∧ ∃ a b d, G1 = up G s (so a b d)
theorem mono_L_alike_right {K : PySem.W.Frag} {c : Ad} : MonoSq (sp_L_alike_right K c) := spA.mono
theorem len_L_alike_right {K : PySem.W.Frag} {c : Ad} : ∀ ws G Q E, sp_L_alike_right K c ws G Q E → ws.length = (["_law_source", "_law_names", "_law_edges", "_law_graph"] : List Str).length := by
  rintro _ _ _ _ ⟨_, ⟨_, _, _, _, _, _, rfl, _⟩, _⟩; rfl
section
variable {K : PySem.W.Frag} {c : Ad} {R : JX} {D : JEnds} {G0 G : Hq} {s p r g : Addr} {ns : List Str} {es : List (Str × Str)} {t4 t5 t6 t7 t8 t9 t10 t11 : Option Dv}
theorem ar_4 (gf : GF K c) (cx : Ctx c G0 s p r g ns es) (fin : ∀ G, Cur G0 s G → D.rt (.bl true) G) (cu : Cur G0 s G) : t_L_alike_right_4 K c R D [some (.ad s), some (.ad p), some (.ad r), some (.ad g), t4, t5, t6, t7, t8, t9, t10, t11] G := by
  have x := cx.cur cu
  unfold t_L_alike_right_4
  (with_reducible (repeat (first | (first | refine w_var rfl ?_ | refine w_c ?_ | refine w_op ?_ | refine w_un ?_ | refine w_cl ?_ | refine w_nil ?_ | refine w_cons ?_ | refine w_tup ?_ | refine w_lst ?_ | refine w_test ?_ | refine w_not ?_ | refine w_and ?_ | refine w_or ?_ | refine w_andV ?_ | refine w_orV ?_ | refine w_notV ?_ | refine w_if ?_ | refine w_chn ?_ | refine w_call ?_ | refine w_make ?_ | refine w_fld ?_ | refine w_ml ?_ | refine w_ml0 ?_ | refine w_sl ?_ | refine w_slD ?_ | refine w_noPart ?_ | refine w_part ?_ | refine w_dictZ ?_ | refine w_lcA ?_ | refine w_ret ?_ | refine w_rt ?_ | refine w_ifS ?_ | refine w_next ?_ | refine w_break ?_ | refine w_cont ?_ | refine w_seq ?_ | refine w_asg ?_ | refine w_drop ?_ | refine w_par ?_ | refine w_sfld ?_ | refine w_asgT ?_ | refine w_gset ?_ | refine w_gname ?_ | refine w_gtup rfl ?_ | refine w_gcons ?_ | refine w_gnil ?_ | refine w_yes ?_) | refine w_bl ?_ | refine w_int ?_ | refine w_T ?_ | refine w_F ?_ | refine w_nT ?_ | refine w_nF ?_ | refine q_len_tup ?_ | refine q_int ?_ | refine q_intB ?_ | refine q_add ?_ | refine q_sub ?_ | refine q_neg ?_ | refine q_ord ?_ | refine q_ordS ?_ | refine q_tuple_tup ?_ | refine qEq_int ?_)))
  refine q_tuple_ad x.hp ?_
  (with_reducible (repeat (first | (first | refine w_var rfl ?_ | refine w_c ?_ | refine w_op ?_ | refine w_un ?_ | refine w_cl ?_ | refine w_nil ?_ | refine w_cons ?_ | refine w_tup ?_ | refine w_lst ?_ | refine w_test ?_ | refine w_not ?_ | refine w_and ?_ | refine w_or ?_ | refine w_andV ?_ | refine w_orV ?_ | refine w_notV ?_ | refine w_if ?_ | refine w_chn ?_ | refine w_call ?_ | refine w_make ?_ | refine w_fld ?_ | refine w_ml ?_ | refine w_ml0 ?_ | refine w_sl ?_ | refine w_slD ?_ | refine w_noPart ?_ | refine w_part ?_ | refine w_dictZ ?_ | refine w_lcA ?_ | refine w_ret ?_ | refine w_rt ?_ | refine w_ifS ?_ | refine w_next ?_ | refine w_break ?_ | refine w_cont ?_ | refine w_seq ?_ | refine w_asg ?_ | refine w_drop ?_ | refine w_par ?_ | refine w_sfld ?_ | refine w_asgT ?_ | refine w_gset ?_ | refine w_gname ?_ | refine w_gtup rfl ?_ | refine w_gcons ?_ | refine w_gnil ?_ | refine w_yes ?_) | refine w_bl ?_ | refine w_int ?_ | refine w_T ?_ | refine w_F ?_ | refine w_nT ?_ | refine w_nF ?_ | refine q_len_tup ?_ | refine q_int ?_ | refine q_intB ?_ | refine q_add ?_ | refine q_sub ?_ | refine q_neg ?_ | refine q_ord ?_ | refine q_ordS ?_ | refine q_tuple_tup ?_ | refine qEq_int ?_)))
  refine q_tuple_ad x.hp ?_
  (with_reducible (repeat (first | (first | refine w_var rfl ?_ | refine w_c ?_ | refine w_op ?_ | refine w_un ?_ | refine w_cl ?_ | refine w_nil ?_ | refine w_cons ?_ | refine w_tup ?_ | refine w_lst ?_ | refine w_test ?_ | refine w_not ?_ | refine w_and ?_ | refine w_or ?_ | refine w_andV ?_ | refine w_orV ?_ | refine w_notV ?_ | refine w_if ?_ | refine w_chn ?_ | refine w_call ?_ | refine w_make ?_ | refine w_fld ?_ | refine w_ml ?_ | refine w_ml0 ?_ | refine w_sl ?_ | refine w_slD ?_ | refine w_noPart ?_ | refine w_part ?_ | refine w_dictZ ?_ | refine w_lcA ?_ | refine w_ret ?_ | refine w_rt ?_ | refine w_ifS ?_ | refine w_next ?_ | refine w_break ?_ | refine w_cont ?_ | refine w_seq ?_ | refine w_asg ?_ | refine w_drop ?_ | refine w_par ?_ | refine w_sfld ?_ | refine w_asgT ?_ | refine w_gset ?_ | refine w_gname ?_ | refine w_gtup rfl ?_ | refine w_gcons ?_ | refine w_gnil ?_ | refine w_yes ?_) | refine w_bl ?_ | refine w_int ?_ | refine w_T ?_ | refine w_F ?_ | refine w_nT ?_ | refine w_nF ?_ | refine q_len_tup ?_ | refine q_int ?_ | refine q_intB ?_ | refine q_add ?_ | refine q_sub ?_ | refine q_neg ?_ | refine q_ord ?_ | refine q_ordS ?_ | refine q_tuple_tup ?_ | refine qEq_int ?_)))
  refine ⟨g, _, _, rfl, x.hg, gFs_e, ?_⟩
  (with_reducible (repeat (first | (first | refine w_var rfl ?_ | refine w_c ?_ | refine w_op ?_ | refine w_un ?_ | refine w_cl ?_ | refine w_nil ?_ | refine w_cons ?_ | refine w_tup ?_ | refine w_lst ?_ | refine w_test ?_ | refine w_not ?_ | refine w_and ?_ | refine w_or ?_ | refine w_andV ?_ | refine w_orV ?_ | refine w_notV ?_ | refine w_if ?_ | refine w_chn ?_ | refine w_call ?_ | refine w_make ?_ | refine w_fld ?_ | refine w_ml ?_ | refine w_ml0 ?_ | refine w_sl ?_ | refine w_slD ?_ | refine w_noPart ?_ | refine w_part ?_ | refine w_dictZ ?_ | refine w_lcA ?_ | refine w_ret ?_ | refine w_rt ?_ | refine w_ifS ?_ | refine w_next ?_ | refine w_break ?_ | refine w_cont ?_ | refine w_seq ?_ | refine w_asg ?_ | refine w_drop ?_ | refine w_par ?_ | refine w_sfld ?_ | refine w_asgT ?_ | refine w_gset ?_ | refine w_gname ?_ | refine w_gtup rfl ?_ | refine w_gcons ?_ | refine w_gnil ?_ | refine w_yes ?_) | refine w_bl ?_ | refine w_int ?_ | refine w_T ?_ | refine w_F ?_ | refine w_nT ?_ | refine w_nF ?_ | refine q_len_tup ?_ | refine q_int ?_ | refine q_intB ?_ | refine q_add ?_ | refine q_sub ?_ | refine q_neg ?_ | refine q_ord ?_ | refine q_ordS ?_ | refine q_tuple_tup ?_ | refine qEq_int ?_)))
  refine ⟨by show 2 ≤ sizeLine; decide, ?_⟩
  (with_reducible (repeat (first | (first | refine w_var rfl ?_ | refine w_c ?_ | refine w_op ?_ | refine w_un ?_ | refine w_cl ?_ | refine w_nil ?_ | refine w_cons ?_ | refine w_tup ?_ | refine w_lst ?_ | refine w_test ?_ | refine w_not ?_ | refine w_and ?_ | refine w_or ?_ | refine w_andV ?_ | refine w_orV ?_ | refine w_notV ?_ | refine w_if ?_ | refine w_chn ?_ | refine w_call ?_ | refine w_make ?_ | refine w_fld ?_ | refine w_ml ?_ | refine w_ml0 ?_ | refine w_sl ?_ | refine w_slD ?_ | refine w_noPart ?_ | refine w_part ?_ | refine w_dictZ ?_ | refine w_lcA ?_ | refine w_ret ?_ | refine w_rt ?_ | refine w_ifS ?_ | refine w_next ?_ | refine w_break ?_ | refine w_cont ?_ | refine w_seq ?_ | refine w_asg ?_ | refine w_drop ?_ | refine w_par ?_ | refine w_sfld ?_ | refine w_asgT ?_ | refine w_gset ?_ | refine w_gname ?_ | refine w_gtup rfl ?_ | refine w_gcons ?_ | refine w_gnil ?_ | refine w_yes ?_) | refine w_bl ?_ | refine w_int ?_ | refine w_T ?_ | refine w_F ?_ | refine w_nT ?_ | refine w_nF ?_ | refine q_len_tup ?_ | refine q_int ?_ | refine q_intB ?_ | refine q_add ?_ | refine q_sub ?_ | refine q_neg ?_ | refine q_ord ?_ | refine q_ordS ?_ | refine q_tuple_tup ?_ | refine qEq_int ?_)))
  refine ⟨by show 1 ≤ sizeLine; decide, fun l1 hl1 => ?_⟩
  (with_reducible (repeat (first | (first | refine w_var rfl ?_ | refine w_c ?_ | refine w_op ?_ | refine w_un ?_ | refine w_cl ?_ | refine w_nil ?_ | refine w_cons ?_ | refine w_tup ?_ | refine w_lst ?_ | refine w_test ?_ | refine w_not ?_ | refine w_and ?_ | refine w_or ?_ | refine w_andV ?_ | refine w_orV ?_ | refine w_notV ?_ | refine w_if ?_ | refine w_chn ?_ | refine w_call ?_ | refine w_make ?_ | refine w_fld ?_ | refine w_ml ?_ | refine w_ml0 ?_ | refine w_sl ?_ | refine w_slD ?_ | refine w_noPart ?_ | refine w_part ?_ | refine w_dictZ ?_ | refine w_lcA ?_ | refine w_ret ?_ | refine w_rt ?_ | refine w_ifS ?_ | refine w_next ?_ | refine w_break ?_ | refine w_cont ?_ | refine w_seq ?_ | refine w_asg ?_ | refine w_drop ?_ | refine w_par ?_ | refine w_sfld ?_ | refine w_asgT ?_ | refine w_gset ?_ | refine w_gname ?_ | refine w_gtup rfl ?_ | refine w_gcons ?_ | refine w_gnil ?_ | refine w_yes ?_) | refine w_bl ?_ | refine w_int ?_ | refine w_T ?_ | refine w_F ?_ | refine w_nT ?_ | refine w_nF ?_ | refine q_len_tup ?_ | refine q_int ?_ | refine q_intB ?_ | refine q_add ?_ | refine q_sub ?_ | refine q_neg ?_ | refine q_ord ?_ | refine q_ordS ?_ | refine q_tuple_tup ?_ | refine qEq_int ?_)))
  refine ⟨by show 6 ≤ sizeLine; decide, fun l2 hl2 => ?_⟩
  have hg1 := HSub.new (o := .lst [.ad g]) hl1 _ _ x.hg
  unfold t_L_alike_right_3
  (with_reducible (repeat (first | (first | refine w_var rfl ?_ | refine w_c ?_ | refine w_op ?_ | refine w_un ?_ | refine w_cl ?_ | refine w_nil ?_ | refine w_cons ?_ | refine w_tup ?_ | refine w_lst ?_ | refine w_test ?_ | refine w_not ?_ | refine w_and ?_ | refine w_or ?_ | refine w_andV ?_ | refine w_orV ?_ | refine w_notV ?_ | refine w_if ?_ | refine w_chn ?_ | refine w_call ?_ | refine w_make ?_ | refine w_fld ?_ | refine w_ml ?_ | refine w_ml0 ?_ | refine w_sl ?_ | refine w_slD ?_ | refine w_noPart ?_ | refine w_part ?_ | refine w_dictZ ?_ | refine w_lcA ?_ | refine w_ret ?_ | refine w_rt ?_ | refine w_ifS ?_ | refine w_next ?_ | refine w_break ?_ | refine w_cont ?_ | refine w_seq ?_ | refine w_asg ?_ | refine w_drop ?_ | refine w_par ?_ | refine w_sfld ?_ | refine w_asgT ?_ | refine w_gset ?_ | refine w_gname ?_ | refine w_gtup rfl ?_ | refine w_gcons ?_ | refine w_gnil ?_ | refine w_yes ?_) | refine w_bl ?_ | refine w_int ?_ | refine w_T ?_ | refine w_F ?_ | refine w_nT ?_ | refine w_nF ?_ | refine q_len_tup ?_ | refine q_int ?_ | refine q_intB ?_ | refine q_add ?_ | refine q_sub ?_ | refine q_neg ?_ | refine q_ord ?_ | refine q_ordS ?_ | refine q_tuple_tup ?_ | refine qEq_int ?_)))
  refine lc_at (.ad up_same) (by show 6 ≤ sizeLine; decide) (fun _ => false) (fun y => y) (fun y hy => ?_) (fun l3 hl3 => ?_)
  · intro G2 s2 N A hN _
    have hg2 := s2 _ _ (HSub.new hl2 _ _ hg1)
    have hl12 : G2 l1 = some (.lst [.ad g]) := s2 _ _ (HSub.new hl2 _ _ up_same)
    (with_reducible (repeat (first | (first | refine w_var rfl ?_ | refine w_c ?_ | refine w_op ?_ | refine w_un ?_ | refine w_cl ?_ | refine w_nil ?_ | refine w_cons ?_ | refine w_tup ?_ | refine w_lst ?_ | refine w_test ?_ | refine w_not ?_ | refine w_and ?_ | refine w_or ?_ | refine w_andV ?_ | refine w_orV ?_ | refine w_notV ?_ | refine w_if ?_ | refine w_chn ?_ | refine w_call ?_ | refine w_make ?_ | refine w_fld ?_ | refine w_ml ?_ | refine w_ml0 ?_ | refine w_sl ?_ | refine w_slD ?_ | refine w_noPart ?_ | refine w_part ?_ | refine w_dictZ ?_ | refine w_lcA ?_ | refine w_ret ?_ | refine w_rt ?_ | refine w_ifS ?_ | refine w_next ?_ | refine w_break ?_ | refine w_cont ?_ | refine w_seq ?_ | refine w_asg ?_ | refine w_drop ?_ | refine w_par ?_ | refine w_sfld ?_ | refine w_asgT ?_ | refine w_gset ?_ | refine w_gname ?_ | refine w_gtup rfl ?_ | refine w_gcons ?_ | refine w_gnil ?_ | refine w_yes ?_) | refine w_bl ?_ | refine w_int ?_ | refine w_T ?_ | refine w_F ?_ | refine w_nT ?_ | refine w_nF ?_ | refine q_len_tup ?_ | refine q_int ?_ | refine q_intB ?_ | refine q_add ?_ | refine q_sub ?_ | refine q_neg ?_ | refine q_ord ?_ | refine q_ordS ?_ | refine q_tuple_tup ?_ | refine qEq_int ?_)))
    have ty : ∃ n, n ∈ tyNames ∧ TyD K G2 y (.type n) := by
      rcases List.mem_cons.mp hy with rfl | hy
      · exact ⟨"NoneType", by decide, .non⟩
      rcases List.mem_cons.mp hy with rfl | hy
      · exact ⟨"int", by decide, .int 5⟩
      rcases List.mem_cons.mp hy with rfl | hy
      · exact ⟨"str", by decide, .str _⟩
      rcases List.mem_cons.mp hy with rfl | hy
      · exact ⟨"tuple", by decide, .tup _⟩
      rcases List.mem_cons.mp hy with rfl | hy
      · exact ⟨"tuple", by decide, .tup _⟩
      rcases List.mem_cons.mp hy with rfl | hy
      · exact ⟨"list", by decide, .lst hl12⟩
      · cases hy
    obtain ⟨n, hn, ty⟩ := ty
    refine ⟨g, _, .type n, rfl, hg2, ty, gf.nfo hn, _, ⟨g, y, ns, es, false, rfl, hg2, cx.v, cx.e, .inr ⟨n, hn, ty, rfl⟩, rfl⟩, ?_⟩
    rintro _ _ ⟨rfl, rfl⟩
    refine ⟨false, rfl, ?_⟩
    (with_reducible (repeat (first | (first | refine w_var rfl ?_ | refine w_c ?_ | refine w_op ?_ | refine w_un ?_ | refine w_cl ?_ | refine w_nil ?_ | refine w_cons ?_ | refine w_tup ?_ | refine w_lst ?_ | refine w_test ?_ | refine w_not ?_ | refine w_and ?_ | refine w_or ?_ | refine w_andV ?_ | refine w_orV ?_ | refine w_notV ?_ | refine w_if ?_ | refine w_chn ?_ | refine w_call ?_ | refine w_make ?_ | refine w_fld ?_ | refine w_ml ?_ | refine w_ml0 ?_ | refine w_sl ?_ | refine w_slD ?_ | refine w_noPart ?_ | refine w_part ?_ | refine w_dictZ ?_ | refine w_lcA ?_ | refine w_ret ?_ | refine w_rt ?_ | refine w_ifS ?_ | refine w_next ?_ | refine w_break ?_ | refine w_cont ?_ | refine w_seq ?_ | refine w_asg ?_ | refine w_drop ?_ | refine w_par ?_ | refine w_sfld ?_ | refine w_asgT ?_ | refine w_gset ?_ | refine w_gname ?_ | refine w_gtup rfl ?_ | refine w_gcons ?_ | refine w_gnil ?_ | refine w_yes ?_) | refine w_bl ?_ | refine w_int ?_ | refine w_T ?_ | refine w_F ?_ | refine w_nT ?_ | refine w_nF ?_ | refine q_len_tup ?_ | refine q_int ?_ | refine q_intB ?_ | refine q_add ?_ | refine q_sub ?_ | refine q_neg ?_ | refine q_ord ?_ | refine q_ordS ?_ | refine q_tuple_tup ?_ | refine qEq_int ?_)))
    refine iteF rfl ?_
    exact hN rfl _ (HSub.refl _)
  · (with_reducible (repeat (first | (first | refine w_var rfl ?_ | refine w_c ?_ | refine w_op ?_ | refine w_un ?_ | refine w_cl ?_ | refine w_nil ?_ | refine w_cons ?_ | refine w_tup ?_ | refine w_lst ?_ | refine w_test ?_ | refine w_not ?_ | refine w_and ?_ | refine w_or ?_ | refine w_andV ?_ | refine w_orV ?_ | refine w_notV ?_ | refine w_if ?_ | refine w_chn ?_ | refine w_call ?_ | refine w_make ?_ | refine w_fld ?_ | refine w_ml ?_ | refine w_ml0 ?_ | refine w_sl ?_ | refine w_slD ?_ | refine w_noPart ?_ | refine w_part ?_ | refine w_dictZ ?_ | refine w_lcA ?_ | refine w_ret ?_ | refine w_rt ?_ | refine w_ifS ?_ | refine w_next ?_ | refine w_break ?_ | refine w_cont ?_ | refine w_seq ?_ | refine w_asg ?_ | refine w_drop ?_ | refine w_par ?_ | refine w_sfld ?_ | refine w_asgT ?_ | refine w_gset ?_ | refine w_gname ?_ | refine w_gtup rfl ?_ | refine w_gcons ?_ | refine w_gnil ?_ | refine w_yes ?_) | refine w_bl ?_ | refine w_int ?_ | refine w_T ?_ | refine w_F ?_ | refine w_nT ?_ | refine w_nF ?_ | refine q_len_tup ?_ | refine q_int ?_ | refine q_intB ?_ | refine q_add ?_ | refine q_sub ?_ | refine q_neg ?_ | refine q_ord ?_ | refine q_ordS ?_ | refine q_tuple_tup ?_ | refine qEq_int ?_)))
    refine ⟨by show 0 ≤ sizeLine; decide, fun l4 hl4 => ?_⟩
    refine qEq_lst (xs := []) (ys := []) (HSub.new hl4 _ _ (by rw [up_same]; simp)) up_same .nil .nil fun b hb => ?_
    rw [hb.mpr rfl]
    exact fin _ ((((cu.new hl1).new hl2).new hl3).new hl4)
theorem ar_6 (gf : GF K c) (cx : Ctx c G0 s p r g ns es) (fin : ∀ G, Cur G0 s G → D.rt (.bl true) G) (cu : Cur G0 s G) : t_L_alike_right_6 K c R D [some (.ad s), some (.ad p), some (.ad r), some (.ad g), t4, t5, t6, t7, t8, t9, t10, t11] G := by
  unfold t_L_alike_right_6
  (with_reducible (repeat (first | (first | refine w_var rfl ?_ | refine w_c ?_ | refine w_op ?_ | refine w_un ?_ | refine w_cl ?_ | refine w_nil ?_ | refine w_cons ?_ | refine w_tup ?_ | refine w_lst ?_ | refine w_test ?_ | refine w_not ?_ | refine w_and ?_ | refine w_or ?_ | refine w_andV ?_ | refine w_orV ?_ | refine w_notV ?_ | refine w_if ?_ | refine w_chn ?_ | refine w_call ?_ | refine w_make ?_ | refine w_fld ?_ | refine w_ml ?_ | refine w_ml0 ?_ | refine w_sl ?_ | refine w_slD ?_ | refine w_noPart ?_ | refine w_part ?_ | refine w_dictZ ?_ | refine w_lcA ?_ | refine w_ret ?_ | refine w_rt ?_ | refine w_ifS ?_ | refine w_next ?_ | refine w_break ?_ | refine w_cont ?_ | refine w_seq ?_ | refine w_asg ?_ | refine w_drop ?_ | refine w_par ?_ | refine w_sfld ?_ | refine w_asgT ?_ | refine w_gset ?_ | refine w_gname ?_ | refine w_gtup rfl ?_ | refine w_gcons ?_ | refine w_gnil ?_ | refine w_yes ?_) | refine w_bl ?_ | refine w_int ?_ | refine w_T ?_ | refine w_F ?_ | refine w_nT ?_ | refine w_nF ?_ | refine q_len_tup ?_ | refine q_int ?_ | refine q_intB ?_ | refine q_add ?_ | refine q_sub ?_ | refine q_neg ?_ | refine q_ord ?_ | refine q_ordS ?_ | refine q_tuple_tup ?_ | refine qEq_int ?_)))
  refine ⟨_, ⟨s, p, r, g, ns, es, rfl, cx.cur cu, rfl⟩, ?_⟩
  rintro _ _ ⟨rfl, a, b, d, rfl⟩
  (with_reducible (repeat (first | (first | refine w_var rfl ?_ | refine w_c ?_ | refine w_op ?_ | refine w_un ?_ | refine w_cl ?_ | refine w_nil ?_ | refine w_cons ?_ | refine w_tup ?_ | refine w_lst ?_ | refine w_test ?_ | refine w_not ?_ | refine w_and ?_ | refine w_or ?_ | refine w_andV ?_ | refine w_orV ?_ | refine w_notV ?_ | refine w_if ?_ | refine w_chn ?_ | refine w_call ?_ | refine w_make ?_ | refine w_fld ?_ | refine w_ml ?_ | refine w_ml0 ?_ | refine w_sl ?_ | refine w_slD ?_ | refine w_noPart ?_ | refine w_part ?_ | refine w_dictZ ?_ | refine w_lcA ?_ | refine w_ret ?_ | refine w_rt ?_ | refine w_ifS ?_ | refine w_next ?_ | refine w_break ?_ | refine w_cont ?_ | refine w_seq ?_ | refine w_asg ?_ | refine w_drop ?_ | refine w_par ?_ | refine w_sfld ?_ | refine w_asgT ?_ | refine w_gset ?_ | refine w_gname ?_ | refine w_gtup rfl ?_ | refine w_gcons ?_ | refine w_gnil ?_ | refine w_yes ?_) | refine w_bl ?_ | refine w_int ?_ | refine w_T ?_ | refine w_F ?_ | refine w_nT ?_ | refine w_nF ?_ | refine q_len_tup ?_ | refine q_int ?_ | refine q_intB ?_ | refine q_add ?_ | refine q_sub ?_ | refine q_neg ?_ | refine q_ord ?_ | refine q_ordS ?_ | refine q_tuple_tup ?_ | refine qEq_int ?_)))
  have cu := cu.set a b d
  unfold t_L_alike_right_5
  (with_reducible (repeat (first | (first | refine w_var rfl ?_ | refine w_c ?_ | refine w_op ?_ | refine w_un ?_ | refine w_cl ?_ | refine w_nil ?_ | refine w_cons ?_ | refine w_tup ?_ | refine w_lst ?_ | refine w_test ?_ | refine w_not ?_ | refine w_and ?_ | refine w_or ?_ | refine w_andV ?_ | refine w_orV ?_ | refine w_notV ?_ | refine w_if ?_ | refine w_chn ?_ | refine w_call ?_ | refine w_make ?_ | refine w_fld ?_ | refine w_ml ?_ | refine w_ml0 ?_ | refine w_sl ?_ | refine w_slD ?_ | refine w_noPart ?_ | refine w_part ?_ | refine w_dictZ ?_ | refine w_lcA ?_ | refine w_ret ?_ | refine w_rt ?_ | refine w_ifS ?_ | refine w_next ?_ | refine w_break ?_ | refine w_cont ?_ | refine w_seq ?_ | refine w_asg ?_ | refine w_drop ?_ | refine w_par ?_ | refine w_sfld ?_ | refine w_asgT ?_ | refine w_gset ?_ | refine w_gname ?_ | refine w_gtup rfl ?_ | refine w_gcons ?_ | refine w_gnil ?_ | refine w_yes ?_) | refine w_bl ?_ | refine w_int ?_ | refine w_T ?_ | refine w_F ?_ | refine w_nT ?_ | refine w_nF ?_ | refine q_len_tup ?_ | refine q_int ?_ | refine q_intB ?_ | refine q_add ?_ | refine q_sub ?_ | refine q_neg ?_ | refine q_ord ?_ | refine q_ordS ?_ | refine q_tuple_tup ?_ | refine qEq_int ?_)))
  refine ⟨_, ⟨s, p, r, g, ns, es, rfl, cx.cur cu, rfl⟩, ?_⟩
  rintro _ _ ⟨rfl, a, b, d, rfl⟩
  (with_reducible (repeat (first | (first | refine w_var rfl ?_ | refine w_c ?_ | refine w_op ?_ | refine w_un ?_ | refine w_cl ?_ | refine w_nil ?_ | refine w_cons ?_ | refine w_tup ?_ | refine w_lst ?_ | refine w_test ?_ | refine w_not ?_ | refine w_and ?_ | refine w_or ?_ | refine w_andV ?_ | refine w_orV ?_ | refine w_notV ?_ | refine w_if ?_ | refine w_chn ?_ | refine w_call ?_ | refine w_make ?_ | refine w_fld ?_ | refine w_ml ?_ | refine w_ml0 ?_ | refine w_sl ?_ | refine w_slD ?_ | refine w_noPart ?_ | refine w_part ?_ | refine w_dictZ ?_ | refine w_lcA ?_ | refine w_ret ?_ | refine w_rt ?_ | refine w_ifS ?_ | refine w_next ?_ | refine w_break ?_ | refine w_cont ?_ | refine w_seq ?_ | refine w_asg ?_ | refine w_drop ?_ | refine w_par ?_ | refine w_sfld ?_ | refine w_asgT ?_ | refine w_gset ?_ | refine w_gname ?_ | refine w_gtup rfl ?_ | refine w_gcons ?_ | refine w_gnil ?_ | refine w_yes ?_) | refine w_bl ?_ | refine w_int ?_ | refine w_T ?_ | refine w_F ?_ | refine w_nT ?_ | refine w_nF ?_ | refine q_len_tup ?_ | refine q_int ?_ | refine q_intB ?_ | refine q_add ?_ | refine q_sub ?_ | refine q_neg ?_ | refine q_ord ?_ | refine q_ordS ?_ | refine q_tuple_tup ?_ | refine qEq_int ?_)))
  exact ar_4 gf cx fin (cu.set a b d)
theorem ar_8 (gf : GF K c) (cx : Ctx c G0 s p r g ns es) (fin : ∀ G, Cur G0 s G → D.rt (.bl true) G) (cu : Cur G0 s G) : t_L_alike_right_8 K c R D [some (.ad s), some (.ad p), some (.ad r), some (.ad g), t4, t5, t6, t7, t8, t9, t10, t11] G := by
  have x := cx.cur cu
  unfold t_L_alike_right_8
  (with_reducible (repeat (first | (first | refine w_var rfl ?_ | refine w_c ?_ | refine w_op ?_ | refine w_un ?_ | refine w_cl ?_ | refine w_nil ?_ | refine w_cons ?_ | refine w_tup ?_ | refine w_lst ?_ | refine w_test ?_ | refine w_not ?_ | refine w_and ?_ | refine w_or ?_ | refine w_andV ?_ | refine w_orV ?_ | refine w_notV ?_ | refine w_if ?_ | refine w_chn ?_ | refine w_call ?_ | refine w_make ?_ | refine w_fld ?_ | refine w_ml ?_ | refine w_ml0 ?_ | refine w_sl ?_ | refine w_slD ?_ | refine w_noPart ?_ | refine w_part ?_ | refine w_dictZ ?_ | refine w_lcA ?_ | refine w_ret ?_ | refine w_rt ?_ | refine w_ifS ?_ | refine w_next ?_ | refine w_break ?_ | refine w_cont ?_ | refine w_seq ?_ | refine w_asg ?_ | refine w_drop ?_ | refine w_par ?_ | refine w_sfld ?_ | refine w_asgT ?_ | refine w_gset ?_ | refine w_gname ?_ | refine w_gtup rfl ?_ | refine w_gcons ?_ | refine w_gnil ?_ | refine w_yes ?_) | refine w_bl ?_ | refine w_int ?_ | refine w_T ?_ | refine w_F ?_ | refine w_nT ?_ | refine w_nF ?_ | refine q_len_tup ?_ | refine q_int ?_ | refine q_intB ?_ | refine q_add ?_ | refine q_sub ?_ | refine q_neg ?_ | refine q_ord ?_ | refine q_ordS ?_ | refine q_tuple_tup ?_ | refine qEq_int ?_)))
  refine w_fresh (i := 11) (j := 9) (k := 1) (pre := "q") (ls := "abcdefghijk") (x := .ad p) (ns := ns) (fun Q h => w_c h) rfl (.ad x.hp) (by decide) (by decide) (by show 11 < 12; decide) (by show 9 < 12; decide) x.v.name (Nat.lt_of_le_of_lt x.v.few (by decide +kernel)) (by decide +kernel) (by decide +kernel) (by decide +kernel) (by decide +kernel) (by decide +kernel) fun w G1 hs nw hn => ?_
  have cu := cu.sub hs
  have x := cx.cur cu
  show t_L_alike_right_7 K c _ _ _ _
  unfold t_L_alike_right_7
  (with_reducible (repeat (first | (first | refine w_var rfl ?_ | refine w_c ?_ | refine w_op ?_ | refine w_un ?_ | refine w_cl ?_ | refine w_nil ?_ | refine w_cons ?_ | refine w_tup ?_ | refine w_lst ?_ | refine w_test ?_ | refine w_not ?_ | refine w_and ?_ | refine w_or ?_ | refine w_andV ?_ | refine w_orV ?_ | refine w_notV ?_ | refine w_if ?_ | refine w_chn ?_ | refine w_call ?_ | refine w_make ?_ | refine w_fld ?_ | refine w_ml ?_ | refine w_ml0 ?_ | refine w_sl ?_ | refine w_slD ?_ | refine w_noPart ?_ | refine w_part ?_ | refine w_dictZ ?_ | refine w_lcA ?_ | refine w_ret ?_ | refine w_rt ?_ | refine w_ifS ?_ | refine w_next ?_ | refine w_break ?_ | refine w_cont ?_ | refine w_seq ?_ | refine w_asg ?_ | refine w_drop ?_ | refine w_par ?_ | refine w_sfld ?_ | refine w_asgT ?_ | refine w_gset ?_ | refine w_gname ?_ | refine w_gtup rfl ?_ | refine w_gcons ?_ | refine w_gnil ?_ | refine w_yes ?_) | refine w_bl ?_ | refine w_int ?_ | refine w_T ?_ | refine w_F ?_ | refine w_nT ?_ | refine w_nF ?_ | refine q_len_tup ?_ | refine q_int ?_ | refine q_intB ?_ | refine q_add ?_ | refine q_sub ?_ | refine q_neg ?_ | refine q_ord ?_ | refine q_ordS ?_ | refine q_tuple_tup ?_ | refine qEq_int ?_)))
  refine q_len_ad x.hp ?_
  (with_reducible (repeat (first | (first | refine w_var rfl ?_ | refine w_c ?_ | refine w_op ?_ | refine w_un ?_ | refine w_cl ?_ | refine w_nil ?_ | refine w_cons ?_ | refine w_tup ?_ | refine w_lst ?_ | refine w_test ?_ | refine w_not ?_ | refine w_and ?_ | refine w_or ?_ | refine w_andV ?_ | refine w_orV ?_ | refine w_notV ?_ | refine w_if ?_ | refine w_chn ?_ | refine w_call ?_ | refine w_make ?_ | refine w_fld ?_ | refine w_ml ?_ | refine w_ml0 ?_ | refine w_sl ?_ | refine w_slD ?_ | refine w_noPart ?_ | refine w_part ?_ | refine w_dictZ ?_ | refine w_lcA ?_ | refine w_ret ?_ | refine w_rt ?_ | refine w_ifS ?_ | refine w_next ?_ | refine w_break ?_ | refine w_cont ?_ | refine w_seq ?_ | refine w_asg ?_ | refine w_drop ?_ | refine w_par ?_ | refine w_sfld ?_ | refine w_asgT ?_ | refine w_gset ?_ | refine w_gname ?_ | refine w_gtup rfl ?_ | refine w_gcons ?_ | refine w_gnil ?_ | refine w_yes ?_) | refine w_bl ?_ | refine w_int ?_ | refine w_T ?_ | refine w_F ?_ | refine w_nT ?_ | refine w_nF ?_ | refine q_len_tup ?_ | refine q_int ?_ | refine q_intB ?_ | refine q_add ?_ | refine q_sub ?_ | refine q_neg ?_ | refine q_ord ?_ | refine q_ordS ?_ | refine q_tuple_tup ?_ | refine qEq_int ?_)))
  refine iteB (fun z => ?_) (fun z => ?_)
  · have lt : ns.length < 10 := by have := of_decide_eq_true z; rw [dS_len] at this; omega
    (with_reducible (repeat (first | (first | refine w_var rfl ?_ | refine w_c ?_ | refine w_op ?_ | refine w_un ?_ | refine w_cl ?_ | refine w_nil ?_ | refine w_cons ?_ | refine w_tup ?_ | refine w_lst ?_ | refine w_test ?_ | refine w_not ?_ | refine w_and ?_ | refine w_or ?_ | refine w_andV ?_ | refine w_orV ?_ | refine w_notV ?_ | refine w_if ?_ | refine w_chn ?_ | refine w_call ?_ | refine w_make ?_ | refine w_fld ?_ | refine w_ml ?_ | refine w_ml0 ?_ | refine w_sl ?_ | refine w_slD ?_ | refine w_noPart ?_ | refine w_part ?_ | refine w_dictZ ?_ | refine w_lcA ?_ | refine w_ret ?_ | refine w_rt ?_ | refine w_ifS ?_ | refine w_next ?_ | refine w_break ?_ | refine w_cont ?_ | refine w_seq ?_ | refine w_asg ?_ | refine w_drop ?_ | refine w_par ?_ | refine w_sfld ?_ | refine w_asgT ?_ | refine w_gset ?_ | refine w_gname ?_ | refine w_gtup rfl ?_ | refine w_gcons ?_ | refine w_gnil ?_ | refine w_yes ?_) | refine w_bl ?_ | refine w_int ?_ | refine w_T ?_ | refine w_F ?_ | refine w_nT ?_ | refine w_nF ?_ | refine q_len_tup ?_ | refine q_int ?_ | refine q_intB ?_ | refine q_add ?_ | refine q_sub ?_ | refine q_neg ?_ | refine q_ord ?_ | refine q_ordS ?_ | refine q_tuple_tup ?_ | refine qEq_int ?_)))
    refine ⟨by show 1 ≤ sizeLine; decide, fun l1 hl1 => ?_⟩
    have cu1 := cu.new (o := .lst [.str w]) hl1
    have x1 := cx.cur cu1
    refine q_addL x1.hp up_same (by rw [dS_len]; exact size_ge (by show ns.length + 1 ≤ 4000; omega)) fun l2 hl2 => ?_
    rw [← dS_snoc]
    have cu2 := cu1.new (o := .lst (dS (ns ++ [w]))) hl2
    have x2 := cx.cur cu2
    have v2 := x.v.snoc lt nw hn
    have e2 : OkE (ns ++ [w]) es := x.e.mono fun n h => List.mem_append_left _ h
    (with_reducible (repeat (first | (first | refine w_var rfl ?_ | refine w_c ?_ | refine w_op ?_ | refine w_un ?_ | refine w_cl ?_ | refine w_nil ?_ | refine w_cons ?_ | refine w_tup ?_ | refine w_lst ?_ | refine w_test ?_ | refine w_not ?_ | refine w_and ?_ | refine w_or ?_ | refine w_andV ?_ | refine w_orV ?_ | refine w_notV ?_ | refine w_if ?_ | refine w_chn ?_ | refine w_call ?_ | refine w_make ?_ | refine w_fld ?_ | refine w_ml ?_ | refine w_ml0 ?_ | refine w_sl ?_ | refine w_slD ?_ | refine w_noPart ?_ | refine w_part ?_ | refine w_dictZ ?_ | refine w_lcA ?_ | refine w_ret ?_ | refine w_rt ?_ | refine w_ifS ?_ | refine w_next ?_ | refine w_break ?_ | refine w_cont ?_ | refine w_seq ?_ | refine w_asg ?_ | refine w_drop ?_ | refine w_par ?_ | refine w_sfld ?_ | refine w_asgT ?_ | refine w_gset ?_ | refine w_gname ?_ | refine w_gtup rfl ?_ | refine w_gcons ?_ | refine w_gnil ?_ | refine w_yes ?_) | refine w_bl ?_ | refine w_int ?_ | refine w_T ?_ | refine w_F ?_ | refine w_nT ?_ | refine w_nF ?_ | refine q_len_tup ?_ | refine q_int ?_ | refine q_intB ?_ | refine q_add ?_ | refine q_sub ?_ | refine q_neg ?_ | refine q_ord ?_ | refine q_ordS ?_ | refine q_tuple_tup ?_ | refine qEq_int ?_)))
    refine q_make (.inl ⟨l2, rfl, up_same⟩) (.inl ⟨r, rfl, x2.hr⟩) v2 e2 fun g2 hg2 => ?_
    have cu3 := cu2.new (o := .ins c.cGraph (gFs (ns ++ [w]) es)) hg2
    have x3 := cx.cur cu3
    have ne : ¬ (ns = ns ++ [w] ∧ sortE es = sortE es) := fun h => by have := congrArg List.length h.1; simp at this
    have ne2 : ¬ (ns ++ [w] = ns ∧ sortE es = sortE es) := fun h => ne ⟨h.1.symm, rfl⟩
    show t_L_alike_right_2 K c _ _ _ _
    unfold t_L_alike_right_2
    (with_reducible (repeat (first | (first | refine w_var rfl ?_ | refine w_c ?_ | refine w_op ?_ | refine w_un ?_ | refine w_cl ?_ | refine w_nil ?_ | refine w_cons ?_ | refine w_tup ?_ | refine w_lst ?_ | refine w_test ?_ | refine w_not ?_ | refine w_and ?_ | refine w_or ?_ | refine w_andV ?_ | refine w_orV ?_ | refine w_notV ?_ | refine w_if ?_ | refine w_chn ?_ | refine w_call ?_ | refine w_make ?_ | refine w_fld ?_ | refine w_ml ?_ | refine w_ml0 ?_ | refine w_sl ?_ | refine w_slD ?_ | refine w_noPart ?_ | refine w_part ?_ | refine w_dictZ ?_ | refine w_lcA ?_ | refine w_ret ?_ | refine w_rt ?_ | refine w_ifS ?_ | refine w_next ?_ | refine w_break ?_ | refine w_cont ?_ | refine w_seq ?_ | refine w_asg ?_ | refine w_drop ?_ | refine w_par ?_ | refine w_sfld ?_ | refine w_asgT ?_ | refine w_gset ?_ | refine w_gname ?_ | refine w_gtup rfl ?_ | refine w_gcons ?_ | refine w_gnil ?_ | refine w_yes ?_) | refine w_bl ?_ | refine w_int ?_ | refine w_T ?_ | refine w_F ?_ | refine w_nT ?_ | refine w_nF ?_ | refine q_len_tup ?_ | refine q_int ?_ | refine q_intB ?_ | refine q_add ?_ | refine q_sub ?_ | refine q_neg ?_ | refine q_ord ?_ | refine q_ordS ?_ | refine q_tuple_tup ?_ | refine qEq_int ?_)))
    refine q_eqG_no gf x3.hg up_same x.v x.e v2 e2 ne ?_
    (with_reducible (repeat (first | (first | refine w_var rfl ?_ | refine w_c ?_ | refine w_op ?_ | refine w_un ?_ | refine w_cl ?_ | refine w_nil ?_ | refine w_cons ?_ | refine w_tup ?_ | refine w_lst ?_ | refine w_test ?_ | refine w_not ?_ | refine w_and ?_ | refine w_or ?_ | refine w_andV ?_ | refine w_orV ?_ | refine w_notV ?_ | refine w_if ?_ | refine w_chn ?_ | refine w_call ?_ | refine w_make ?_ | refine w_fld ?_ | refine w_ml ?_ | refine w_ml0 ?_ | refine w_sl ?_ | refine w_slD ?_ | refine w_noPart ?_ | refine w_part ?_ | refine w_dictZ ?_ | refine w_lcA ?_ | refine w_ret ?_ | refine w_rt ?_ | refine w_ifS ?_ | refine w_next ?_ | refine w_break ?_ | refine w_cont ?_ | refine w_seq ?_ | refine w_asg ?_ | refine w_drop ?_ | refine w_par ?_ | refine w_sfld ?_ | refine w_asgT ?_ | refine w_gset ?_ | refine w_gname ?_ | refine w_gtup rfl ?_ | refine w_gcons ?_ | refine w_gnil ?_ | refine w_yes ?_) | refine w_bl ?_ | refine w_int ?_ | refine w_T ?_ | refine w_F ?_ | refine w_nT ?_ | refine w_nF ?_ | refine q_len_tup ?_ | refine q_int ?_ | refine q_intB ?_ | refine q_add ?_ | refine q_sub ?_ | refine q_neg ?_ | refine q_ord ?_ | refine q_ordS ?_ | refine q_tuple_tup ?_ | refine qEq_int ?_)))
    refine q_eqG_no gf up_same x3.hg v2 e2 x.v x.e ne2 ?_
    (with_reducible (repeat (first | (first | refine w_var rfl ?_ | refine w_c ?_ | refine w_op ?_ | refine w_un ?_ | refine w_cl ?_ | refine w_nil ?_ | refine w_cons ?_ | refine w_tup ?_ | refine w_lst ?_ | refine w_test ?_ | refine w_not ?_ | refine w_and ?_ | refine w_or ?_ | refine w_andV ?_ | refine w_orV ?_ | refine w_notV ?_ | refine w_if ?_ | refine w_chn ?_ | refine w_call ?_ | refine w_make ?_ | refine w_fld ?_ | refine w_ml ?_ | refine w_ml0 ?_ | refine w_sl ?_ | refine w_slD ?_ | refine w_noPart ?_ | refine w_part ?_ | refine w_dictZ ?_ | refine w_lcA ?_ | refine w_ret ?_ | refine w_rt ?_ | refine w_ifS ?_ | refine w_next ?_ | refine w_break ?_ | refine w_cont ?_ | refine w_seq ?_ | refine w_asg ?_ | refine w_drop ?_ | refine w_par ?_ | refine w_sfld ?_ | refine w_asgT ?_ | refine w_gset ?_ | refine w_gname ?_ | refine w_gtup rfl ?_ | refine w_gcons ?_ | refine w_gnil ?_ | refine w_yes ?_) | refine w_bl ?_ | refine w_int ?_ | refine w_T ?_ | refine w_F ?_ | refine w_nT ?_ | refine w_nF ?_ | refine q_len_tup ?_ | refine q_int ?_ | refine q_intB ?_ | refine q_add ?_ | refine q_sub ?_ | refine q_neg ?_ | refine q_ord ?_ | refine q_ordS ?_ | refine q_tuple_tup ?_ | refine qEq_int ?_)))
    unfold t_L_alike_right_1
    (with_reducible (repeat (first | (first | refine w_var rfl ?_ | refine w_c ?_ | refine w_op ?_ | refine w_un ?_ | refine w_cl ?_ | refine w_nil ?_ | refine w_cons ?_ | refine w_tup ?_ | refine w_lst ?_ | refine w_test ?_ | refine w_not ?_ | refine w_and ?_ | refine w_or ?_ | refine w_andV ?_ | refine w_orV ?_ | refine w_notV ?_ | refine w_if ?_ | refine w_chn ?_ | refine w_call ?_ | refine w_make ?_ | refine w_fld ?_ | refine w_ml ?_ | refine w_ml0 ?_ | refine w_sl ?_ | refine w_slD ?_ | refine w_noPart ?_ | refine w_part ?_ | refine w_dictZ ?_ | refine w_lcA ?_ | refine w_ret ?_ | refine w_rt ?_ | refine w_ifS ?_ | refine w_next ?_ | refine w_break ?_ | refine w_cont ?_ | refine w_seq ?_ | refine w_asg ?_ | refine w_drop ?_ | refine w_par ?_ | refine w_sfld ?_ | refine w_asgT ?_ | refine w_gset ?_ | refine w_gname ?_ | refine w_gtup rfl ?_ | refine w_gcons ?_ | refine w_gnil ?_ | refine w_yes ?_) | refine w_bl ?_ | refine w_int ?_ | refine w_T ?_ | refine w_F ?_ | refine w_nT ?_ | refine w_nF ?_ | refine q_len_tup ?_ | refine q_int ?_ | refine q_intB ?_ | refine q_add ?_ | refine q_sub ?_ | refine q_neg ?_ | refine q_ord ?_ | refine q_ordS ?_ | refine q_tuple_tup ?_ | refine qEq_int ?_)))
    refine q_eqG_no gf x3.hg up_same x.v x.e v2 e2 ne ?_
    (with_reducible (repeat (first | (first | refine w_var rfl ?_ | refine w_c ?_ | refine w_op ?_ | refine w_un ?_ | refine w_cl ?_ | refine w_nil ?_ | refine w_cons ?_ | refine w_tup ?_ | refine w_lst ?_ | refine w_test ?_ | refine w_not ?_ | refine w_and ?_ | refine w_or ?_ | refine w_andV ?_ | refine w_orV ?_ | refine w_notV ?_ | refine w_if ?_ | refine w_chn ?_ | refine w_call ?_ | refine w_make ?_ | refine w_fld ?_ | refine w_ml ?_ | refine w_ml0 ?_ | refine w_sl ?_ | refine w_slD ?_ | refine w_noPart ?_ | refine w_part ?_ | refine w_dictZ ?_ | refine w_lcA ?_ | refine w_ret ?_ | refine w_rt ?_ | refine w_ifS ?_ | refine w_next ?_ | refine w_break ?_ | refine w_cont ?_ | refine w_seq ?_ | refine w_asg ?_ | refine w_drop ?_ | refine w_par ?_ | refine w_sfld ?_ | refine w_asgT ?_ | refine w_gset ?_ | refine w_gname ?_ | refine w_gtup rfl ?_ | refine w_gcons ?_ | refine w_gnil ?_ | refine w_yes ?_) | refine w_bl ?_ | refine w_int ?_ | refine w_T ?_ | refine w_F ?_ | refine w_nT ?_ | refine w_nF ?_ | refine q_len_tup ?_ | refine q_int ?_ | refine q_intB ?_ | refine q_add ?_ | refine q_sub ?_ | refine q_neg ?_ | refine q_ord ?_ | refine q_ordS ?_ | refine q_tuple_tup ?_ | refine qEq_int ?_)))
    refine q_eqG_no gf up_same x3.hg v2 e2 x.v x.e ne2 ?_
    (with_reducible (repeat (first | (first | refine w_var rfl ?_ | refine w_c ?_ | refine w_op ?_ | refine w_un ?_ | refine w_cl ?_ | refine w_nil ?_ | refine w_cons ?_ | refine w_tup ?_ | refine w_lst ?_ | refine w_test ?_ | refine w_not ?_ | refine w_and ?_ | refine w_or ?_ | refine w_andV ?_ | refine w_orV ?_ | refine w_notV ?_ | refine w_if ?_ | refine w_chn ?_ | refine w_call ?_ | refine w_make ?_ | refine w_fld ?_ | refine w_ml ?_ | refine w_ml0 ?_ | refine w_sl ?_ | refine w_slD ?_ | refine w_noPart ?_ | refine w_part ?_ | refine w_dictZ ?_ | refine w_lcA ?_ | refine w_ret ?_ | refine w_rt ?_ | refine w_ifS ?_ | refine w_next ?_ | refine w_break ?_ | refine w_cont ?_ | refine w_seq ?_ | refine w_asg ?_ | refine w_drop ?_ | refine w_par ?_ | refine w_sfld ?_ | refine w_asgT ?_ | refine w_gset ?_ | refine w_gname ?_ | refine w_gtup rfl ?_ | refine w_gcons ?_ | refine w_gnil ?_ | refine w_yes ?_) | refine w_bl ?_ | refine w_int ?_ | refine w_T ?_ | refine w_F ?_ | refine w_nT ?_ | refine w_nF ?_ | refine q_len_tup ?_ | refine q_int ?_ | refine q_intB ?_ | refine q_add ?_ | refine q_sub ?_ | refine q_neg ?_ | refine q_ord ?_ | refine q_ordS ?_ | refine q_tuple_tup ?_ | refine qEq_int ?_)))
    exact ar_6 gf cx fin cu3
  · (with_reducible (repeat (first | (first | refine w_var rfl ?_ | refine w_c ?_ | refine w_op ?_ | refine w_un ?_ | refine w_cl ?_ | refine w_nil ?_ | refine w_cons ?_ | refine w_tup ?_ | refine w_lst ?_ | refine w_test ?_ | refine w_not ?_ | refine w_and ?_ | refine w_or ?_ | refine w_andV ?_ | refine w_orV ?_ | refine w_notV ?_ | refine w_if ?_ | refine w_chn ?_ | refine w_call ?_ | refine w_make ?_ | refine w_fld ?_ | refine w_ml ?_ | refine w_ml0 ?_ | refine w_sl ?_ | refine w_slD ?_ | refine w_noPart ?_ | refine w_part ?_ | refine w_dictZ ?_ | refine w_lcA ?_ | refine w_ret ?_ | refine w_rt ?_ | refine w_ifS ?_ | refine w_next ?_ | refine w_break ?_ | refine w_cont ?_ | refine w_seq ?_ | refine w_asg ?_ | refine w_drop ?_ | refine w_par ?_ | refine w_sfld ?_ | refine w_asgT ?_ | refine w_gset ?_ | refine w_gname ?_ | refine w_gtup rfl ?_ | refine w_gcons ?_ | refine w_gnil ?_ | refine w_yes ?_) | refine w_bl ?_ | refine w_int ?_ | refine w_T ?_ | refine w_F ?_ | refine w_nT ?_ | refine w_nF ?_ | refine q_len_tup ?_ | refine q_int ?_ | refine q_intB ?_ | refine q_add ?_ | refine q_sub ?_ | refine q_neg ?_ | refine q_ord ?_ | refine q_ordS ?_ | refine q_tuple_tup ?_ | refine qEq_int ?_)))
    exact ar_6 gf cx fin cu
theorem xb {a b : Bool} (h : a = b) : xor true (decide (a = b)) = false := by subst h; simp
theorem ar_9 (gf : GF K c) (cx : Ctx c G0 s p r g ns es) (fin : ∀ G, Cur G0 s G → D.rt (.bl true) G) (cu : Cur G0 s G) {g7 : Addr} (h7 : G g7 = some (.ins c.cGraph (gFs ns (es.drop 1)))) : t_L_alike_right_9 K c R D [some (.ad s), some (.ad p), some (.ad r), some (.ad g), t4, t5, t6, some (.ad g7), t8, t9, t10, t11] G := by
  have x := cx.cur cu
  have e7 : OkE ns (es.drop 1) := x.e.sub (List.drop_sublist 1 es)
  unfold t_L_alike_right_9
  (with_reducible (repeat (first | (first | refine w_var rfl ?_ | refine w_c ?_ | refine w_op ?_ | refine w_un ?_ | refine w_cl ?_ | refine w_nil ?_ | refine w_cons ?_ | refine w_tup ?_ | refine w_lst ?_ | refine w_test ?_ | refine w_not ?_ | refine w_and ?_ | refine w_or ?_ | refine w_andV ?_ | refine w_orV ?_ | refine w_notV ?_ | refine w_if ?_ | refine w_chn ?_ | refine w_call ?_ | refine w_make ?_ | refine w_fld ?_ | refine w_ml ?_ | refine w_ml0 ?_ | refine w_sl ?_ | refine w_slD ?_ | refine w_noPart ?_ | refine w_part ?_ | refine w_dictZ ?_ | refine w_lcA ?_ | refine w_ret ?_ | refine w_rt ?_ | refine w_ifS ?_ | refine w_next ?_ | refine w_break ?_ | refine w_cont ?_ | refine w_seq ?_ | refine w_asg ?_ | refine w_drop ?_ | refine w_par ?_ | refine w_sfld ?_ | refine w_asgT ?_ | refine w_gset ?_ | refine w_gname ?_ | refine w_gtup rfl ?_ | refine w_gcons ?_ | refine w_gnil ?_ | refine w_yes ?_) | refine w_bl ?_ | refine w_int ?_ | refine w_T ?_ | refine w_F ?_ | refine w_nT ?_ | refine w_nF ?_ | refine q_len_tup ?_ | refine q_int ?_ | refine q_intB ?_ | refine q_add ?_ | refine q_sub ?_ | refine q_neg ?_ | refine q_ord ?_ | refine q_ordS ?_ | refine q_tuple_tup ?_ | refine qEq_int ?_)))
  refine ⟨by show 0 ≤ sizeLine; decide, fun l hl => ?_⟩
  have cu := cu.new (o := .lst []) hl
  have x2 := cx.cur cu
  have h7 := HSub.new (o := .lst []) hl _ _ h7
  refine qEq_lst (ys := []) x2.hr up_same (x2.e.ev x2.v) .nil fun b hb => ?_
  (with_reducible (repeat (first | (first | refine w_var rfl ?_ | refine w_c ?_ | refine w_op ?_ | refine w_un ?_ | refine w_cl ?_ | refine w_nil ?_ | refine w_cons ?_ | refine w_tup ?_ | refine w_lst ?_ | refine w_test ?_ | refine w_not ?_ | refine w_and ?_ | refine w_or ?_ | refine w_andV ?_ | refine w_orV ?_ | refine w_notV ?_ | refine w_if ?_ | refine w_chn ?_ | refine w_call ?_ | refine w_make ?_ | refine w_fld ?_ | refine w_ml ?_ | refine w_ml0 ?_ | refine w_sl ?_ | refine w_slD ?_ | refine w_noPart ?_ | refine w_part ?_ | refine w_dictZ ?_ | refine w_lcA ?_ | refine w_ret ?_ | refine w_rt ?_ | refine w_ifS ?_ | refine w_next ?_ | refine w_break ?_ | refine w_cont ?_ | refine w_seq ?_ | refine w_asg ?_ | refine w_drop ?_ | refine w_par ?_ | refine w_sfld ?_ | refine w_asgT ?_ | refine w_gset ?_ | refine w_gname ?_ | refine w_gtup rfl ?_ | refine w_gcons ?_ | refine w_gnil ?_ | refine w_yes ?_) | refine w_bl ?_ | refine w_int ?_ | refine w_T ?_ | refine w_F ?_ | refine w_nT ?_ | refine w_nF ?_ | refine q_len_tup ?_ | refine q_int ?_ | refine q_intB ?_ | refine q_add ?_ | refine q_sub ?_ | refine q_neg ?_ | refine q_ord ?_ | refine q_ordS ?_ | refine q_tuple_tup ?_ | refine qEq_int ?_)))
  refine iteB (fun z => ?_) (fun z => ?_)
  · have ne0 : es ≠ [] := fun e => by
      have : b = true := hb.mpr (by rw [e]; rfl)
      rw [this] at z; cases z
    have ne : ¬ (ns = ns ∧ sortE es = sortE (es.drop 1)) := fun h => by
      have := (sortE_eq.mp h.2).length_eq
      rw [List.length_drop] at this
      have := List.length_pos_iff.mpr ne0
      omega
    (with_reducible (repeat (first | (first | refine w_var rfl ?_ | refine w_c ?_ | refine w_op ?_ | refine w_un ?_ | refine w_cl ?_ | refine w_nil ?_ | refine w_cons ?_ | refine w_tup ?_ | refine w_lst ?_ | refine w_test ?_ | refine w_not ?_ | refine w_and ?_ | refine w_or ?_ | refine w_andV ?_ | refine w_orV ?_ | refine w_notV ?_ | refine w_if ?_ | refine w_chn ?_ | refine w_call ?_ | refine w_make ?_ | refine w_fld ?_ | refine w_ml ?_ | refine w_ml0 ?_ | refine w_sl ?_ | refine w_slD ?_ | refine w_noPart ?_ | refine w_part ?_ | refine w_dictZ ?_ | refine w_lcA ?_ | refine w_ret ?_ | refine w_rt ?_ | refine w_ifS ?_ | refine w_next ?_ | refine w_break ?_ | refine w_cont ?_ | refine w_seq ?_ | refine w_asg ?_ | refine w_drop ?_ | refine w_par ?_ | refine w_sfld ?_ | refine w_asgT ?_ | refine w_gset ?_ | refine w_gname ?_ | refine w_gtup rfl ?_ | refine w_gcons ?_ | refine w_gnil ?_ | refine w_yes ?_) | refine w_bl ?_ | refine w_int ?_ | refine w_T ?_ | refine w_F ?_ | refine w_nT ?_ | refine w_nF ?_ | refine q_len_tup ?_ | refine q_int ?_ | refine q_intB ?_ | refine q_add ?_ | refine q_sub ?_ | refine q_neg ?_ | refine q_ord ?_ | refine q_ordS ?_ | refine q_tuple_tup ?_ | refine qEq_int ?_)))
    refine q_eqG_no gf x2.hg h7 x.v x.e x.v e7 ne ?_
    (with_reducible (repeat (first | (first | refine w_var rfl ?_ | refine w_c ?_ | refine w_op ?_ | refine w_un ?_ | refine w_cl ?_ | refine w_nil ?_ | refine w_cons ?_ | refine w_tup ?_ | refine w_lst ?_ | refine w_test ?_ | refine w_not ?_ | refine w_and ?_ | refine w_or ?_ | refine w_andV ?_ | refine w_orV ?_ | refine w_notV ?_ | refine w_if ?_ | refine w_chn ?_ | refine w_call ?_ | refine w_make ?_ | refine w_fld ?_ | refine w_ml ?_ | refine w_ml0 ?_ | refine w_sl ?_ | refine w_slD ?_ | refine w_noPart ?_ | refine w_part ?_ | refine w_dictZ ?_ | refine w_lcA ?_ | refine w_ret ?_ | refine w_rt ?_ | refine w_ifS ?_ | refine w_next ?_ | refine w_break ?_ | refine w_cont ?_ | refine w_seq ?_ | refine w_asg ?_ | refine w_drop ?_ | refine w_par ?_ | refine w_sfld ?_ | refine w_asgT ?_ | refine w_gset ?_ | refine w_gname ?_ | refine w_gtup rfl ?_ | refine w_gcons ?_ | refine w_gnil ?_ | refine w_yes ?_) | refine w_bl ?_ | refine w_int ?_ | refine w_T ?_ | refine w_F ?_ | refine w_nT ?_ | refine w_nF ?_ | refine q_len_tup ?_ | refine q_int ?_ | refine q_intB ?_ | refine q_add ?_ | refine q_sub ?_ | refine q_neg ?_ | refine q_ord ?_ | refine q_ordS ?_ | refine q_tuple_tup ?_ | refine qEq_int ?_)))
    refine q_eqG_no gf h7 x2.hg x.v e7 x.v x.e (fun h => ne ⟨rfl, h.2.symm⟩) ?_
    (with_reducible (repeat (first | (first | refine w_var rfl ?_ | refine w_c ?_ | refine w_op ?_ | refine w_un ?_ | refine w_cl ?_ | refine w_nil ?_ | refine w_cons ?_ | refine w_tup ?_ | refine w_lst ?_ | refine w_test ?_ | refine w_not ?_ | refine w_and ?_ | refine w_or ?_ | refine w_andV ?_ | refine w_orV ?_ | refine w_notV ?_ | refine w_if ?_ | refine w_chn ?_ | refine w_call ?_ | refine w_make ?_ | refine w_fld ?_ | refine w_ml ?_ | refine w_ml0 ?_ | refine w_sl ?_ | refine w_slD ?_ | refine w_noPart ?_ | refine w_part ?_ | refine w_dictZ ?_ | refine w_lcA ?_ | refine w_ret ?_ | refine w_rt ?_ | refine w_ifS ?_ | refine w_next ?_ | refine w_break ?_ | refine w_cont ?_ | refine w_seq ?_ | refine w_asg ?_ | refine w_drop ?_ | refine w_par ?_ | refine w_sfld ?_ | refine w_asgT ?_ | refine w_gset ?_ | refine w_gname ?_ | refine w_gtup rfl ?_ | refine w_gcons ?_ | refine w_gnil ?_ | refine w_yes ?_) | refine w_bl ?_ | refine w_int ?_ | refine w_T ?_ | refine w_F ?_ | refine w_nT ?_ | refine w_nF ?_ | refine q_len_tup ?_ | refine q_int ?_ | refine q_intB ?_ | refine q_add ?_ | refine q_sub ?_ | refine q_neg ?_ | refine q_ord ?_ | refine q_ordS ?_ | refine q_tuple_tup ?_ | refine qEq_int ?_)))
    exact ar_8 gf cx fin cu
  · (with_reducible (repeat (first | (first | refine w_var rfl ?_ | refine w_c ?_ | refine w_op ?_ | refine w_un ?_ | refine w_cl ?_ | refine w_nil ?_ | refine w_cons ?_ | refine w_tup ?_ | refine w_lst ?_ | refine w_test ?_ | refine w_not ?_ | refine w_and ?_ | refine w_or ?_ | refine w_andV ?_ | refine w_orV ?_ | refine w_notV ?_ | refine w_if ?_ | refine w_chn ?_ | refine w_call ?_ | refine w_make ?_ | refine w_fld ?_ | refine w_ml ?_ | refine w_ml0 ?_ | refine w_sl ?_ | refine w_slD ?_ | refine w_noPart ?_ | refine w_part ?_ | refine w_dictZ ?_ | refine w_lcA ?_ | refine w_ret ?_ | refine w_rt ?_ | refine w_ifS ?_ | refine w_next ?_ | refine w_break ?_ | refine w_cont ?_ | refine w_seq ?_ | refine w_asg ?_ | refine w_drop ?_ | refine w_par ?_ | refine w_sfld ?_ | refine w_asgT ?_ | refine w_gset ?_ | refine w_gname ?_ | refine w_gtup rfl ?_ | refine w_gcons ?_ | refine w_gnil ?_ | refine w_yes ?_) | refine w_bl ?_ | refine w_int ?_ | refine w_T ?_ | refine w_F ?_ | refine w_nT ?_ | refine w_nF ?_ | refine q_len_tup ?_ | refine q_int ?_ | refine q_intB ?_ | refine q_add ?_ | refine q_sub ?_ | refine q_neg ?_ | refine q_ord ?_ | refine q_ordS ?_ | refine q_tuple_tup ?_ | refine qEq_int ?_)))
    exact ar_8 gf cx fin cu
theorem ar_10 (gf : GF K c) (cx : Ctx c G0 s p r g ns es) (fin : ∀ G, Cur G0 s G → D.rt (.bl true) G) (cu : Cur G0 s G) {g7 : Addr} (h7 : G g7 = some (.ins c.cGraph (gFs ns (es.drop 1)))) : t_L_alike_right_10 K c R D [some (.ad s), some (.ad p), some (.ad r), some (.ad g), t4, t5, t6, some (.ad g7), t8, t9, t10, t11] G := by
  have x := cx.cur cu
  have e7 : OkE ns (es.drop 1) := x.e.sub (List.drop_sublist 1 es)
  unfold t_L_alike_right_10
  (with_reducible (repeat (first | (first | refine w_var rfl ?_ | refine w_c ?_ | refine w_op ?_ | refine w_un ?_ | refine w_cl ?_ | refine w_nil ?_ | refine w_cons ?_ | refine w_tup ?_ | refine w_lst ?_ | refine w_test ?_ | refine w_not ?_ | refine w_and ?_ | refine w_or ?_ | refine w_andV ?_ | refine w_orV ?_ | refine w_notV ?_ | refine w_if ?_ | refine w_chn ?_ | refine w_call ?_ | refine w_make ?_ | refine w_fld ?_ | refine w_ml ?_ | refine w_ml0 ?_ | refine w_sl ?_ | refine w_slD ?_ | refine w_noPart ?_ | refine w_part ?_ | refine w_dictZ ?_ | refine w_lcA ?_ | refine w_ret ?_ | refine w_rt ?_ | refine w_ifS ?_ | refine w_next ?_ | refine w_break ?_ | refine w_cont ?_ | refine w_seq ?_ | refine w_asg ?_ | refine w_drop ?_ | refine w_par ?_ | refine w_sfld ?_ | refine w_asgT ?_ | refine w_gset ?_ | refine w_gname ?_ | refine w_gtup rfl ?_ | refine w_gcons ?_ | refine w_gnil ?_ | refine w_yes ?_) | refine w_bl ?_ | refine w_int ?_ | refine w_T ?_ | refine w_F ?_ | refine w_nT ?_ | refine w_nF ?_ | refine q_len_tup ?_ | refine q_int ?_ | refine q_intB ?_ | refine q_add ?_ | refine q_sub ?_ | refine q_neg ?_ | refine q_ord ?_ | refine q_ordS ?_ | refine q_tuple_tup ?_ | refine qEq_int ?_)))
  refine ⟨by show 0 ≤ sizeLine; decide, fun l hl => ?_⟩
  have cu := cu.new (o := .lst []) hl
  have x2 := cx.cur cu
  have h7 := HSub.new (o := .lst []) hl _ _ h7
  refine qEq_lst (ys := []) x2.hr up_same (x2.e.ev x2.v) .nil fun b hb => ?_
  (with_reducible (repeat (first | (first | refine w_var rfl ?_ | refine w_c ?_ | refine w_op ?_ | refine w_un ?_ | refine w_cl ?_ | refine w_nil ?_ | refine w_cons ?_ | refine w_tup ?_ | refine w_lst ?_ | refine w_test ?_ | refine w_not ?_ | refine w_and ?_ | refine w_or ?_ | refine w_andV ?_ | refine w_orV ?_ | refine w_notV ?_ | refine w_if ?_ | refine w_chn ?_ | refine w_call ?_ | refine w_make ?_ | refine w_fld ?_ | refine w_ml ?_ | refine w_ml0 ?_ | refine w_sl ?_ | refine w_slD ?_ | refine w_noPart ?_ | refine w_part ?_ | refine w_dictZ ?_ | refine w_lcA ?_ | refine w_ret ?_ | refine w_rt ?_ | refine w_ifS ?_ | refine w_next ?_ | refine w_break ?_ | refine w_cont ?_ | refine w_seq ?_ | refine w_asg ?_ | refine w_drop ?_ | refine w_par ?_ | refine w_sfld ?_ | refine w_asgT ?_ | refine w_gset ?_ | refine w_gname ?_ | refine w_gtup rfl ?_ | refine w_gcons ?_ | refine w_gnil ?_ | refine w_yes ?_) | refine w_bl ?_ | refine w_int ?_ | refine w_T ?_ | refine w_F ?_ | refine w_nT ?_ | refine w_nF ?_ | refine q_len_tup ?_ | refine q_int ?_ | refine q_intB ?_ | refine q_add ?_ | refine q_sub ?_ | refine q_neg ?_ | refine q_ord ?_ | refine q_ordS ?_ | refine q_tuple_tup ?_ | refine qEq_int ?_)))
  refine iteB (fun z => ?_) (fun z => ?_)
  · have ne0 : es ≠ [] := fun e => by
      have : b = true := hb.mpr (by rw [e]; rfl)
      rw [this] at z; cases z
    have ne : ¬ (ns = ns ∧ sortE es = sortE (es.drop 1)) := fun h => by
      have := (sortE_eq.mp h.2).length_eq
      rw [List.length_drop] at this
      have := List.length_pos_iff.mpr ne0
      omega
    (with_reducible (repeat (first | (first | refine w_var rfl ?_ | refine w_c ?_ | refine w_op ?_ | refine w_un ?_ | refine w_cl ?_ | refine w_nil ?_ | refine w_cons ?_ | refine w_tup ?_ | refine w_lst ?_ | refine w_test ?_ | refine w_not ?_ | refine w_and ?_ | refine w_or ?_ | refine w_andV ?_ | refine w_orV ?_ | refine w_notV ?_ | refine w_if ?_ | refine w_chn ?_ | refine w_call ?_ | refine w_make ?_ | refine w_fld ?_ | refine w_ml ?_ | refine w_ml0 ?_ | refine w_sl ?_ | refine w_slD ?_ | refine w_noPart ?_ | refine w_part ?_ | refine w_dictZ ?_ | refine w_lcA ?_ | refine w_ret ?_ | refine w_rt ?_ | refine w_ifS ?_ | refine w_next ?_ | refine w_break ?_ | refine w_cont ?_ | refine w_seq ?_ | refine w_asg ?_ | refine w_drop ?_ | refine w_par ?_ | refine w_sfld ?_ | refine w_asgT ?_ | refine w_gset ?_ | refine w_gname ?_ | refine w_gtup rfl ?_ | refine w_gcons ?_ | refine w_gnil ?_ | refine w_yes ?_) | refine w_bl ?_ | refine w_int ?_ | refine w_T ?_ | refine w_F ?_ | refine w_nT ?_ | refine w_nF ?_ | refine q_len_tup ?_ | refine q_int ?_ | refine q_intB ?_ | refine q_add ?_ | refine q_sub ?_ | refine q_neg ?_ | refine q_ord ?_ | refine q_ordS ?_ | refine q_tuple_tup ?_ | refine qEq_int ?_)))
    refine q_eqG_no gf x2.hg h7 x.v x.e x.v e7 ne ?_
    (with_reducible (repeat (first | (first | refine w_var rfl ?_ | refine w_c ?_ | refine w_op ?_ | refine w_un ?_ | refine w_cl ?_ | refine w_nil ?_ | refine w_cons ?_ | refine w_tup ?_ | refine w_lst ?_ | refine w_test ?_ | refine w_not ?_ | refine w_and ?_ | refine w_or ?_ | refine w_andV ?_ | refine w_orV ?_ | refine w_notV ?_ | refine w_if ?_ | refine w_chn ?_ | refine w_call ?_ | refine w_make ?_ | refine w_fld ?_ | refine w_ml ?_ | refine w_ml0 ?_ | refine w_sl ?_ | refine w_slD ?_ | refine w_noPart ?_ | refine w_part ?_ | refine w_dictZ ?_ | refine w_lcA ?_ | refine w_ret ?_ | refine w_rt ?_ | refine w_ifS ?_ | refine w_next ?_ | refine w_break ?_ | refine w_cont ?_ | refine w_seq ?_ | refine w_asg ?_ | refine w_drop ?_ | refine w_par ?_ | refine w_sfld ?_ | refine w_asgT ?_ | refine w_gset ?_ | refine w_gname ?_ | refine w_gtup rfl ?_ | refine w_gcons ?_ | refine w_gnil ?_ | refine w_yes ?_) | refine w_bl ?_ | refine w_int ?_ | refine w_T ?_ | refine w_F ?_ | refine w_nT ?_ | refine w_nF ?_ | refine q_len_tup ?_ | refine q_int ?_ | refine q_intB ?_ | refine q_add ?_ | refine q_sub ?_ | refine q_neg ?_ | refine q_ord ?_ | refine q_ordS ?_ | refine q_tuple_tup ?_ | refine qEq_int ?_)))
    refine q_eqG_no gf h7 x2.hg x.v e7 x.v x.e (fun h => ne ⟨rfl, h.2.symm⟩) ?_
    (with_reducible (repeat (first | (first | refine w_var rfl ?_ | refine w_c ?_ | refine w_op ?_ | refine w_un ?_ | refine w_cl ?_ | refine w_nil ?_ | refine w_cons ?_ | refine w_tup ?_ | refine w_lst ?_ | refine w_test ?_ | refine w_not ?_ | refine w_and ?_ | refine w_or ?_ | refine w_andV ?_ | refine w_orV ?_ | refine w_notV ?_ | refine w_if ?_ | refine w_chn ?_ | refine w_call ?_ | refine w_make ?_ | refine w_fld ?_ | refine w_ml ?_ | refine w_ml0 ?_ | refine w_sl ?_ | refine w_slD ?_ | refine w_noPart ?_ | refine w_part ?_ | refine w_dictZ ?_ | refine w_lcA ?_ | refine w_ret ?_ | refine w_rt ?_ | refine w_ifS ?_ | refine w_next ?_ | refine w_break ?_ | refine w_cont ?_ | refine w_seq ?_ | refine w_asg ?_ | refine w_drop ?_ | refine w_par ?_ | refine w_sfld ?_ | refine w_asgT ?_ | refine w_gset ?_ | refine w_gname ?_ | refine w_gtup rfl ?_ | refine w_gcons ?_ | refine w_gnil ?_ | refine w_yes ?_) | refine w_bl ?_ | refine w_int ?_ | refine w_T ?_ | refine w_F ?_ | refine w_nT ?_ | refine w_nF ?_ | refine q_len_tup ?_ | refine q_int ?_ | refine q_intB ?_ | refine q_add ?_ | refine q_sub ?_ | refine q_neg ?_ | refine q_ord ?_ | refine q_ordS ?_ | refine q_tuple_tup ?_ | refine qEq_int ?_)))
    exact ar_9 gf cx fin cu h7
  · (with_reducible (repeat (first | (first | refine w_var rfl ?_ | refine w_c ?_ | refine w_op ?_ | refine w_un ?_ | refine w_cl ?_ | refine w_nil ?_ | refine w_cons ?_ | refine w_tup ?_ | refine w_lst ?_ | refine w_test ?_ | refine w_not ?_ | refine w_and ?_ | refine w_or ?_ | refine w_andV ?_ | refine w_orV ?_ | refine w_notV ?_ | refine w_if ?_ | refine w_chn ?_ | refine w_call ?_ | refine w_make ?_ | refine w_fld ?_ | refine w_ml ?_ | refine w_ml0 ?_ | refine w_sl ?_ | refine w_slD ?_ | refine w_noPart ?_ | refine w_part ?_ | refine w_dictZ ?_ | refine w_lcA ?_ | refine w_ret ?_ | refine w_rt ?_ | refine w_ifS ?_ | refine w_next ?_ | refine w_break ?_ | refine w_cont ?_ | refine w_seq ?_ | refine w_asg ?_ | refine w_drop ?_ | refine w_par ?_ | refine w_sfld ?_ | refine w_asgT ?_ | refine w_gset ?_ | refine w_gname ?_ | refine w_gtup rfl ?_ | refine w_gcons ?_ | refine w_gnil ?_ | refine w_yes ?_) | refine w_bl ?_ | refine w_int ?_ | refine w_T ?_ | refine w_F ?_ | refine w_nT ?_ | refine w_nF ?_ | refine q_len_tup ?_ | refine q_int ?_ | refine q_intB ?_ | refine q_add ?_ | refine q_sub ?_ | refine q_neg ?_ | refine q_ord ?_ | refine q_ordS ?_ | refine q_tuple_tup ?_ | refine qEq_int ?_)))
    exact ar_9 gf cx fin cu h7
theorem ar_11 (gf : GF K c) (cx : Ctx c G0 s p r g ns es) (fin : ∀ G, Cur G0 s G → D.rt (.bl true) G) (cu : Cur G0 s G) {g6 g7 : Addr} (h6 : G g6 = some (.ins c.cGraph (gFs ns.reverse es))) (h7 : G g7 = some (.ins c.cGraph (gFs ns (es.drop 1)))) : t_L_alike_right_11 K c R D [some (.ad s), some (.ad p), some (.ad r), some (.ad g), t4, t5, some (.ad g6), some (.ad g7), t8, t9, t10, t11] G := by
  have x := cx.cur cu
  have key : ∀ b : Bool, (b = true ↔ ns = ns.reverse ∧ sortE es = sortE es) → (false ^^ b) = (false ^^ decide (((dS ns).length : Int) = 1)) := fun b hb => by
    rw [Bool.false_xor, Bool.false_xor, Bool.eq_iff_iff, hb, decide_eq_true_iff, dS_len]
    have := rev_one x.v.nd x.v.pos
    constructor
    · intro h; have := this.mp h.1; omega
    · intro h; exact ⟨this.mpr (by omega), rfl⟩
  unfold t_L_alike_right_11
  (with_reducible (repeat (first | (first | refine w_var rfl ?_ | refine w_c ?_ | refine w_op ?_ | refine w_un ?_ | refine w_cl ?_ | refine w_nil ?_ | refine w_cons ?_ | refine w_tup ?_ | refine w_lst ?_ | refine w_test ?_ | refine w_not ?_ | refine w_and ?_ | refine w_or ?_ | refine w_andV ?_ | refine w_orV ?_ | refine w_notV ?_ | refine w_if ?_ | refine w_chn ?_ | refine w_call ?_ | refine w_make ?_ | refine w_fld ?_ | refine w_ml ?_ | refine w_ml0 ?_ | refine w_sl ?_ | refine w_slD ?_ | refine w_noPart ?_ | refine w_part ?_ | refine w_dictZ ?_ | refine w_lcA ?_ | refine w_ret ?_ | refine w_rt ?_ | refine w_ifS ?_ | refine w_next ?_ | refine w_break ?_ | refine w_cont ?_ | refine w_seq ?_ | refine w_asg ?_ | refine w_drop ?_ | refine w_par ?_ | refine w_sfld ?_ | refine w_asgT ?_ | refine w_gset ?_ | refine w_gname ?_ | refine w_gtup rfl ?_ | refine w_gcons ?_ | refine w_gnil ?_ | refine w_yes ?_) | refine w_bl ?_ | refine w_int ?_ | refine w_T ?_ | refine w_F ?_ | refine w_nT ?_ | refine w_nF ?_ | refine q_len_tup ?_ | refine q_int ?_ | refine q_intB ?_ | refine q_add ?_ | refine q_sub ?_ | refine q_neg ?_ | refine q_ord ?_ | refine q_ordS ?_ | refine q_tuple_tup ?_ | refine qEq_int ?_)))
  refine q_eqG gf x.hg h6 x.v x.e x.v.rev x.e.rev fun b hb => ?_
  (with_reducible (repeat (first | (first | refine w_var rfl ?_ | refine w_c ?_ | refine w_op ?_ | refine w_un ?_ | refine w_cl ?_ | refine w_nil ?_ | refine w_cons ?_ | refine w_tup ?_ | refine w_lst ?_ | refine w_test ?_ | refine w_not ?_ | refine w_and ?_ | refine w_or ?_ | refine w_andV ?_ | refine w_orV ?_ | refine w_notV ?_ | refine w_if ?_ | refine w_chn ?_ | refine w_call ?_ | refine w_make ?_ | refine w_fld ?_ | refine w_ml ?_ | refine w_ml0 ?_ | refine w_sl ?_ | refine w_slD ?_ | refine w_noPart ?_ | refine w_part ?_ | refine w_dictZ ?_ | refine w_lcA ?_ | refine w_ret ?_ | refine w_rt ?_ | refine w_ifS ?_ | refine w_next ?_ | refine w_break ?_ | refine w_cont ?_ | refine w_seq ?_ | refine w_asg ?_ | refine w_drop ?_ | refine w_par ?_ | refine w_sfld ?_ | refine w_asgT ?_ | refine w_gset ?_ | refine w_gname ?_ | refine w_gtup rfl ?_ | refine w_gcons ?_ | refine w_gnil ?_ | refine w_yes ?_) | refine w_bl ?_ | refine w_int ?_ | refine w_T ?_ | refine w_F ?_ | refine w_nT ?_ | refine w_nF ?_ | refine q_len_tup ?_ | refine q_int ?_ | refine q_intB ?_ | refine q_add ?_ | refine q_sub ?_ | refine q_neg ?_ | refine q_ord ?_ | refine q_ordS ?_ | refine q_tuple_tup ?_ | refine qEq_int ?_)))
  refine q_len_ad x.hp ?_
  (with_reducible (repeat (first | (first | refine w_var rfl ?_ | refine w_c ?_ | refine w_op ?_ | refine w_un ?_ | refine w_cl ?_ | refine w_nil ?_ | refine w_cons ?_ | refine w_tup ?_ | refine w_lst ?_ | refine w_test ?_ | refine w_not ?_ | refine w_and ?_ | refine w_or ?_ | refine w_andV ?_ | refine w_orV ?_ | refine w_notV ?_ | refine w_if ?_ | refine w_chn ?_ | refine w_call ?_ | refine w_make ?_ | refine w_fld ?_ | refine w_ml ?_ | refine w_ml0 ?_ | refine w_sl ?_ | refine w_slD ?_ | refine w_noPart ?_ | refine w_part ?_ | refine w_dictZ ?_ | refine w_lcA ?_ | refine w_ret ?_ | refine w_rt ?_ | refine w_ifS ?_ | refine w_next ?_ | refine w_break ?_ | refine w_cont ?_ | refine w_seq ?_ | refine w_asg ?_ | refine w_drop ?_ | refine w_par ?_ | refine w_sfld ?_ | refine w_asgT ?_ | refine w_gset ?_ | refine w_gname ?_ | refine w_gtup rfl ?_ | refine w_gcons ?_ | refine w_gnil ?_ | refine w_yes ?_) | refine w_bl ?_ | refine w_int ?_ | refine w_T ?_ | refine w_F ?_ | refine w_nT ?_ | refine w_nF ?_ | refine q_len_tup ?_ | refine q_int ?_ | refine q_intB ?_ | refine q_add ?_ | refine q_sub ?_ | refine q_neg ?_ | refine q_ord ?_ | refine q_ordS ?_ | refine q_tuple_tup ?_ | refine qEq_int ?_)))
  refine qEq_bl ?_
  rw [xb (key b hb)]
  (with_reducible (repeat (first | (first | refine w_var rfl ?_ | refine w_c ?_ | refine w_op ?_ | refine w_un ?_ | refine w_cl ?_ | refine w_nil ?_ | refine w_cons ?_ | refine w_tup ?_ | refine w_lst ?_ | refine w_test ?_ | refine w_not ?_ | refine w_and ?_ | refine w_or ?_ | refine w_andV ?_ | refine w_orV ?_ | refine w_notV ?_ | refine w_if ?_ | refine w_chn ?_ | refine w_call ?_ | refine w_make ?_ | refine w_fld ?_ | refine w_ml ?_ | refine w_ml0 ?_ | refine w_sl ?_ | refine w_slD ?_ | refine w_noPart ?_ | refine w_part ?_ | refine w_dictZ ?_ | refine w_lcA ?_ | refine w_ret ?_ | refine w_rt ?_ | refine w_ifS ?_ | refine w_next ?_ | refine w_break ?_ | refine w_cont ?_ | refine w_seq ?_ | refine w_asg ?_ | refine w_drop ?_ | refine w_par ?_ | refine w_sfld ?_ | refine w_asgT ?_ | refine w_gset ?_ | refine w_gname ?_ | refine w_gtup rfl ?_ | refine w_gcons ?_ | refine w_gnil ?_ | refine w_yes ?_) | refine w_bl ?_ | refine w_int ?_ | refine w_T ?_ | refine w_F ?_ | refine w_nT ?_ | refine w_nF ?_ | refine q_len_tup ?_ | refine q_int ?_ | refine q_intB ?_ | refine q_add ?_ | refine q_sub ?_ | refine q_neg ?_ | refine q_ord ?_ | refine q_ordS ?_ | refine q_tuple_tup ?_ | refine qEq_int ?_)))
  refine q_eqG gf h6 x.hg x.v.rev x.e.rev x.v x.e fun b2 hb2 => ?_
  (with_reducible (repeat (first | (first | refine w_var rfl ?_ | refine w_c ?_ | refine w_op ?_ | refine w_un ?_ | refine w_cl ?_ | refine w_nil ?_ | refine w_cons ?_ | refine w_tup ?_ | refine w_lst ?_ | refine w_test ?_ | refine w_not ?_ | refine w_and ?_ | refine w_or ?_ | refine w_andV ?_ | refine w_orV ?_ | refine w_notV ?_ | refine w_if ?_ | refine w_chn ?_ | refine w_call ?_ | refine w_make ?_ | refine w_fld ?_ | refine w_ml ?_ | refine w_ml0 ?_ | refine w_sl ?_ | refine w_slD ?_ | refine w_noPart ?_ | refine w_part ?_ | refine w_dictZ ?_ | refine w_lcA ?_ | refine w_ret ?_ | refine w_rt ?_ | refine w_ifS ?_ | refine w_next ?_ | refine w_break ?_ | refine w_cont ?_ | refine w_seq ?_ | refine w_asg ?_ | refine w_drop ?_ | refine w_par ?_ | refine w_sfld ?_ | refine w_asgT ?_ | refine w_gset ?_ | refine w_gname ?_ | refine w_gtup rfl ?_ | refine w_gcons ?_ | refine w_gnil ?_ | refine w_yes ?_) | refine w_bl ?_ | refine w_int ?_ | refine w_T ?_ | refine w_F ?_ | refine w_nT ?_ | refine w_nF ?_ | refine q_len_tup ?_ | refine q_int ?_ | refine q_intB ?_ | refine q_add ?_ | refine q_sub ?_ | refine q_neg ?_ | refine q_ord ?_ | refine q_ordS ?_ | refine q_tuple_tup ?_ | refine qEq_int ?_)))
  refine q_len_ad x.hp ?_
  (with_reducible (repeat (first | (first | refine w_var rfl ?_ | refine w_c ?_ | refine w_op ?_ | refine w_un ?_ | refine w_cl ?_ | refine w_nil ?_ | refine w_cons ?_ | refine w_tup ?_ | refine w_lst ?_ | refine w_test ?_ | refine w_not ?_ | refine w_and ?_ | refine w_or ?_ | refine w_andV ?_ | refine w_orV ?_ | refine w_notV ?_ | refine w_if ?_ | refine w_chn ?_ | refine w_call ?_ | refine w_make ?_ | refine w_fld ?_ | refine w_ml ?_ | refine w_ml0 ?_ | refine w_sl ?_ | refine w_slD ?_ | refine w_noPart ?_ | refine w_part ?_ | refine w_dictZ ?_ | refine w_lcA ?_ | refine w_ret ?_ | refine w_rt ?_ | refine w_ifS ?_ | refine w_next ?_ | refine w_break ?_ | refine w_cont ?_ | refine w_seq ?_ | refine w_asg ?_ | refine w_drop ?_ | refine w_par ?_ | refine w_sfld ?_ | refine w_asgT ?_ | refine w_gset ?_ | refine w_gname ?_ | refine w_gtup rfl ?_ | refine w_gcons ?_ | refine w_gnil ?_ | refine w_yes ?_) | refine w_bl ?_ | refine w_int ?_ | refine w_T ?_ | refine w_F ?_ | refine w_nT ?_ | refine w_nF ?_ | refine q_len_tup ?_ | refine q_int ?_ | refine q_intB ?_ | refine q_add ?_ | refine q_sub ?_ | refine q_neg ?_ | refine q_ord ?_ | refine q_ordS ?_ | refine q_tuple_tup ?_ | refine qEq_int ?_)))
  refine qEq_bl ?_
  rw [xb (key b2 (hb2.trans ⟨fun h => ⟨h.1.symm, rfl⟩, fun h => ⟨h.1.symm, rfl⟩⟩))]
  (with_reducible (repeat (first | (first | refine w_var rfl ?_ | refine w_c ?_ | refine w_op ?_ | refine w_un ?_ | refine w_cl ?_ | refine w_nil ?_ | refine w_cons ?_ | refine w_tup ?_ | refine w_lst ?_ | refine w_test ?_ | refine w_not ?_ | refine w_and ?_ | refine w_or ?_ | refine w_andV ?_ | refine w_orV ?_ | refine w_notV ?_ | refine w_if ?_ | refine w_chn ?_ | refine w_call ?_ | refine w_make ?_ | refine w_fld ?_ | refine w_ml ?_ | refine w_ml0 ?_ | refine w_sl ?_ | refine w_slD ?_ | refine w_noPart ?_ | refine w_part ?_ | refine w_dictZ ?_ | refine w_lcA ?_ | refine w_ret ?_ | refine w_rt ?_ | refine w_ifS ?_ | refine w_next ?_ | refine w_break ?_ | refine w_cont ?_ | refine w_seq ?_ | refine w_asg ?_ | refine w_drop ?_ | refine w_par ?_ | refine w_sfld ?_ | refine w_asgT ?_ | refine w_gset ?_ | refine w_gname ?_ | refine w_gtup rfl ?_ | refine w_gcons ?_ | refine w_gnil ?_ | refine w_yes ?_) | refine w_bl ?_ | refine w_int ?_ | refine w_T ?_ | refine w_F ?_ | refine w_nT ?_ | refine w_nF ?_ | refine q_len_tup ?_ | refine q_int ?_ | refine q_intB ?_ | refine q_add ?_ | refine q_sub ?_ | refine q_neg ?_ | refine q_ord ?_ | refine q_ordS ?_ | refine q_tuple_tup ?_ | refine qEq_int ?_)))
  exact ar_10 gf cx fin cu h7
theorem revCut_all {α : Type} (xs : List α) : revCut xs none = xs.reverse := by unfold revCut rvK; rfl
theorem cut_drop1 {α : Type} (xs : List α) : cutL xs (some 1) none = xs.drop 1 := by
  unfold cutL
  rw [show HT.sIx xs.length 0 (some 1) = min 1 xs.length from HT.sIx_nat xs.length 0 1, HT.sIx_none]
  cases xs with
  | nil => rfl
  | cons x r =>
    rw [show min 1 (x :: r).length = 1 by rw [List.length_cons]; omega]
    show List.take ((x :: r).length - 1) r = r
    rw [List.length_cons, Nat.add_sub_cancel]
    exact List.take_length
theorem ar_12 (gf : GF K c) (cx : Ctx c G0 s p r g ns es) (fin : ∀ G, Cur G0 s G → D.rt (.bl true) G) (cu : Cur G0 s G) : t_L_alike_right_12 K c R D [some (.ad s), some (.ad p), some (.ad r), some (.ad g), t4, t5, t6, t7, t8, t9, t10, t11] G := by
  have x := cx.cur cu
  unfold t_L_alike_right_12
  (with_reducible (repeat (first | (first | refine w_var rfl ?_ | refine w_c ?_ | refine w_op ?_ | refine w_un ?_ | refine w_cl ?_ | refine w_nil ?_ | refine w_cons ?_ | refine w_tup ?_ | refine w_lst ?_ | refine w_test ?_ | refine w_not ?_ | refine w_and ?_ | refine w_or ?_ | refine w_andV ?_ | refine w_orV ?_ | refine w_notV ?_ | refine w_if ?_ | refine w_chn ?_ | refine w_call ?_ | refine w_make ?_ | refine w_fld ?_ | refine w_ml ?_ | refine w_ml0 ?_ | refine w_sl ?_ | refine w_slD ?_ | refine w_noPart ?_ | refine w_part ?_ | refine w_dictZ ?_ | refine w_lcA ?_ | refine w_ret ?_ | refine w_rt ?_ | refine w_ifS ?_ | refine w_next ?_ | refine w_break ?_ | refine w_cont ?_ | refine w_seq ?_ | refine w_asg ?_ | refine w_drop ?_ | refine w_par ?_ | refine w_sfld ?_ | refine w_asgT ?_ | refine w_gset ?_ | refine w_gname ?_ | refine w_gtup rfl ?_ | refine w_gcons ?_ | refine w_gnil ?_ | refine w_yes ?_) | refine w_bl ?_ | refine w_int ?_ | refine w_T ?_ | refine w_F ?_ | refine w_nT ?_ | refine w_nF ?_ | refine q_len_tup ?_ | refine q_int ?_ | refine q_intB ?_ | refine q_add ?_ | refine q_sub ?_ | refine q_neg ?_ | refine q_ord ?_ | refine q_ordS ?_ | refine q_tuple_tup ?_ | refine qEq_int ?_)))
  refine ⟨rfl, ?_⟩
  refine q_slD_ad x.hp fun l1 hl1 => ?_
  rw [revCut_all, show (dS ns).reverse = dS ns.reverse by unfold dS; rw [List.map_reverse]]
  have cu1 := cu.new (o := .lst (dS ns.reverse)) hl1
  have x1 := cx.cur cu1
  (with_reducible (repeat (first | (first | refine w_var rfl ?_ | refine w_c ?_ | refine w_op ?_ | refine w_un ?_ | refine w_cl ?_ | refine w_nil ?_ | refine w_cons ?_ | refine w_tup ?_ | refine w_lst ?_ | refine w_test ?_ | refine w_not ?_ | refine w_and ?_ | refine w_or ?_ | refine w_andV ?_ | refine w_orV ?_ | refine w_notV ?_ | refine w_if ?_ | refine w_chn ?_ | refine w_call ?_ | refine w_make ?_ | refine w_fld ?_ | refine w_ml ?_ | refine w_ml0 ?_ | refine w_sl ?_ | refine w_slD ?_ | refine w_noPart ?_ | refine w_part ?_ | refine w_dictZ ?_ | refine w_lcA ?_ | refine w_ret ?_ | refine w_rt ?_ | refine w_ifS ?_ | refine w_next ?_ | refine w_break ?_ | refine w_cont ?_ | refine w_seq ?_ | refine w_asg ?_ | refine w_drop ?_ | refine w_par ?_ | refine w_sfld ?_ | refine w_asgT ?_ | refine w_gset ?_ | refine w_gname ?_ | refine w_gtup rfl ?_ | refine w_gcons ?_ | refine w_gnil ?_ | refine w_yes ?_) | refine w_bl ?_ | refine w_int ?_ | refine w_T ?_ | refine w_F ?_ | refine w_nT ?_ | refine w_nF ?_ | refine q_len_tup ?_ | refine q_int ?_ | refine q_intB ?_ | refine q_add ?_ | refine q_sub ?_ | refine q_neg ?_ | refine q_ord ?_ | refine q_ordS ?_ | refine q_tuple_tup ?_ | refine qEq_int ?_)))
  refine q_make (.inl ⟨l1, rfl, up_same⟩) (.inl ⟨r, rfl, x1.hr⟩) x.v.rev x.e.rev fun g6 hg6 => ?_
  have cu2 := cu1.new (o := .ins c.cGraph (gFs ns.reverse es)) hg6
  have x2 := cx.cur cu2
  (with_reducible (repeat (first | (first | refine w_var rfl ?_ | refine w_c ?_ | refine w_op ?_ | refine w_un ?_ | refine w_cl ?_ | refine w_nil ?_ | refine w_cons ?_ | refine w_tup ?_ | refine w_lst ?_ | refine w_test ?_ | refine w_not ?_ | refine w_and ?_ | refine w_or ?_ | refine w_andV ?_ | refine w_orV ?_ | refine w_notV ?_ | refine w_if ?_ | refine w_chn ?_ | refine w_call ?_ | refine w_make ?_ | refine w_fld ?_ | refine w_ml ?_ | refine w_ml0 ?_ | refine w_sl ?_ | refine w_slD ?_ | refine w_noPart ?_ | refine w_part ?_ | refine w_dictZ ?_ | refine w_lcA ?_ | refine w_ret ?_ | refine w_rt ?_ | refine w_ifS ?_ | refine w_next ?_ | refine w_break ?_ | refine w_cont ?_ | refine w_seq ?_ | refine w_asg ?_ | refine w_drop ?_ | refine w_par ?_ | refine w_sfld ?_ | refine w_asgT ?_ | refine w_gset ?_ | refine w_gname ?_ | refine w_gtup rfl ?_ | refine w_gcons ?_ | refine w_gnil ?_ | refine w_yes ?_) | refine w_bl ?_ | refine w_int ?_ | refine w_T ?_ | refine w_F ?_ | refine w_nT ?_ | refine w_nF ?_ | refine q_len_tup ?_ | refine q_int ?_ | refine q_intB ?_ | refine q_add ?_ | refine q_sub ?_ | refine q_neg ?_ | refine q_ord ?_ | refine q_ordS ?_ | refine q_tuple_tup ?_ | refine qEq_int ?_)))
  refine q_sl_ad x2.hr fun l2 hl2 => ?_
  rw [cut_drop1, show (dEs es).drop 1 = dEs (es.drop 1) by unfold dEs; rw [List.map_drop]]
  have cu3 := cu2.new (o := .lst (dEs (es.drop 1))) hl2
  have x3 := cx.cur cu3
  have h6 := HSub.new (o := .lst (dEs (es.drop 1))) hl2 g6 _ up_same
  (with_reducible (repeat (first | (first | refine w_var rfl ?_ | refine w_c ?_ | refine w_op ?_ | refine w_un ?_ | refine w_cl ?_ | refine w_nil ?_ | refine w_cons ?_ | refine w_tup ?_ | refine w_lst ?_ | refine w_test ?_ | refine w_not ?_ | refine w_and ?_ | refine w_or ?_ | refine w_andV ?_ | refine w_orV ?_ | refine w_notV ?_ | refine w_if ?_ | refine w_chn ?_ | refine w_call ?_ | refine w_make ?_ | refine w_fld ?_ | refine w_ml ?_ | refine w_ml0 ?_ | refine w_sl ?_ | refine w_slD ?_ | refine w_noPart ?_ | refine w_part ?_ | refine w_dictZ ?_ | refine w_lcA ?_ | refine w_ret ?_ | refine w_rt ?_ | refine w_ifS ?_ | refine w_next ?_ | refine w_break ?_ | refine w_cont ?_ | refine w_seq ?_ | refine w_asg ?_ | refine w_drop ?_ | refine w_par ?_ | refine w_sfld ?_ | refine w_asgT ?_ | refine w_gset ?_ | refine w_gname ?_ | refine w_gtup rfl ?_ | refine w_gcons ?_ | refine w_gnil ?_ | refine w_yes ?_) | refine w_bl ?_ | refine w_int ?_ | refine w_T ?_ | refine w_F ?_ | refine w_nT ?_ | refine w_nF ?_ | refine q_len_tup ?_ | refine q_int ?_ | refine q_intB ?_ | refine q_add ?_ | refine q_sub ?_ | refine q_neg ?_ | refine q_ord ?_ | refine q_ordS ?_ | refine q_tuple_tup ?_ | refine qEq_int ?_)))
  refine q_make (.inl ⟨p, rfl, x3.hp⟩) (.inl ⟨l2, rfl, up_same⟩) x.v (x.e.sub (List.drop_sublist 1 es)) fun g7 hg7 => ?_
  have cu4 := cu3.new (o := .ins c.cGraph (gFs ns (es.drop 1))) hg7
  have h6 := HSub.new (o := .ins c.cGraph (gFs ns (es.drop 1))) hg7 g6 _ h6
  (with_reducible (repeat (first | (first | refine w_var rfl ?_ | refine w_c ?_ | refine w_op ?_ | refine w_un ?_ | refine w_cl ?_ | refine w_nil ?_ | refine w_cons ?_ | refine w_tup ?_ | refine w_lst ?_ | refine w_test ?_ | refine w_not ?_ | refine w_and ?_ | refine w_or ?_ | refine w_andV ?_ | refine w_orV ?_ | refine w_notV ?_ | refine w_if ?_ | refine w_chn ?_ | refine w_call ?_ | refine w_make ?_ | refine w_fld ?_ | refine w_ml ?_ | refine w_ml0 ?_ | refine w_sl ?_ | refine w_slD ?_ | refine w_noPart ?_ | refine w_part ?_ | refine w_dictZ ?_ | refine w_lcA ?_ | refine w_ret ?_ | refine w_rt ?_ | refine w_ifS ?_ | refine w_next ?_ | refine w_break ?_ | refine w_cont ?_ | refine w_seq ?_ | refine w_asg ?_ | refine w_drop ?_ | refine w_par ?_ | refine w_sfld ?_ | refine w_asgT ?_ | refine w_gset ?_ | refine w_gname ?_ | refine w_gtup rfl ?_ | refine w_gcons ?_ | refine w_gnil ?_ | refine w_yes ?_) | refine w_bl ?_ | refine w_int ?_ | refine w_T ?_ | refine w_F ?_ | refine w_nT ?_ | refine w_nF ?_ | refine q_len_tup ?_ | refine q_int ?_ | refine q_intB ?_ | refine q_add ?_ | refine q_sub ?_ | refine q_neg ?_ | refine q_ord ?_ | refine q_ordS ?_ | refine q_tuple_tup ?_ | refine qEq_int ?_)))
  refine ⟨_, _, rfl, ?_⟩
  exact ar_11 gf cx fin cu4 h6 up_same
end
theorem pure_L_alike_right {K : PySem.W.Frag} {c : Ad} (gf : GF K c) : ∀ ws G Q E, Up Q → UpX E → sp_L_alike_right K c ws G Q E → t_L_alike_right K c (fun c f _ G => E c f G) { nx := fun _ G => Q .non G, rt := Q } (startT N_L_alike_right ws) G := by
  rintro _ G0 Q E hU _ ⟨_, ⟨s, p, r, g, ns, es, rfl, x, rfl⟩, q⟩
  have fin : ∀ G, Cur G0 s G → Q (.bl true) G := fun G h => h.ends hU fun a b d => q _ _ ⟨rfl, a, b, d, rfl⟩
  obtain ⟨a, b, d, hs⟩ := x.src
  unfold t_L_alike_right
  (with_reducible (repeat (first | (first | refine w_var rfl ?_ | refine w_c ?_ | refine w_op ?_ | refine w_un ?_ | refine w_cl ?_ | refine w_nil ?_ | refine w_cons ?_ | refine w_tup ?_ | refine w_lst ?_ | refine w_test ?_ | refine w_not ?_ | refine w_and ?_ | refine w_or ?_ | refine w_andV ?_ | refine w_orV ?_ | refine w_notV ?_ | refine w_if ?_ | refine w_chn ?_ | refine w_call ?_ | refine w_make ?_ | refine w_fld ?_ | refine w_ml ?_ | refine w_ml0 ?_ | refine w_sl ?_ | refine w_slD ?_ | refine w_noPart ?_ | refine w_part ?_ | refine w_dictZ ?_ | refine w_lcA ?_ | refine w_ret ?_ | refine w_rt ?_ | refine w_ifS ?_ | refine w_next ?_ | refine w_break ?_ | refine w_cont ?_ | refine w_seq ?_ | refine w_asg ?_ | refine w_drop ?_ | refine w_par ?_ | refine w_sfld ?_ | refine w_asgT ?_ | refine w_gset ?_ | refine w_gname ?_ | refine w_gtup rfl ?_ | refine w_gcons ?_ | refine w_gnil ?_ | refine w_yes ?_) | refine w_bl ?_ | refine w_int ?_ | refine w_T ?_ | refine w_F ?_ | refine w_nT ?_ | refine w_nF ?_ | refine q_len_tup ?_ | refine q_int ?_ | refine q_intB ?_ | refine q_add ?_ | refine q_sub ?_ | refine q_neg ?_ | refine q_ord ?_ | refine q_ordS ?_ | refine q_tuple_tup ?_ | refine qEq_int ?_)))
  refine q_tuple_ad x.hp ?_
  (with_reducible (repeat (first | (first | refine w_var rfl ?_ | refine w_c ?_ | refine w_op ?_ | refine w_un ?_ | refine w_cl ?_ | refine w_nil ?_ | refine w_cons ?_ | refine w_tup ?_ | refine w_lst ?_ | refine w_test ?_ | refine w_not ?_ | refine w_and ?_ | refine w_or ?_ | refine w_andV ?_ | refine w_orV ?_ | refine w_notV ?_ | refine w_if ?_ | refine w_chn ?_ | refine w_call ?_ | refine w_make ?_ | refine w_fld ?_ | refine w_ml ?_ | refine w_ml0 ?_ | refine w_sl ?_ | refine w_slD ?_ | refine w_noPart ?_ | refine w_part ?_ | refine w_dictZ ?_ | refine w_lcA ?_ | refine w_ret ?_ | refine w_rt ?_ | refine w_ifS ?_ | refine w_next ?_ | refine w_break ?_ | refine w_cont ?_ | refine w_seq ?_ | refine w_asg ?_ | refine w_drop ?_ | refine w_par ?_ | refine w_sfld ?_ | refine w_asgT ?_ | refine w_gset ?_ | refine w_gname ?_ | refine w_gtup rfl ?_ | refine w_gcons ?_ | refine w_gnil ?_ | refine w_yes ?_) | refine w_bl ?_ | refine w_int ?_ | refine w_T ?_ | refine w_F ?_ | refine w_nT ?_ | refine w_nF ?_ | refine q_len_tup ?_ | refine q_int ?_ | refine q_intB ?_ | refine q_add ?_ | refine q_sub ?_ | refine q_neg ?_ | refine q_ord ?_ | refine q_ordS ?_ | refine q_tuple_tup ?_ | refine qEq_int ?_)))
  refine ⟨_, ⟨s, a, b, d, .ad r, dEs es, rfl, hs, .ad x.hr, x.e.ev x.v, by rw [dEs_len]; have := x.e.few; omega, rfl⟩, ?_⟩
  rintro _ _ ⟨m, ys, a1, b1, d1, rfl, hys, hm, rfl⟩
  obtain ⟨fs, rfl, pm⟩ := perm_dEs hys
  have hm' : up G0 s (so a1 b1 d1) m = none := by
    rw [up_none]
    exact ⟨(fun e => by rw [e, hs] at hm; cases hm), hm⟩
  have cu1 := (x.self.set a1 b1 d1).new (o := .lst (dEs fs)) hm'
  (with_reducible (repeat (first | (first | refine w_var rfl ?_ | refine w_c ?_ | refine w_op ?_ | refine w_un ?_ | refine w_cl ?_ | refine w_nil ?_ | refine w_cons ?_ | refine w_tup ?_ | refine w_lst ?_ | refine w_test ?_ | refine w_not ?_ | refine w_and ?_ | refine w_or ?_ | refine w_andV ?_ | refine w_orV ?_ | refine w_notV ?_ | refine w_if ?_ | refine w_chn ?_ | refine w_call ?_ | refine w_make ?_ | refine w_fld ?_ | refine w_ml ?_ | refine w_ml0 ?_ | refine w_sl ?_ | refine w_slD ?_ | refine w_noPart ?_ | refine w_part ?_ | refine w_dictZ ?_ | refine w_lcA ?_ | refine w_ret ?_ | refine w_rt ?_ | refine w_ifS ?_ | refine w_next ?_ | refine w_break ?_ | refine w_cont ?_ | refine w_seq ?_ | refine w_asg ?_ | refine w_drop ?_ | refine w_par ?_ | refine w_sfld ?_ | refine w_asgT ?_ | refine w_gset ?_ | refine w_gname ?_ | refine w_gtup rfl ?_ | refine w_gcons ?_ | refine w_gnil ?_ | refine w_yes ?_) | refine w_bl ?_ | refine w_int ?_ | refine w_T ?_ | refine w_F ?_ | refine w_nT ?_ | refine w_nF ?_ | refine q_len_tup ?_ | refine q_int ?_ | refine q_intB ?_ | refine q_add ?_ | refine q_sub ?_ | refine q_neg ?_ | refine q_ord ?_ | refine q_ordS ?_ | refine q_tuple_tup ?_ | refine qEq_int ?_)))
  refine q_tuple_ad up_same ?_
  (with_reducible (repeat (first | (first | refine w_var rfl ?_ | refine w_c ?_ | refine w_op ?_ | refine w_un ?_ | refine w_cl ?_ | refine w_nil ?_ | refine w_cons ?_ | refine w_tup ?_ | refine w_lst ?_ | refine w_test ?_ | refine w_not ?_ | refine w_and ?_ | refine w_or ?_ | refine w_andV ?_ | refine w_orV ?_ | refine w_notV ?_ | refine w_if ?_ | refine w_chn ?_ | refine w_call ?_ | refine w_make ?_ | refine w_fld ?_ | refine w_ml ?_ | refine w_ml0 ?_ | refine w_sl ?_ | refine w_slD ?_ | refine w_noPart ?_ | refine w_part ?_ | refine w_dictZ ?_ | refine w_lcA ?_ | refine w_ret ?_ | refine w_rt ?_ | refine w_ifS ?_ | refine w_next ?_ | refine w_break ?_ | refine w_cont ?_ | refine w_seq ?_ | refine w_asg ?_ | refine w_drop ?_ | refine w_par ?_ | refine w_sfld ?_ | refine w_asgT ?_ | refine w_gset ?_ | refine w_gname ?_ | refine w_gtup rfl ?_ | refine w_gcons ?_ | refine w_gnil ?_ | refine w_yes ?_) | refine w_bl ?_ | refine w_int ?_ | refine w_T ?_ | refine w_F ?_ | refine w_nT ?_ | refine w_nF ?_ | refine q_len_tup ?_ | refine q_int ?_ | refine q_intB ?_ | refine q_add ?_ | refine q_sub ?_ | refine q_neg ?_ | refine q_ord ?_ | refine q_ordS ?_ | refine q_tuple_tup ?_ | refine qEq_int ?_)))
  refine q_make (.inr rfl) (.inr rfl) x.v (x.e.permE pm) fun g1 hg1 => ?_
  have cu2 := cu1.new (o := .ins c.cGraph (gFs ns fs)) hg1
  refine q_eqG_yes gf (x.cur cu2).hg up_same x.v x.e x.v (x.e.permE pm) ⟨rfl, sortE_eq.mpr pm.symm⟩ ?_
  (with_reducible (repeat (first | (first | refine w_var rfl ?_ | refine w_c ?_ | refine w_op ?_ | refine w_un ?_ | refine w_cl ?_ | refine w_nil ?_ | refine w_cons ?_ | refine w_tup ?_ | refine w_lst ?_ | refine w_test ?_ | refine w_not ?_ | refine w_and ?_ | refine w_or ?_ | refine w_andV ?_ | refine w_orV ?_ | refine w_notV ?_ | refine w_if ?_ | refine w_chn ?_ | refine w_call ?_ | refine w_make ?_ | refine w_fld ?_ | refine w_ml ?_ | refine w_ml0 ?_ | refine w_sl ?_ | refine w_slD ?_ | refine w_noPart ?_ | refine w_part ?_ | refine w_dictZ ?_ | refine w_lcA ?_ | refine w_ret ?_ | refine w_rt ?_ | refine w_ifS ?_ | refine w_next ?_ | refine w_break ?_ | refine w_cont ?_ | refine w_seq ?_ | refine w_asg ?_ | refine w_drop ?_ | refine w_par ?_ | refine w_sfld ?_ | refine w_asgT ?_ | refine w_gset ?_ | refine w_gname ?_ | refine w_gtup rfl ?_ | refine w_gcons ?_ | refine w_gnil ?_ | refine w_yes ?_) | refine w_bl ?_ | refine w_int ?_ | refine w_T ?_ | refine w_F ?_ | refine w_nT ?_ | refine w_nF ?_ | refine q_len_tup ?_ | refine q_int ?_ | refine q_intB ?_ | refine q_add ?_ | refine q_sub ?_ | refine q_neg ?_ | refine q_ord ?_ | refine q_ordS ?_ | refine q_tuple_tup ?_ | refine qEq_int ?_)))
  exact ar_12 gf x fin cu2

end M

set_option Elab.async false
set_option linter.all false
set_option maxRecDepth 100000
set_option maxHeartbeats 4000000
namespace M
open PySem PySem.Spec L2 S J
abbrev N_law : List Str := ["_law_script", "_law_cell", "_law_source", "_law_passed", "_law_graph", "_law_letter", "_law_letters", "_law_names", "_law_edges", "_law_one_here"]
def t_law_1 (K : PySem.W.Frag) (c : Ad) : JSt := (jIfS (jTest (jOp (qEq true) (jLc (jiAny (jVar 6)) (jgName 9) (jTest (jOp (qEq true) (jFld c.cGraph "vertices" (jMake c.cGraph (sp_Graph___init__ K c) (jCons (jLst (jCons (jVar 9) (jCons (jOp qAdd (jC (.str "z")) (jVar 5)) jNil))) (jCons (jLst jNil) jNil)))) (jTup (jCons (jVar 9) (jCons (jOp qAdd (jC (.str "z")) (jVar 5)) jNil))))) (jVar 9) [9]) (jLst jNil))) (jRet (jC (.bl false))) jNext)
def t_law_2 (K : PySem.W.Frag) (c : Ad) : JSt := (jSeq (jAsg (jCl qList2 (jCons (jC (.str "abcdefghijklmnopqrstuvwxyz")) jNil)) (jgName 6)) (t_law_1 K c))
def t_law_3 (K : PySem.W.Frag) (c : Ad) : JSt := (jSeq (jAsg (jCall (sp_L_one K c) (jCons (jVar 2) (jCons (jC (.str "abcdefghijklmnopqrstuvwxyz")) jNil))) (jgName 5)) (t_law_2 K c))
def t_law_4 (K : PySem.W.Frag) (c : Ad) : JSt := (jSeq (jIfS (jNot (jTest (jCall (sp_L_alike_right K c) (jCons (jVar 2) (jCons (jVar 7) (jCons (jVar 8) (jCons (jVar 4) jNil))))))) (jRet (jC (.bl false))) jNext) (t_law_3 K c))
def t_law_5 (K : PySem.W.Frag) (c : Ad) : JSt := (jSeq (jIfS (jOr (jTest (jOp (qEq true) (jFld c.cGraph "vertices" (jVar 4)) (jCl qTuple (jCons (jVar 7) jNil)))) (jTest (jOp (qEq true) (jFld c.cGraph "edges" (jVar 4)) (jCl qTuple (jCons (jCl qSorted (jCons (jVar 8) jNil)) jNil))))) (jRet (jC (.bl false))) jNext) (t_law_4 K c))
def t_law_6 (K : PySem.W.Frag) (c : Ad) : JSt := (jSeq (jDrop (jML0 qClear (jOp qIx2 (jVar 3) (jC (.int 1))))) (t_law_5 K c))
def t_law_7 (K : PySem.W.Frag) (c : Ad) : JSt := (jSeq (jDrop (jML qAppend (jOp qIx2 (jVar 3) (jC (.int 0))) (jCons (jC (.str "late")) jNil))) (t_law_6 K c))
def t_law_8 (K : PySem.W.Frag) (c : Ad) : JSt := (jSeq (jDrop (jML0 qReverse (jOp qIx2 (jVar 3) (jC (.int 0))))) (t_law_7 K c))
def t_law_9 (K : PySem.W.Frag) (c : Ad) : JSt := (jSeq (jIfS (jTest (jOp (qEq true) (jVar 3) (jLst (jCons (jVar 7) (jCons (jVar 8) jNil))))) (jRet (jC (.bl false))) jNext) (t_law_8 K c))
def t_law_10 (K : PySem.W.Frag) (c : Ad) : JSt := (jSeq (jAsg (jMake c.cGraph (sp_Graph___init__ K c) (jCons (jOp qIx2 (jVar 3) (jC (.int 0))) (jCons (jOp qIx2 (jVar 3) (jC (.int 1))) jNil))) (jgName 4)) (t_law_9 K c))
def t_law_11 (K : PySem.W.Frag) (c : Ad) : JSt := (jSeq (jAsg (jLst (jCons (jCl qList2 (jCons (jVar 7) jNil)) (jCons (jCl qList2 (jCons (jVar 8) jNil)) jNil))) (jgName 3)) (t_law_10 K c))
def t_law_12 (K : PySem.W.Frag) (c : Ad) : JSt := (jSeq (jAsg (jCall (sp_L_drawn K c) (jCons (jVar 2) jNil)) (jgTup 2 (jgCons (jgName 7) (jgCons (jgName 8) jgNil)))) (t_law_11 K c))
def t_law_13 (K : PySem.W.Frag) (c : Ad) : JSt := (jRet (jC (.bl true)))
def t_law (K : PySem.W.Frag) (c : Ad) : JSt := (jSeq (jFor (jiAny (jOp qAdd (jLst (jCons (jCall (sp_L_cell_at K c) (jCons (jVar 0) (jCons (jC (.int 0)) jNil))) jNil)) (jSl (jVar 0) (jPart (jC (.int 1))) (jPart (jC (.int 6)))))) (jgName 1) (jSeq (jAsg (jCall (sp_L_source_of K c) (jCons (jVar 1) jNil)) (jgName 2)) (t_law_12 K c))) (t_law_13 K c))
theorem len_law : ∀ ws G Q E, spLaw ws G Q E → ws.length = (["_law_script"] : List Str).length := by
  rintro _ _ _ _ ⟨_, rfl, _⟩; rfl
theorem q_sl_fl {xs : List Dv} {l u : Option Int} {G : Hq} {Q : KQ} (q : qNew (.lst (cutL xs l u)) G Q) : qSl (.fl xs) l u G Q := q
section
variable {K : PySem.W.Frag} {c : Ad} {R : JX} {D : JEnds} {G : Hq} {s p r g q3 p1 r1 : Addr} {ns : List Str} {es : List (Str × Str)} {sc t1 t3 t5 t6 t9 : Option Dv}
theorem zname {a b : Nat} (h : isLet a = true) (k : isLet b = true) : OkV [⟨#[a]⟩, ("z" : Str) ++ ⟨#[b]⟩] := by
  have e2 : (("z" : Str) ++ ⟨#[b]⟩).cps.toList = [122, b] := by rw [app_cps]; rfl
  refine ⟨(by show 1 ≤ 2; decide), (by show 2 ≤ 10; decide), fun n hn => ?_, ?_⟩
  · rcases List.mem_cons.mp hn with rfl | hn
    · unfold isName; simp [h]
    · rw [List.mem_singleton.mp hn]
      unfold isName; rw [e2]; simp [k]; decide
  · rw [List.nodup_cons]
    refine ⟨fun hm => ?_, by simp⟩
    have := congrArg (fun z : Str => z.cps.toList.length) (List.mem_singleton.mp hm)
    simp only [e2] at this
    simp at this
theorem OkE.nil {ns} : OkE ns [] := ⟨by decide, (fun e h => by cases h), List.nodup_nil⟩
theorem law_3 (gf : GF K c) {l : Addr} {o : Ob} (x : Ctx c G s p r g ns es) (hl : G l = some o) (ls : l ≠ s) (nx : ∀ G t5 t6 t9, G l = some o → D.nx [sc, t1, some (.ad s), t3, some (.ad g), t5, t6, some (.ad p), some (.ad r), t9] G) :
    t_law_3 K c R D [sc, t1, some (.ad s), t3, some (.ad g), t5, t6, some (.ad p), some (.ad r), t9] G := by
  obtain ⟨a, b, d, hs⟩ := x.src
  unfold t_law_3
  (with_reducible (repeat (first | (first | refine w_var rfl ?_ | refine w_c ?_ | refine w_op ?_ | refine w_un ?_ | refine w_cl ?_ | refine w_nil ?_ | refine w_cons ?_ | refine w_tup ?_ | refine w_lst ?_ | refine w_test ?_ | refine w_not ?_ | refine w_and ?_ | refine w_or ?_ | refine w_andV ?_ | refine w_orV ?_ | refine w_notV ?_ | refine w_if ?_ | refine w_chn ?_ | refine w_call ?_ | refine w_make ?_ | refine w_fld ?_ | refine w_ml ?_ | refine w_ml0 ?_ | refine w_sl ?_ | refine w_slD ?_ | refine w_noPart ?_ | refine w_part ?_ | refine w_dictZ ?_ | refine w_lcA ?_ | refine w_ret ?_ | refine w_rt ?_ | refine w_ifS ?_ | refine w_next ?_ | refine w_break ?_ | refine w_cont ?_ | refine w_seq ?_ | refine w_asg ?_ | refine w_drop ?_ | refine w_par ?_ | refine w_sfld ?_ | refine w_asgT ?_ | refine w_gset ?_ | refine w_gname ?_ | refine w_gtup rfl ?_ | refine w_gcons ?_ | refine w_gnil ?_ | refine w_yes ?_) | refine w_bl ?_ | refine w_int ?_ | refine w_T ?_ | refine w_F ?_ | refine w_nT ?_ | refine w_nF ?_ | refine q_len_tup ?_ | refine q_int ?_ | refine q_intB ?_ | refine q_add ?_ | refine q_sub ?_ | refine q_neg ?_ | refine q_ord ?_ | refine q_ordS ?_ | refine q_tuple_tup ?_ | refine qEq_int ?_)))
  refine ⟨_, ⟨s, a, b, d, .str letters, J.signs letters, rfl, hs, by rw [signs_len, letters_len]; decide, by rw [signs_len, letters_len]; decide, .inr ⟨letters, rfl, rfl, by rw [len_str, letters_len]; decide⟩, rfl⟩, ?_⟩
  rintro v _ ⟨a2, b2, d2, hv, rfl⟩
  obtain ⟨ch, hc, rfl⟩ := mem_signs hv
  have hch := List.all_eq_true.mp letters_all ch hc
  have hl1 : up G s (so a2 b2 d2) l = some o := by rw [up_ne ls]; exact hl
  generalize up G s (so a2 b2 d2) = G1 at hl1
  show t_law_2 K c _ _ _ _
  unfold t_law_2
  (with_reducible (repeat (first | (first | refine w_var rfl ?_ | refine w_c ?_ | refine w_op ?_ | refine w_un ?_ | refine w_cl ?_ | refine w_nil ?_ | refine w_cons ?_ | refine w_tup ?_ | refine w_lst ?_ | refine w_test ?_ | refine w_not ?_ | refine w_and ?_ | refine w_or ?_ | refine w_andV ?_ | refine w_orV ?_ | refine w_notV ?_ | refine w_if ?_ | refine w_chn ?_ | refine w_call ?_ | refine w_make ?_ | refine w_fld ?_ | refine w_ml ?_ | refine w_ml0 ?_ | refine w_sl ?_ | refine w_slD ?_ | refine w_noPart ?_ | refine w_part ?_ | refine w_dictZ ?_ | refine w_lcA ?_ | refine w_ret ?_ | refine w_rt ?_ | refine w_ifS ?_ | refine w_next ?_ | refine w_break ?_ | refine w_cont ?_ | refine w_seq ?_ | refine w_asg ?_ | refine w_drop ?_ | refine w_par ?_ | refine w_sfld ?_ | refine w_asgT ?_ | refine w_gset ?_ | refine w_gname ?_ | refine w_gtup rfl ?_ | refine w_gcons ?_ | refine w_gnil ?_ | refine w_yes ?_) | refine w_bl ?_ | refine w_int ?_ | refine w_T ?_ | refine w_F ?_ | refine w_nT ?_ | refine w_nF ?_ | refine q_len_tup ?_ | refine q_int ?_ | refine q_intB ?_ | refine q_add ?_ | refine q_sub ?_ | refine q_neg ?_ | refine q_ord ?_ | refine q_ordS ?_ | refine q_tuple_tup ?_ | refine qEq_int ?_)))
  refine .inr ⟨letters, rfl, by rw [len_str, letters_len]; decide, fun l2 hl2 => ?_⟩
  have hl2' := HSub.new (o := .lst (J.signs letters)) hl2 _ _ hl1
  show t_law_1 K c _ _ _ _
  unfold t_law_1
  (with_reducible (repeat (first | (first | refine w_var rfl ?_ | refine w_c ?_ | refine w_op ?_ | refine w_un ?_ | refine w_cl ?_ | refine w_nil ?_ | refine w_cons ?_ | refine w_tup ?_ | refine w_lst ?_ | refine w_test ?_ | refine w_not ?_ | refine w_and ?_ | refine w_or ?_ | refine w_andV ?_ | refine w_orV ?_ | refine w_notV ?_ | refine w_if ?_ | refine w_chn ?_ | refine w_call ?_ | refine w_make ?_ | refine w_fld ?_ | refine w_ml ?_ | refine w_ml0 ?_ | refine w_sl ?_ | refine w_slD ?_ | refine w_noPart ?_ | refine w_part ?_ | refine w_dictZ ?_ | refine w_lcA ?_ | refine w_ret ?_ | refine w_rt ?_ | refine w_ifS ?_ | refine w_next ?_ | refine w_break ?_ | refine w_cont ?_ | refine w_seq ?_ | refine w_asg ?_ | refine w_drop ?_ | refine w_par ?_ | refine w_sfld ?_ | refine w_asgT ?_ | refine w_gset ?_ | refine w_gname ?_ | refine w_gtup rfl ?_ | refine w_gcons ?_ | refine w_gnil ?_ | refine w_yes ?_) | refine w_bl ?_ | refine w_int ?_ | refine w_T ?_ | refine w_F ?_ | refine w_nT ?_ | refine w_nF ?_ | refine q_len_tup ?_ | refine q_int ?_ | refine q_intB ?_ | refine q_add ?_ | refine q_sub ?_ | refine q_neg ?_ | refine q_ord ?_ | refine q_ordS ?_ | refine q_tuple_tup ?_ | refine qEq_int ?_)))
  refine lc_at (xs := J.signs letters) (.ad up_same) (by rw [signs_len, letters_len]; decide) (fun _ => false) (fun y => y) (fun y hy => ?_) (fun l3 hl3 => ?_)
  · obtain ⟨k, hk, rfl⟩ := mem_signs hy
    have hk2 := List.all_eq_true.mp letters_all k hk
    have v := zname hk2 hch
    have ev : Evs [.str ⟨#[k]⟩, .str (("z" : Str) ++ ⟨#[ch]⟩)] := dS_ev v.name
    intro G2 s2 N A hN _
    (with_reducible (repeat (first | (first | refine w_var rfl ?_ | refine w_c ?_ | refine w_op ?_ | refine w_un ?_ | refine w_cl ?_ | refine w_nil ?_ | refine w_cons ?_ | refine w_tup ?_ | refine w_lst ?_ | refine w_test ?_ | refine w_not ?_ | refine w_and ?_ | refine w_or ?_ | refine w_andV ?_ | refine w_orV ?_ | refine w_notV ?_ | refine w_if ?_ | refine w_chn ?_ | refine w_call ?_ | refine w_make ?_ | refine w_fld ?_ | refine w_ml ?_ | refine w_ml0 ?_ | refine w_sl ?_ | refine w_slD ?_ | refine w_noPart ?_ | refine w_part ?_ | refine w_dictZ ?_ | refine w_lcA ?_ | refine w_ret ?_ | refine w_rt ?_ | refine w_ifS ?_ | refine w_next ?_ | refine w_break ?_ | refine w_cont ?_ | refine w_seq ?_ | refine w_asg ?_ | refine w_drop ?_ | refine w_par ?_ | refine w_sfld ?_ | refine w_asgT ?_ | refine w_gset ?_ | refine w_gname ?_ | refine w_gtup rfl ?_ | refine w_gcons ?_ | refine w_gnil ?_ | refine w_yes ?_) | refine w_bl ?_ | refine w_int ?_ | refine w_T ?_ | refine w_F ?_ | refine w_nT ?_ | refine w_nF ?_ | refine q_len_tup ?_ | refine q_int ?_ | refine q_intB ?_ | refine q_add ?_ | refine q_sub ?_ | refine q_neg ?_ | refine q_ord ?_ | refine q_ordS ?_ | refine q_tuple_tup ?_ | refine qEq_int ?_)))
    refine q_addS (by show 1 + 1 ≤ sizeLine; decide) ?_
    (with_reducible (repeat (first | (first | refine w_var rfl ?_ | refine w_c ?_ | refine w_op ?_ | refine w_un ?_ | refine w_cl ?_ | refine w_nil ?_ | refine w_cons ?_ | refine w_tup ?_ | refine w_lst ?_ | refine w_test ?_ | refine w_not ?_ | refine w_and ?_ | refine w_or ?_ | refine w_andV ?_ | refine w_orV ?_ | refine w_notV ?_ | refine w_if ?_ | refine w_chn ?_ | refine w_call ?_ | refine w_make ?_ | refine w_fld ?_ | refine w_ml ?_ | refine w_ml0 ?_ | refine w_sl ?_ | refine w_slD ?_ | refine w_noPart ?_ | refine w_part ?_ | refine w_dictZ ?_ | refine w_lcA ?_ | refine w_ret ?_ | refine w_rt ?_ | refine w_ifS ?_ | refine w_next ?_ | refine w_break ?_ | refine w_cont ?_ | refine w_seq ?_ | refine w_asg ?_ | refine w_drop ?_ | refine w_par ?_ | refine w_sfld ?_ | refine w_asgT ?_ | refine w_gset ?_ | refine w_gname ?_ | refine w_gtup rfl ?_ | refine w_gcons ?_ | refine w_gnil ?_ | refine w_yes ?_) | refine w_bl ?_ | refine w_int ?_ | refine w_T ?_ | refine w_F ?_ | refine w_nT ?_ | refine w_nF ?_ | refine q_len_tup ?_ | refine q_int ?_ | refine q_intB ?_ | refine q_add ?_ | refine q_sub ?_ | refine q_neg ?_ | refine q_ord ?_ | refine q_ordS ?_ | refine q_tuple_tup ?_ | refine qEq_int ?_)))
    refine ⟨by show 2 ≤ sizeLine; decide, fun m1 hm1 => ?_⟩
    (with_reducible (repeat (first | (first | refine w_var rfl ?_ | refine w_c ?_ | refine w_op ?_ | refine w_un ?_ | refine w_cl ?_ | refine w_nil ?_ | refine w_cons ?_ | refine w_tup ?_ | refine w_lst ?_ | refine w_test ?_ | refine w_not ?_ | refine w_and ?_ | refine w_or ?_ | refine w_andV ?_ | refine w_orV ?_ | refine w_notV ?_ | refine w_if ?_ | refine w_chn ?_ | refine w_call ?_ | refine w_make ?_ | refine w_fld ?_ | refine w_ml ?_ | refine w_ml0 ?_ | refine w_sl ?_ | refine w_slD ?_ | refine w_noPart ?_ | refine w_part ?_ | refine w_dictZ ?_ | refine w_lcA ?_ | refine w_ret ?_ | refine w_rt ?_ | refine w_ifS ?_ | refine w_next ?_ | refine w_break ?_ | refine w_cont ?_ | refine w_seq ?_ | refine w_asg ?_ | refine w_drop ?_ | refine w_par ?_ | refine w_sfld ?_ | refine w_asgT ?_ | refine w_gset ?_ | refine w_gname ?_ | refine w_gtup rfl ?_ | refine w_gcons ?_ | refine w_gnil ?_ | refine w_yes ?_) | refine w_bl ?_ | refine w_int ?_ | refine w_T ?_ | refine w_F ?_ | refine w_nT ?_ | refine w_nF ?_ | refine q_len_tup ?_ | refine q_int ?_ | refine q_intB ?_ | refine q_add ?_ | refine q_sub ?_ | refine q_neg ?_ | refine q_ord ?_ | refine q_ordS ?_ | refine q_tuple_tup ?_ | refine qEq_int ?_)))
    refine ⟨by show 0 ≤ sizeLine; decide, fun m2 hm2 => ?_⟩
    (with_reducible (repeat (first | (first | refine w_var rfl ?_ | refine w_c ?_ | refine w_op ?_ | refine w_un ?_ | refine w_cl ?_ | refine w_nil ?_ | refine w_cons ?_ | refine w_tup ?_ | refine w_lst ?_ | refine w_test ?_ | refine w_not ?_ | refine w_and ?_ | refine w_or ?_ | refine w_andV ?_ | refine w_orV ?_ | refine w_notV ?_ | refine w_if ?_ | refine w_chn ?_ | refine w_call ?_ | refine w_make ?_ | refine w_fld ?_ | refine w_ml ?_ | refine w_ml0 ?_ | refine w_sl ?_ | refine w_slD ?_ | refine w_noPart ?_ | refine w_part ?_ | refine w_dictZ ?_ | refine w_lcA ?_ | refine w_ret ?_ | refine w_rt ?_ | refine w_ifS ?_ | refine w_next ?_ | refine w_break ?_ | refine w_cont ?_ | refine w_seq ?_ | refine w_asg ?_ | refine w_drop ?_ | refine w_par ?_ | refine w_sfld ?_ | refine w_asgT ?_ | refine w_gset ?_ | refine w_gname ?_ | refine w_gtup rfl ?_ | refine w_gcons ?_ | refine w_gnil ?_ | refine w_yes ?_) | refine w_bl ?_ | refine w_int ?_ | refine w_T ?_ | refine w_F ?_ | refine w_nT ?_ | refine w_nF ?_ | refine q_len_tup ?_ | refine q_int ?_ | refine q_intB ?_ | refine q_add ?_ | refine q_sub ?_ | refine q_neg ?_ | refine q_ord ?_ | refine q_ordS ?_ | refine q_tuple_tup ?_ | refine qEq_int ?_)))
    refine q_make (ns := [⟨#[k]⟩, ("z" : Str) ++ ⟨#[ch]⟩]) (es := []) (.inl ⟨m1, rfl, HSub.new hm2 _ _ up_same⟩) (.inl ⟨m2, rfl, up_same⟩) v OkE.nil fun g1 hg1 => ?_
    (with_reducible (repeat (first | (first | refine w_var rfl ?_ | refine w_c ?_ | refine w_op ?_ | refine w_un ?_ | refine w_cl ?_ | refine w_nil ?_ | refine w_cons ?_ | refine w_tup ?_ | refine w_lst ?_ | refine w_test ?_ | refine w_not ?_ | refine w_and ?_ | refine w_or ?_ | refine w_andV ?_ | refine w_orV ?_ | refine w_notV ?_ | refine w_if ?_ | refine w_chn ?_ | refine w_call ?_ | refine w_make ?_ | refine w_fld ?_ | refine w_ml ?_ | refine w_ml0 ?_ | refine w_sl ?_ | refine w_slD ?_ | refine w_noPart ?_ | refine w_part ?_ | refine w_dictZ ?_ | refine w_lcA ?_ | refine w_ret ?_ | refine w_rt ?_ | refine w_ifS ?_ | refine w_next ?_ | refine w_break ?_ | refine w_cont ?_ | refine w_seq ?_ | refine w_asg ?_ | refine w_drop ?_ | refine w_par ?_ | refine w_sfld ?_ | refine w_asgT ?_ | refine w_gset ?_ | refine w_gname ?_ | refine w_gtup rfl ?_ | refine w_gcons ?_ | refine w_gnil ?_ | refine w_yes ?_) | refine w_bl ?_ | refine w_int ?_ | refine w_T ?_ | refine w_F ?_ | refine w_nT ?_ | refine w_nF ?_ | refine q_len_tup ?_ | refine q_int ?_ | refine q_intB ?_ | refine q_add ?_ | refine q_sub ?_ | refine q_neg ?_ | refine q_ord ?_ | refine q_ordS ?_ | refine q_tuple_tup ?_ | refine qEq_int ?_)))
    refine ⟨g1, _, _, rfl, up_same, gFs_v, ?_⟩
    (with_reducible (repeat (first | (first | refine w_var rfl ?_ | refine w_c ?_ | refine w_op ?_ | refine w_un ?_ | refine w_cl ?_ | refine w_nil ?_ | refine w_cons ?_ | refine w_tup ?_ | refine w_lst ?_ | refine w_test ?_ | refine w_not ?_ | refine w_and ?_ | refine w_or ?_ | refine w_andV ?_ | refine w_orV ?_ | refine w_notV ?_ | refine w_if ?_ | refine w_chn ?_ | refine w_call ?_ | refine w_make ?_ | refine w_fld ?_ | refine w_ml ?_ | refine w_ml0 ?_ | refine w_sl ?_ | refine w_slD ?_ | refine w_noPart ?_ | refine w_part ?_ | refine w_dictZ ?_ | refine w_lcA ?_ | refine w_ret ?_ | refine w_rt ?_ | refine w_ifS ?_ | refine w_next ?_ | refine w_break ?_ | refine w_cont ?_ | refine w_seq ?_ | refine w_asg ?_ | refine w_drop ?_ | refine w_par ?_ | refine w_sfld ?_ | refine w_asgT ?_ | refine w_gset ?_ | refine w_gname ?_ | refine w_gtup rfl ?_ | refine w_gcons ?_ | refine w_gnil ?_ | refine w_yes ?_) | refine w_bl ?_ | refine w_int ?_ | refine w_T ?_ | refine w_F ?_ | refine w_nT ?_ | refine w_nF ?_ | refine q_len_tup ?_ | refine q_int ?_ | refine q_intB ?_ | refine q_add ?_ | refine q_sub ?_ | refine q_neg ?_ | refine q_ord ?_ | refine q_ordS ?_ | refine q_tuple_tup ?_ | refine qEq_int ?_)))
    refine q_addS (by show 1 + 1 ≤ sizeLine; decide) ?_
    (with_reducible (repeat (first | (first | refine w_var rfl ?_ | refine w_c ?_ | refine w_op ?_ | refine w_un ?_ | refine w_cl ?_ | refine w_nil ?_ | refine w_cons ?_ | refine w_tup ?_ | refine w_lst ?_ | refine w_test ?_ | refine w_not ?_ | refine w_and ?_ | refine w_or ?_ | refine w_andV ?_ | refine w_orV ?_ | refine w_notV ?_ | refine w_if ?_ | refine w_chn ?_ | refine w_call ?_ | refine w_make ?_ | refine w_fld ?_ | refine w_ml ?_ | refine w_ml0 ?_ | refine w_sl ?_ | refine w_slD ?_ | refine w_noPart ?_ | refine w_part ?_ | refine w_dictZ ?_ | refine w_lcA ?_ | refine w_ret ?_ | refine w_rt ?_ | refine w_ifS ?_ | refine w_next ?_ | refine w_break ?_ | refine w_cont ?_ | refine w_seq ?_ | refine w_asg ?_ | refine w_drop ?_ | refine w_par ?_ | refine w_sfld ?_ | refine w_asgT ?_ | refine w_gset ?_ | refine w_gname ?_ | refine w_gtup rfl ?_ | refine w_gcons ?_ | refine w_gnil ?_ | refine w_yes ?_) | refine w_bl ?_ | refine w_int ?_ | refine w_T ?_ | refine w_F ?_ | refine w_nT ?_ | refine w_nF ?_ | refine q_len_tup ?_ | refine q_int ?_ | refine q_intB ?_ | refine q_add ?_ | refine q_sub ?_ | refine q_neg ?_ | refine q_ord ?_ | refine q_ordS ?_ | refine q_tuple_tup ?_ | refine qEq_int ?_)))
    refine ⟨by show 2 ≤ sizeLine; decide, ?_⟩
    refine qEq_tup (dS_ev v.name) ev fun b hb => ?_
    rw [hb.mpr rfl]
    (with_reducible (repeat (first | (first | refine w_var rfl ?_ | refine w_c ?_ | refine w_op ?_ | refine w_un ?_ | refine w_cl ?_ | refine w_nil ?_ | refine w_cons ?_ | refine w_tup ?_ | refine w_lst ?_ | refine w_test ?_ | refine w_not ?_ | refine w_and ?_ | refine w_or ?_ | refine w_andV ?_ | refine w_orV ?_ | refine w_notV ?_ | refine w_if ?_ | refine w_chn ?_ | refine w_call ?_ | refine w_make ?_ | refine w_fld ?_ | refine w_ml ?_ | refine w_ml0 ?_ | refine w_sl ?_ | refine w_slD ?_ | refine w_noPart ?_ | refine w_part ?_ | refine w_dictZ ?_ | refine w_lcA ?_ | refine w_ret ?_ | refine w_rt ?_ | refine w_ifS ?_ | refine w_next ?_ | refine w_break ?_ | refine w_cont ?_ | refine w_seq ?_ | refine w_asg ?_ | refine w_drop ?_ | refine w_par ?_ | refine w_sfld ?_ | refine w_asgT ?_ | refine w_gset ?_ | refine w_gname ?_ | refine w_gtup rfl ?_ | refine w_gcons ?_ | refine w_gnil ?_ | refine w_yes ?_) | refine w_bl ?_ | refine w_int ?_ | refine w_T ?_ | refine w_F ?_ | refine w_nT ?_ | refine w_nF ?_ | refine q_len_tup ?_ | refine q_int ?_ | refine q_intB ?_ | refine q_add ?_ | refine q_sub ?_ | refine q_neg ?_ | refine q_ord ?_ | refine q_ordS ?_ | refine q_tuple_tup ?_ | refine qEq_int ?_)))
    refine iteF rfl ?_
    exact hN rfl _ (((HSub.new hm1).trans (HSub.new hm2)).trans (HSub.new hg1))
  · (with_reducible (repeat (first | (first | refine w_var rfl ?_ | refine w_c ?_ | refine w_op ?_ | refine w_un ?_ | refine w_cl ?_ | refine w_nil ?_ | refine w_cons ?_ | refine w_tup ?_ | refine w_lst ?_ | refine w_test ?_ | refine w_not ?_ | refine w_and ?_ | refine w_or ?_ | refine w_andV ?_ | refine w_orV ?_ | refine w_notV ?_ | refine w_if ?_ | refine w_chn ?_ | refine w_call ?_ | refine w_make ?_ | refine w_fld ?_ | refine w_ml ?_ | refine w_ml0 ?_ | refine w_sl ?_ | refine w_slD ?_ | refine w_noPart ?_ | refine w_part ?_ | refine w_dictZ ?_ | refine w_lcA ?_ | refine w_ret ?_ | refine w_rt ?_ | refine w_ifS ?_ | refine w_next ?_ | refine w_break ?_ | refine w_cont ?_ | refine w_seq ?_ | refine w_asg ?_ | refine w_drop ?_ | refine w_par ?_ | refine w_sfld ?_ | refine w_asgT ?_ | refine w_gset ?_ | refine w_gname ?_ | refine w_gtup rfl ?_ | refine w_gcons ?_ | refine w_gnil ?_ | refine w_yes ?_) | refine w_bl ?_ | refine w_int ?_ | refine w_T ?_ | refine w_F ?_ | refine w_nT ?_ | refine w_nF ?_ | refine q_len_tup ?_ | refine q_int ?_ | refine q_intB ?_ | refine q_add ?_ | refine q_sub ?_ | refine q_neg ?_ | refine q_ord ?_ | refine q_ordS ?_ | refine q_tuple_tup ?_ | refine qEq_int ?_)))
    refine ⟨by show 0 ≤ sizeLine; decide, fun l4 hl4 => ?_⟩
    refine qEq_lst (xs := []) (ys := []) (HSub.new hl4 _ _ (by rw [up_same]; simp)) up_same .nil .nil fun b hb => ?_
    rw [hb.mpr rfl]
    (with_reducible (repeat (first | (first | refine w_var rfl ?_ | refine w_c ?_ | refine w_op ?_ | refine w_un ?_ | refine w_cl ?_ | refine w_nil ?_ | refine w_cons ?_ | refine w_tup ?_ | refine w_lst ?_ | refine w_test ?_ | refine w_not ?_ | refine w_and ?_ | refine w_or ?_ | refine w_andV ?_ | refine w_orV ?_ | refine w_notV ?_ | refine w_if ?_ | refine w_chn ?_ | refine w_call ?_ | refine w_make ?_ | refine w_fld ?_ | refine w_ml ?_ | refine w_ml0 ?_ | refine w_sl ?_ | refine w_slD ?_ | refine w_noPart ?_ | refine w_part ?_ | refine w_dictZ ?_ | refine w_lcA ?_ | refine w_ret ?_ | refine w_rt ?_ | refine w_ifS ?_ | refine w_next ?_ | refine w_break ?_ | refine w_cont ?_ | refine w_seq ?_ | refine w_asg ?_ | refine w_drop ?_ | refine w_par ?_ | refine w_sfld ?_ | refine w_asgT ?_ | refine w_gset ?_ | refine w_gname ?_ | refine w_gtup rfl ?_ | refine w_gcons ?_ | refine w_gnil ?_ | refine w_yes ?_) | refine w_bl ?_ | refine w_int ?_ | refine w_T ?_ | refine w_F ?_ | refine w_nT ?_ | refine w_nF ?_ | refine q_len_tup ?_ | refine q_int ?_ | refine q_intB ?_ | refine q_add ?_ | refine q_sub ?_ | refine q_neg ?_ | refine q_ord ?_ | refine q_ordS ?_ | refine q_tuple_tup ?_ | refine qEq_int ?_)))
    refine iteF rfl ?_
    (with_reducible (repeat (first | (first | refine w_var rfl ?_ | refine w_c ?_ | refine w_op ?_ | refine w_un ?_ | refine w_cl ?_ | refine w_nil ?_ | refine w_cons ?_ | refine w_tup ?_ | refine w_lst ?_ | refine w_test ?_ | refine w_not ?_ | refine w_and ?_ | refine w_or ?_ | refine w_andV ?_ | refine w_orV ?_ | refine w_notV ?_ | refine w_if ?_ | refine w_chn ?_ | refine w_call ?_ | refine w_make ?_ | refine w_fld ?_ | refine w_ml ?_ | refine w_ml0 ?_ | refine w_sl ?_ | refine w_slD ?_ | refine w_noPart ?_ | refine w_part ?_ | refine w_dictZ ?_ | refine w_lcA ?_ | refine w_ret ?_ | refine w_rt ?_ | refine w_ifS ?_ | refine w_next ?_ | refine w_break ?_ | refine w_cont ?_ | refine w_seq ?_ | refine w_asg ?_ | refine w_drop ?_ | refine w_par ?_ | refine w_sfld ?_ | refine w_asgT ?_ | refine w_gset ?_ | refine w_gname ?_ | refine w_gtup rfl ?_ | refine w_gcons ?_ | refine w_gnil ?_ | refine w_yes ?_) | refine w_bl ?_ | refine w_int ?_ | refine w_T ?_ | refine w_F ?_ | refine w_nT ?_ | refine w_nF ?_ | refine q_len_tup ?_ | refine q_int ?_ | refine q_intB ?_ | refine q_add ?_ | refine q_sub ?_ | refine q_neg ?_ | refine q_ord ?_ | refine q_ordS ?_ | refine q_tuple_tup ?_ | refine qEq_int ?_)))
    exact nx _ _ _ _ (HSub.new hl4 _ _ (HSub.new hl3 _ _ hl2'))
theorem law_5 (gf : GF K c) {l : Addr} {o : Ob} (x : Ctx c G s p r g ns es) (hl : G l = some o) (ls : l ≠ s) (nx : ∀ G t5 t6 t9, G l = some o → D.nx [sc, t1, some (.ad s), t3, some (.ad g), t5, t6, some (.ad p), some (.ad r), t9] G) :
    t_law_5 K c R D [sc, t1, some (.ad s), t3, some (.ad g), t5, t6, some (.ad p), some (.ad r), t9] G := by
  unfold t_law_5
  (with_reducible (repeat (first | (first | refine w_var rfl ?_ | refine w_c ?_ | refine w_op ?_ | refine w_un ?_ | refine w_cl ?_ | refine w_nil ?_ | refine w_cons ?_ | refine w_tup ?_ | refine w_lst ?_ | refine w_test ?_ | refine w_not ?_ | refine w_and ?_ | refine w_or ?_ | refine w_andV ?_ | refine w_orV ?_ | refine w_notV ?_ | refine w_if ?_ | refine w_chn ?_ | refine w_call ?_ | refine w_make ?_ | refine w_fld ?_ | refine w_ml ?_ | refine w_ml0 ?_ | refine w_sl ?_ | refine w_slD ?_ | refine w_noPart ?_ | refine w_part ?_ | refine w_dictZ ?_ | refine w_lcA ?_ | refine w_ret ?_ | refine w_rt ?_ | refine w_ifS ?_ | refine w_next ?_ | refine w_break ?_ | refine w_cont ?_ | refine w_seq ?_ | refine w_asg ?_ | refine w_drop ?_ | refine w_par ?_ | refine w_sfld ?_ | refine w_asgT ?_ | refine w_gset ?_ | refine w_gname ?_ | refine w_gtup rfl ?_ | refine w_gcons ?_ | refine w_gnil ?_ | refine w_yes ?_) | refine w_bl ?_ | refine w_int ?_ | refine w_T ?_ | refine w_F ?_ | refine w_nT ?_ | refine w_nF ?_ | refine q_len_tup ?_ | refine q_int ?_ | refine q_intB ?_ | refine q_add ?_ | refine q_sub ?_ | refine q_neg ?_ | refine q_ord ?_ | refine q_ordS ?_ | refine q_tuple_tup ?_ | refine qEq_int ?_)))
  refine ⟨g, _, _, rfl, x.hg, gFs_v, ?_⟩
  (with_reducible (repeat (first | (first | refine w_var rfl ?_ | refine w_c ?_ | refine w_op ?_ | refine w_un ?_ | refine w_cl ?_ | refine w_nil ?_ | refine w_cons ?_ | refine w_tup ?_ | refine w_lst ?_ | refine w_test ?_ | refine w_not ?_ | refine w_and ?_ | refine w_or ?_ | refine w_andV ?_ | refine w_orV ?_ | refine w_notV ?_ | refine w_if ?_ | refine w_chn ?_ | refine w_call ?_ | refine w_make ?_ | refine w_fld ?_ | refine w_ml ?_ | refine w_ml0 ?_ | refine w_sl ?_ | refine w_slD ?_ | refine w_noPart ?_ | refine w_part ?_ | refine w_dictZ ?_ | refine w_lcA ?_ | refine w_ret ?_ | refine w_rt ?_ | refine w_ifS ?_ | refine w_next ?_ | refine w_break ?_ | refine w_cont ?_ | refine w_seq ?_ | refine w_asg ?_ | refine w_drop ?_ | refine w_par ?_ | refine w_sfld ?_ | refine w_asgT ?_ | refine w_gset ?_ | refine w_gname ?_ | refine w_gtup rfl ?_ | refine w_gcons ?_ | refine w_gnil ?_ | refine w_yes ?_) | refine w_bl ?_ | refine w_int ?_ | refine w_T ?_ | refine w_F ?_ | refine w_nT ?_ | refine w_nF ?_ | refine q_len_tup ?_ | refine q_int ?_ | refine q_intB ?_ | refine q_add ?_ | refine q_sub ?_ | refine q_neg ?_ | refine q_ord ?_ | refine q_ordS ?_ | refine q_tuple_tup ?_ | refine qEq_int ?_)))
  refine q_tuple_ad x.hp ?_
  (with_reducible (repeat (first | (first | refine w_var rfl ?_ | refine w_c ?_ | refine w_op ?_ | refine w_un ?_ | refine w_cl ?_ | refine w_nil ?_ | refine w_cons ?_ | refine w_tup ?_ | refine w_lst ?_ | refine w_test ?_ | refine w_not ?_ | refine w_and ?_ | refine w_or ?_ | refine w_andV ?_ | refine w_orV ?_ | refine w_notV ?_ | refine w_if ?_ | refine w_chn ?_ | refine w_call ?_ | refine w_make ?_ | refine w_fld ?_ | refine w_ml ?_ | refine w_ml0 ?_ | refine w_sl ?_ | refine w_slD ?_ | refine w_noPart ?_ | refine w_part ?_ | refine w_dictZ ?_ | refine w_lcA ?_ | refine w_ret ?_ | refine w_rt ?_ | refine w_ifS ?_ | refine w_next ?_ | refine w_break ?_ | refine w_cont ?_ | refine w_seq ?_ | refine w_asg ?_ | refine w_drop ?_ | refine w_par ?_ | refine w_sfld ?_ | refine w_asgT ?_ | refine w_gset ?_ | refine w_gname ?_ | refine w_gtup rfl ?_ | refine w_gcons ?_ | refine w_gnil ?_ | refine w_yes ?_) | refine w_bl ?_ | refine w_int ?_ | refine w_T ?_ | refine w_F ?_ | refine w_nT ?_ | refine w_nF ?_ | refine q_len_tup ?_ | refine q_int ?_ | refine q_intB ?_ | refine q_add ?_ | refine q_sub ?_ | refine q_neg ?_ | refine q_ord ?_ | refine q_ordS ?_ | refine q_tuple_tup ?_ | refine qEq_int ?_)))
  refine qEq_tup (dS_ev x.v.name) (dS_ev x.v.name) fun b hb => ?_
  rw [hb.mpr rfl]
  (with_reducible (repeat (first | (first | refine w_var rfl ?_ | refine w_c ?_ | refine w_op ?_ | refine w_un ?_ | refine w_cl ?_ | refine w_nil ?_ | refine w_cons ?_ | refine w_tup ?_ | refine w_lst ?_ | refine w_test ?_ | refine w_not ?_ | refine w_and ?_ | refine w_or ?_ | refine w_andV ?_ | refine w_orV ?_ | refine w_notV ?_ | refine w_if ?_ | refine w_chn ?_ | refine w_call ?_ | refine w_make ?_ | refine w_fld ?_ | refine w_ml ?_ | refine w_ml0 ?_ | refine w_sl ?_ | refine w_slD ?_ | refine w_noPart ?_ | refine w_part ?_ | refine w_dictZ ?_ | refine w_lcA ?_ | refine w_ret ?_ | refine w_rt ?_ | refine w_ifS ?_ | refine w_next ?_ | refine w_break ?_ | refine w_cont ?_ | refine w_seq ?_ | refine w_asg ?_ | refine w_drop ?_ | refine w_par ?_ | refine w_sfld ?_ | refine w_asgT ?_ | refine w_gset ?_ | refine w_gname ?_ | refine w_gtup rfl ?_ | refine w_gcons ?_ | refine w_gnil ?_ | refine w_yes ?_) | refine w_bl ?_ | refine w_int ?_ | refine w_T ?_ | refine w_F ?_ | refine w_nT ?_ | refine w_nF ?_ | refine q_len_tup ?_ | refine q_int ?_ | refine q_intB ?_ | refine q_add ?_ | refine q_sub ?_ | refine q_neg ?_ | refine q_ord ?_ | refine q_ordS ?_ | refine q_tuple_tup ?_ | refine qEq_int ?_)))
  refine iteF rfl ?_
  (with_reducible (repeat (first | (first | refine w_var rfl ?_ | refine w_c ?_ | refine w_op ?_ | refine w_un ?_ | refine w_cl ?_ | refine w_nil ?_ | refine w_cons ?_ | refine w_tup ?_ | refine w_lst ?_ | refine w_test ?_ | refine w_not ?_ | refine w_and ?_ | refine w_or ?_ | refine w_andV ?_ | refine w_orV ?_ | refine w_notV ?_ | refine w_if ?_ | refine w_chn ?_ | refine w_call ?_ | refine w_make ?_ | refine w_fld ?_ | refine w_ml ?_ | refine w_ml0 ?_ | refine w_sl ?_ | refine w_slD ?_ | refine w_noPart ?_ | refine w_part ?_ | refine w_dictZ ?_ | refine w_lcA ?_ | refine w_ret ?_ | refine w_rt ?_ | refine w_ifS ?_ | refine w_next ?_ | refine w_break ?_ | refine w_cont ?_ | refine w_seq ?_ | refine w_asg ?_ | refine w_drop ?_ | refine w_par ?_ | refine w_sfld ?_ | refine w_asgT ?_ | refine w_gset ?_ | refine w_gname ?_ | refine w_gtup rfl ?_ | refine w_gcons ?_ | refine w_gnil ?_ | refine w_yes ?_) | refine w_bl ?_ | refine w_int ?_ | refine w_T ?_ | refine w_F ?_ | refine w_nT ?_ | refine w_nF ?_ | refine q_len_tup ?_ | refine q_int ?_ | refine q_intB ?_ | refine q_add ?_ | refine q_sub ?_ | refine q_neg ?_ | refine q_ord ?_ | refine q_ordS ?_ | refine q_tuple_tup ?_ | refine qEq_int ?_)))
  refine ⟨g, _, _, rfl, x.hg, gFs_e, ?_⟩
  (with_reducible (repeat (first | (first | refine w_var rfl ?_ | refine w_c ?_ | refine w_op ?_ | refine w_un ?_ | refine w_cl ?_ | refine w_nil ?_ | refine w_cons ?_ | refine w_tup ?_ | refine w_lst ?_ | refine w_test ?_ | refine w_not ?_ | refine w_and ?_ | refine w_or ?_ | refine w_andV ?_ | refine w_orV ?_ | refine w_notV ?_ | refine w_if ?_ | refine w_chn ?_ | refine w_call ?_ | refine w_make ?_ | refine w_fld ?_ | refine w_ml ?_ | refine w_ml0 ?_ | refine w_sl ?_ | refine w_slD ?_ | refine w_noPart ?_ | refine w_part ?_ | refine w_dictZ ?_ | refine w_lcA ?_ | refine w_ret ?_ | refine w_rt ?_ | refine w_ifS ?_ | refine w_next ?_ | refine w_break ?_ | refine w_cont ?_ | refine w_seq ?_ | refine w_asg ?_ | refine w_drop ?_ | refine w_par ?_ | refine w_sfld ?_ | refine w_asgT ?_ | refine w_gset ?_ | refine w_gname ?_ | refine w_gtup rfl ?_ | refine w_gcons ?_ | refine w_gnil ?_ | refine w_yes ?_) | refine w_bl ?_ | refine w_int ?_ | refine w_T ?_ | refine w_F ?_ | refine w_nT ?_ | refine w_nF ?_ | refine q_len_tup ?_ | refine q_int ?_ | refine q_intB ?_ | refine q_add ?_ | refine q_sub ?_ | refine q_neg ?_ | refine q_ord ?_ | refine q_ordS ?_ | refine q_tuple_tup ?_ | refine qEq_int ?_)))
  refine ⟨.ad r, _, rfl, .ad x.hr, sortOkE es, fun m hm => ?_⟩
  rw [sortE_d]
  have cu := x.self.new (o := .lst (dEs (sortE es))) hm
  have x := x.cur cu
  have hl := HSub.new (o := .lst (dEs (sortE es))) hm _ _ hl
  (with_reducible (repeat (first | (first | refine w_var rfl ?_ | refine w_c ?_ | refine w_op ?_ | refine w_un ?_ | refine w_cl ?_ | refine w_nil ?_ | refine w_cons ?_ | refine w_tup ?_ | refine w_lst ?_ | refine w_test ?_ | refine w_not ?_ | refine w_and ?_ | refine w_or ?_ | refine w_andV ?_ | refine w_orV ?_ | refine w_notV ?_ | refine w_if ?_ | refine w_chn ?_ | refine w_call ?_ | refine w_make ?_ | refine w_fld ?_ | refine w_ml ?_ | refine w_ml0 ?_ | refine w_sl ?_ | refine w_slD ?_ | refine w_noPart ?_ | refine w_part ?_ | refine w_dictZ ?_ | refine w_lcA ?_ | refine w_ret ?_ | refine w_rt ?_ | refine w_ifS ?_ | refine w_next ?_ | refine w_break ?_ | refine w_cont ?_ | refine w_seq ?_ | refine w_asg ?_ | refine w_drop ?_ | refine w_par ?_ | refine w_sfld ?_ | refine w_asgT ?_ | refine w_gset ?_ | refine w_gname ?_ | refine w_gtup rfl ?_ | refine w_gcons ?_ | refine w_gnil ?_ | refine w_yes ?_) | refine w_bl ?_ | refine w_int ?_ | refine w_T ?_ | refine w_F ?_ | refine w_nT ?_ | refine w_nF ?_ | refine q_len_tup ?_ | refine q_int ?_ | refine q_intB ?_ | refine q_add ?_ | refine q_sub ?_ | refine q_neg ?_ | refine q_ord ?_ | refine q_ordS ?_ | refine q_tuple_tup ?_ | refine qEq_int ?_)))
  refine q_tuple_ad up_same ?_
  (with_reducible (repeat (first | (first | refine w_var rfl ?_ | refine w_c ?_ | refine w_op ?_ | refine w_un ?_ | refine w_cl ?_ | refine w_nil ?_ | refine w_cons ?_ | refine w_tup ?_ | refine w_lst ?_ | refine w_test ?_ | refine w_not ?_ | refine w_and ?_ | refine w_or ?_ | refine w_andV ?_ | refine w_orV ?_ | refine w_notV ?_ | refine w_if ?_ | refine w_chn ?_ | refine w_call ?_ | refine w_make ?_ | refine w_fld ?_ | refine w_ml ?_ | refine w_ml0 ?_ | refine w_sl ?_ | refine w_slD ?_ | refine w_noPart ?_ | refine w_part ?_ | refine w_dictZ ?_ | refine w_lcA ?_ | refine w_ret ?_ | refine w_rt ?_ | refine w_ifS ?_ | refine w_next ?_ | refine w_break ?_ | refine w_cont ?_ | refine w_seq ?_ | refine w_asg ?_ | refine w_drop ?_ | refine w_par ?_ | refine w_sfld ?_ | refine w_asgT ?_ | refine w_gset ?_ | refine w_gname ?_ | refine w_gtup rfl ?_ | refine w_gcons ?_ | refine w_gnil ?_ | refine w_yes ?_) | refine w_bl ?_ | refine w_int ?_ | refine w_T ?_ | refine w_F ?_ | refine w_nT ?_ | refine w_nF ?_ | refine q_len_tup ?_ | refine q_int ?_ | refine q_intB ?_ | refine q_add ?_ | refine q_sub ?_ | refine q_neg ?_ | refine q_ord ?_ | refine q_ordS ?_ | refine q_tuple_tup ?_ | refine qEq_int ?_)))
  refine qEq_tup (sortE_ev x.v x.e) (sortE_ev x.v x.e) fun b hb => ?_
  rw [hb.mpr rfl]
  (with_reducible (repeat (first | (first | refine w_var rfl ?_ | refine w_c ?_ | refine w_op ?_ | refine w_un ?_ | refine w_cl ?_ | refine w_nil ?_ | refine w_cons ?_ | refine w_tup ?_ | refine w_lst ?_ | refine w_test ?_ | refine w_not ?_ | refine w_and ?_ | refine w_or ?_ | refine w_andV ?_ | refine w_orV ?_ | refine w_notV ?_ | refine w_if ?_ | refine w_chn ?_ | refine w_call ?_ | refine w_make ?_ | refine w_fld ?_ | refine w_ml ?_ | refine w_ml0 ?_ | refine w_sl ?_ | refine w_slD ?_ | refine w_noPart ?_ | refine w_part ?_ | refine w_dictZ ?_ | refine w_lcA ?_ | refine w_ret ?_ | refine w_rt ?_ | refine w_ifS ?_ | refine w_next ?_ | refine w_break ?_ | refine w_cont ?_ | refine w_seq ?_ | refine w_asg ?_ | refine w_drop ?_ | refine w_par ?_ | refine w_sfld ?_ | refine w_asgT ?_ | refine w_gset ?_ | refine w_gname ?_ | refine w_gtup rfl ?_ | refine w_gcons ?_ | refine w_gnil ?_ | refine w_yes ?_) | refine w_bl ?_ | refine w_int ?_ | refine w_T ?_ | refine w_F ?_ | refine w_nT ?_ | refine w_nF ?_ | refine q_len_tup ?_ | refine q_int ?_ | refine q_intB ?_ | refine q_add ?_ | refine q_sub ?_ | refine q_neg ?_ | refine q_ord ?_ | refine q_ordS ?_ | refine q_tuple_tup ?_ | refine qEq_int ?_)))
  refine iteF rfl ?_
  (with_reducible (repeat (first | (first | refine w_var rfl ?_ | refine w_c ?_ | refine w_op ?_ | refine w_un ?_ | refine w_cl ?_ | refine w_nil ?_ | refine w_cons ?_ | refine w_tup ?_ | refine w_lst ?_ | refine w_test ?_ | refine w_not ?_ | refine w_and ?_ | refine w_or ?_ | refine w_andV ?_ | refine w_orV ?_ | refine w_notV ?_ | refine w_if ?_ | refine w_chn ?_ | refine w_call ?_ | refine w_make ?_ | refine w_fld ?_ | refine w_ml ?_ | refine w_ml0 ?_ | refine w_sl ?_ | refine w_slD ?_ | refine w_noPart ?_ | refine w_part ?_ | refine w_dictZ ?_ | refine w_lcA ?_ | refine w_ret ?_ | refine w_rt ?_ | refine w_ifS ?_ | refine w_next ?_ | refine w_break ?_ | refine w_cont ?_ | refine w_seq ?_ | refine w_asg ?_ | refine w_drop ?_ | refine w_par ?_ | refine w_sfld ?_ | refine w_asgT ?_ | refine w_gset ?_ | refine w_gname ?_ | refine w_gtup rfl ?_ | refine w_gcons ?_ | refine w_gnil ?_ | refine w_yes ?_) | refine w_bl ?_ | refine w_int ?_ | refine w_T ?_ | refine w_F ?_ | refine w_nT ?_ | refine w_nF ?_ | refine q_len_tup ?_ | refine q_int ?_ | refine q_intB ?_ | refine q_add ?_ | refine q_sub ?_ | refine q_neg ?_ | refine q_ord ?_ | refine q_ordS ?_ | refine q_tuple_tup ?_ | refine qEq_int ?_)))
  unfold t_law_4
  (with_reducible (repeat (first | (first | refine w_var rfl ?_ | refine w_c ?_ | refine w_op ?_ | refine w_un ?_ | refine w_cl ?_ | refine w_nil ?_ | refine w_cons ?_ | refine w_tup ?_ | refine w_lst ?_ | refine w_test ?_ | refine w_not ?_ | refine w_and ?_ | refine w_or ?_ | refine w_andV ?_ | refine w_orV ?_ | refine w_notV ?_ | refine w_if ?_ | refine w_chn ?_ | refine w_call ?_ | refine w_make ?_ | refine w_fld ?_ | refine w_ml ?_ | refine w_ml0 ?_ | refine w_sl ?_ | refine w_slD ?_ | refine w_noPart ?_ | refine w_part ?_ | refine w_dictZ ?_ | refine w_lcA ?_ | refine w_ret ?_ | refine w_rt ?_ | refine w_ifS ?_ | refine w_next ?_ | refine w_break ?_ | refine w_cont ?_ | refine w_seq ?_ | refine w_asg ?_ | refine w_drop ?_ | refine w_par ?_ | refine w_sfld ?_ | refine w_asgT ?_ | refine w_gset ?_ | refine w_gname ?_ | refine w_gtup rfl ?_ | refine w_gcons ?_ | refine w_gnil ?_ | refine w_yes ?_) | refine w_bl ?_ | refine w_int ?_ | refine w_T ?_ | refine w_F ?_ | refine w_nT ?_ | refine w_nF ?_ | refine q_len_tup ?_ | refine q_int ?_ | refine q_intB ?_ | refine q_add ?_ | refine q_sub ?_ | refine q_neg ?_ | refine q_ord ?_ | refine q_ordS ?_ | refine q_tuple_tup ?_ | refine qEq_int ?_)))
  refine ⟨_, ⟨s, p, r, g, ns, es, rfl, x, rfl⟩, ?_⟩
  rintro _ _ ⟨rfl, a, b, d, rfl⟩
  (with_reducible (repeat (first | (first | refine w_var rfl ?_ | refine w_c ?_ | refine w_op ?_ | refine w_un ?_ | refine w_cl ?_ | refine w_nil ?_ | refine w_cons ?_ | refine w_tup ?_ | refine w_lst ?_ | refine w_test ?_ | refine w_not ?_ | refine w_and ?_ | refine w_or ?_ | refine w_andV ?_ | refine w_orV ?_ | refine w_notV ?_ | refine w_if ?_ | refine w_chn ?_ | refine w_call ?_ | refine w_make ?_ | refine w_fld ?_ | refine w_ml ?_ | refine w_ml0 ?_ | refine w_sl ?_ | refine w_slD ?_ | refine w_noPart ?_ | refine w_part ?_ | refine w_dictZ ?_ | refine w_lcA ?_ | refine w_ret ?_ | refine w_rt ?_ | refine w_ifS ?_ | refine w_next ?_ | refine w_break ?_ | refine w_cont ?_ | refine w_seq ?_ | refine w_asg ?_ | refine w_drop ?_ | refine w_par ?_ | refine w_sfld ?_ | refine w_asgT ?_ | refine w_gset ?_ | refine w_gname ?_ | refine w_gtup rfl ?_ | refine w_gcons ?_ | refine w_gnil ?_ | refine w_yes ?_) | refine w_bl ?_ | refine w_int ?_ | refine w_T ?_ | refine w_F ?_ | refine w_nT ?_ | refine w_nF ?_ | refine q_len_tup ?_ | refine q_int ?_ | refine q_intB ?_ | refine q_add ?_ | refine q_sub ?_ | refine q_neg ?_ | refine q_ord ?_ | refine q_ordS ?_ | refine q_tuple_tup ?_ | refine qEq_int ?_)))
  exact law_3 gf (x.cur (x.self.set a b d)) (by rw [up_ne ls]; exact hl) ls nx
theorem qEq_two {neg : Bool} {G : Hq} {Q : KQ} {q q2 a b a2 b2 : Addr} {xs ys : List Dv} (h1 : G q = some (.lst [.ad a, .ad b])) (h2 : G q2 = some (.lst [.ad a2, .ad b2])) (ha : G a = some (.lst xs)) (ha2 : G a2 = some (.lst xs)) (hb : G b = some (.lst ys)) (hb2 : G b2 = some (.lst ys)) (hx : Evs xs) (hy : Evs ys) (k : Q (.bl (!neg)) G) :
    qEq neg (.ad q) (.ad q2) G Q := by
  have sh : Shd (.list [.list (dPs xs), .list (dPs ys)]) := by
    unfold Shd SeqAt.shaped
    have l1 := isEs_lay hx.isEs
    have l2 := isEs_lay hy.isEs
    have d1 := hx.depth
    have d2 := hy.depth
    have dd : (PyData.list [.list (dPs xs), .list (dPs ys)]).depth ≤ 64 := by
      simp only [PyData.depth, PyData.depthAll]
      exact Nat.le_trans (Nat.succ_le_succ (Nat.max_le.mpr ⟨Nat.succ_le_succ d1, Nat.max_le.mpr ⟨Nat.succ_le_succ d2, Nat.zero_le 9⟩⟩)) (by decide)
    rw [decide_eq_true dd, Bool.and_true]
    simp only [PyData.canLay0, PyData.canLayAll0, l1, l2, Bool.and_self]
  refine ⟨_, _, .lst h1 (.cons (.lst ha (isEs_pr hx.isEs)) (.cons (.lst hb (isEs_pr hy.isEs)) .nil)), .lst h2 (.cons (.lst ha2 (isEs_pr hx.isEs)) (.cons (.lst hb2 (isEs_pr hy.isEs)) .nil)), sh, sh, ?_⟩
  have e1 := (isEs_eqv hx.isEs hx.isEs).mpr rfl
  have e2 := (isEs_eqv hy.isEs hy.isEs).mpr rfl
  rw [show PyData.eqv (.list [.list (dPs xs), .list (dPs ys)]) (.list [.list (dPs xs), .list (dPs ys)]) = true by simp only [PyData.eqv, PyData.eqvAll, e1, e2, Bool.and_self], Bool.xor_true]
  exact k
theorem law_12 (gf : GF K c) {l : Addr} {o : Ob} {a b d : Int} {t4 t7 t8 : Option Dv} (hs : G s = some (so a b d)) (hl : G l = some o) (ls : l ≠ s) (nx : ∀ G t3 t4 t5 t6 t7 t8 t9, G l = some o → D.nx [sc, t1, some (.ad s), t3, t4, t5, t6, t7, t8, t9] G) :
    t_law_12 K c R D [sc, t1, some (.ad s), t3, t4, t5, t6, t7, t8, t9] G := by
  unfold t_law_12
  (with_reducible (repeat (first | (first | refine w_var rfl ?_ | refine w_c ?_ | refine w_op ?_ | refine w_un ?_ | refine w_cl ?_ | refine w_nil ?_ | refine w_cons ?_ | refine w_tup ?_ | refine w_lst ?_ | refine w_test ?_ | refine w_not ?_ | refine w_and ?_ | refine w_or ?_ | refine w_andV ?_ | refine w_orV ?_ | refine w_notV ?_ | refine w_if ?_ | refine w_chn ?_ | refine w_call ?_ | refine w_make ?_ | refine w_fld ?_ | refine w_ml ?_ | refine w_ml0 ?_ | refine w_sl ?_ | refine w_slD ?_ | refine w_noPart ?_ | refine w_part ?_ | refine w_dictZ ?_ | refine w_lcA ?_ | refine w_ret ?_ | refine w_rt ?_ | refine w_ifS ?_ | refine w_next ?_ | refine w_break ?_ | refine w_cont ?_ | refine w_seq ?_ | refine w_asg ?_ | refine w_drop ?_ | refine w_par ?_ | refine w_sfld ?_ | refine w_asgT ?_ | refine w_gset ?_ | refine w_gname ?_ | refine w_gtup rfl ?_ | refine w_gcons ?_ | refine w_gnil ?_ | refine w_yes ?_) | refine w_bl ?_ | refine w_int ?_ | refine w_T ?_ | refine w_F ?_ | refine w_nT ?_ | refine w_nF ?_ | refine q_len_tup ?_ | refine q_int ?_ | refine q_intB ?_ | refine q_add ?_ | refine q_sub ?_ | refine q_neg ?_ | refine q_ord ?_ | refine q_ordS ?_ | refine q_tuple_tup ?_ | refine qEq_int ?_)))
  refine ⟨_, ⟨s, a, b, d, rfl, hs, rfl⟩, ?_⟩
  rintro _ _ ⟨p, r, ns, es, a, b, d, rfl, v, e, pr, hp, hr, rfl⟩
  have ps : p ≠ s := fun z => by subst z; rw [hs] at hp; cases hp
  have rs : r ≠ s := fun z => by subst z; rw [hs] at hr; cases hr
  have pl : p ≠ l := fun z => by subst z; rw [hl] at hp; cases hp
  have rl : r ≠ l := fun z => by subst z; rw [hl] at hr; cases hr
  have hs1 : (up (up (up G s (so a b d)) p (.lst (dS ns))) r (.lst (dEs es))) s = some (so a b d) := by rw [up_ne rs.symm, up_ne ps.symm, up_same]
  have hp1 : (up (up (up G s (so a b d)) p (.lst (dS ns))) r (.lst (dEs es))) p = some (.lst (dS ns)) := by rw [up_ne pr, up_same]
  have hr1 : (up (up (up G s (so a b d)) p (.lst (dS ns))) r (.lst (dEs es))) r = some (.lst (dEs es)) := up_same
  have hl1 : (up (up (up G s (so a b d)) p (.lst (dS ns))) r (.lst (dEs es))) l = some o := by rw [up_ne rl.symm, up_ne pl.symm, up_ne ls]; exact hl
  generalize up (up (up G s (so a b d)) p (.lst (dS ns))) r (.lst (dEs es)) = G1 at hs1 hp1 hr1 hl1
  (with_reducible (repeat (first | (first | refine w_var rfl ?_ | refine w_c ?_ | refine w_op ?_ | refine w_un ?_ | refine w_cl ?_ | refine w_nil ?_ | refine w_cons ?_ | refine w_tup ?_ | refine w_lst ?_ | refine w_test ?_ | refine w_not ?_ | refine w_and ?_ | refine w_or ?_ | refine w_andV ?_ | refine w_orV ?_ | refine w_notV ?_ | refine w_if ?_ | refine w_chn ?_ | refine w_call ?_ | refine w_make ?_ | refine w_fld ?_ | refine w_ml ?_ | refine w_ml0 ?_ | refine w_sl ?_ | refine w_slD ?_ | refine w_noPart ?_ | refine w_part ?_ | refine w_dictZ ?_ | refine w_lcA ?_ | refine w_ret ?_ | refine w_rt ?_ | refine w_ifS ?_ | refine w_next ?_ | refine w_break ?_ | refine w_cont ?_ | refine w_seq ?_ | refine w_asg ?_ | refine w_drop ?_ | refine w_par ?_ | refine w_sfld ?_ | refine w_asgT ?_ | refine w_gset ?_ | refine w_gname ?_ | refine w_gtup rfl ?_ | refine w_gcons ?_ | refine w_gnil ?_ | refine w_yes ?_) | refine w_bl ?_ | refine w_int ?_ | refine w_T ?_ | refine w_F ?_ | refine w_nT ?_ | refine w_nF ?_ | refine q_len_tup ?_ | refine q_int ?_ | refine q_intB ?_ | refine q_add ?_ | refine q_sub ?_ | refine q_neg ?_ | refine q_ord ?_ | refine q_ordS ?_ | refine q_tuple_tup ?_ | refine qEq_int ?_)))
  show t_law_11 K c _ _ _ _
  unfold t_law_11
  (with_reducible (repeat (first | (first | refine w_var rfl ?_ | refine w_c ?_ | refine w_op ?_ | refine w_un ?_ | refine w_cl ?_ | refine w_nil ?_ | refine w_cons ?_ | refine w_tup ?_ | refine w_lst ?_ | refine w_test ?_ | refine w_not ?_ | refine w_and ?_ | refine w_or ?_ | refine w_andV ?_ | refine w_orV ?_ | refine w_notV ?_ | refine w_if ?_ | refine w_chn ?_ | refine w_call ?_ | refine w_make ?_ | refine w_fld ?_ | refine w_ml ?_ | refine w_ml0 ?_ | refine w_sl ?_ | refine w_slD ?_ | refine w_noPart ?_ | refine w_part ?_ | refine w_dictZ ?_ | refine w_lcA ?_ | refine w_ret ?_ | refine w_rt ?_ | refine w_ifS ?_ | refine w_next ?_ | refine w_break ?_ | refine w_cont ?_ | refine w_seq ?_ | refine w_asg ?_ | refine w_drop ?_ | refine w_par ?_ | refine w_sfld ?_ | refine w_asgT ?_ | refine w_gset ?_ | refine w_gname ?_ | refine w_gtup rfl ?_ | refine w_gcons ?_ | refine w_gnil ?_ | refine w_yes ?_) | refine w_bl ?_ | refine w_int ?_ | refine w_T ?_ | refine w_F ?_ | refine w_nT ?_ | refine w_nF ?_ | refine q_len_tup ?_ | refine q_int ?_ | refine q_intB ?_ | refine q_add ?_ | refine q_sub ?_ | refine q_neg ?_ | refine q_ord ?_ | refine q_ordS ?_ | refine q_tuple_tup ?_ | refine qEq_int ?_)))
  refine q_list_row (.ad hp1) fun p1 hp1n => ?_
  have k1 := HSub.new (o := .lst (dS ns)) hp1n
  (with_reducible (repeat (first | (first | refine w_var rfl ?_ | refine w_c ?_ | refine w_op ?_ | refine w_un ?_ | refine w_cl ?_ | refine w_nil ?_ | refine w_cons ?_ | refine w_tup ?_ | refine w_lst ?_ | refine w_test ?_ | refine w_not ?_ | refine w_and ?_ | refine w_or ?_ | refine w_andV ?_ | refine w_orV ?_ | refine w_notV ?_ | refine w_if ?_ | refine w_chn ?_ | refine w_call ?_ | refine w_make ?_ | refine w_fld ?_ | refine w_ml ?_ | refine w_ml0 ?_ | refine w_sl ?_ | refine w_slD ?_ | refine w_noPart ?_ | refine w_part ?_ | refine w_dictZ ?_ | refine w_lcA ?_ | refine w_ret ?_ | refine w_rt ?_ | refine w_ifS ?_ | refine w_next ?_ | refine w_break ?_ | refine w_cont ?_ | refine w_seq ?_ | refine w_asg ?_ | refine w_drop ?_ | refine w_par ?_ | refine w_sfld ?_ | refine w_asgT ?_ | refine w_gset ?_ | refine w_gname ?_ | refine w_gtup rfl ?_ | refine w_gcons ?_ | refine w_gnil ?_ | refine w_yes ?_) | refine w_bl ?_ | refine w_int ?_ | refine w_T ?_ | refine w_F ?_ | refine w_nT ?_ | refine w_nF ?_ | refine q_len_tup ?_ | refine q_int ?_ | refine q_intB ?_ | refine q_add ?_ | refine q_sub ?_ | refine q_neg ?_ | refine q_ord ?_ | refine q_ordS ?_ | refine q_tuple_tup ?_ | refine qEq_int ?_)))
  refine q_list_row (.ad (k1 _ _ hr1)) fun r1 hr1n => ?_
  have k2 := HSub.new (o := .lst (dEs es)) hr1n
  (with_reducible (repeat (first | (first | refine w_var rfl ?_ | refine w_c ?_ | refine w_op ?_ | refine w_un ?_ | refine w_cl ?_ | refine w_nil ?_ | refine w_cons ?_ | refine w_tup ?_ | refine w_lst ?_ | refine w_test ?_ | refine w_not ?_ | refine w_and ?_ | refine w_or ?_ | refine w_andV ?_ | refine w_orV ?_ | refine w_notV ?_ | refine w_if ?_ | refine w_chn ?_ | refine w_call ?_ | refine w_make ?_ | refine w_fld ?_ | refine w_ml ?_ | refine w_ml0 ?_ | refine w_sl ?_ | refine w_slD ?_ | refine w_noPart ?_ | refine w_part ?_ | refine w_dictZ ?_ | refine w_lcA ?_ | refine w_ret ?_ | refine w_rt ?_ | refine w_ifS ?_ | refine w_next ?_ | refine w_break ?_ | refine w_cont ?_ | refine w_seq ?_ | refine w_asg ?_ | refine w_drop ?_ | refine w_par ?_ | refine w_sfld ?_ | refine w_asgT ?_ | refine w_gset ?_ | refine w_gname ?_ | refine w_gtup rfl ?_ | refine w_gcons ?_ | refine w_gnil ?_ | refine w_yes ?_) | refine w_bl ?_ | refine w_int ?_ | refine w_T ?_ | refine w_F ?_ | refine w_nT ?_ | refine w_nF ?_ | refine q_len_tup ?_ | refine q_int ?_ | refine q_intB ?_ | refine q_add ?_ | refine q_sub ?_ | refine q_neg ?_ | refine q_ord ?_ | refine q_ordS ?_ | refine q_tuple_tup ?_ | refine qEq_int ?_)))
  refine ⟨by show 2 ≤ sizeLine; decide, fun q3 hq3 => ?_⟩
  have k3 := HSub.new (o := .lst [.ad p1, .ad r1]) hq3
  have hP1 := k3 _ _ (k2 p1 _ up_same)
  have hR1 := k3 r1 _ up_same
  have hQ3 : (up (up (up G1 p1 (.lst (dS ns))) r1 (.lst (dEs es))) q3 (.lst [.ad p1, .ad r1])) q3 = _ := up_same
  have hS2 := k3 _ _ (k2 _ _ (k1 _ _ hs1))
  have hP2 := k3 _ _ (k2 _ _ (k1 _ _ hp1))
  have hR2 := k3 _ _ (k2 _ _ (k1 _ _ hr1))
  have hL2 := k3 _ _ (k2 _ _ (k1 _ _ hl1))
  simp only [up_none] at hr1n hq3
  obtain ⟨r1p1, hr1g⟩ := hr1n
  have n1 : ∀ x : Addr, ∀ o, G1 x = some o → x ≠ p1 ∧ x ≠ r1 := fun x o h => ⟨(fun z => by subst z; rw [h] at hp1n; cases hp1n), (fun z => by subst z; rw [h] at hr1g; cases hr1g)⟩
  generalize up (up (up G1 p1 (.lst (dS ns))) r1 (.lst (dEs es))) q3 (.lst [.ad p1, .ad r1]) = G2 at hP1 hR1 hQ3 hS2 hP2 hR2 hL2
  (with_reducible (repeat (first | (first | refine w_var rfl ?_ | refine w_c ?_ | refine w_op ?_ | refine w_un ?_ | refine w_cl ?_ | refine w_nil ?_ | refine w_cons ?_ | refine w_tup ?_ | refine w_lst ?_ | refine w_test ?_ | refine w_not ?_ | refine w_and ?_ | refine w_or ?_ | refine w_andV ?_ | refine w_orV ?_ | refine w_notV ?_ | refine w_if ?_ | refine w_chn ?_ | refine w_call ?_ | refine w_make ?_ | refine w_fld ?_ | refine w_ml ?_ | refine w_ml0 ?_ | refine w_sl ?_ | refine w_slD ?_ | refine w_noPart ?_ | refine w_part ?_ | refine w_dictZ ?_ | refine w_lcA ?_ | refine w_ret ?_ | refine w_rt ?_ | refine w_ifS ?_ | refine w_next ?_ | refine w_break ?_ | refine w_cont ?_ | refine w_seq ?_ | refine w_asg ?_ | refine w_drop ?_ | refine w_par ?_ | refine w_sfld ?_ | refine w_asgT ?_ | refine w_gset ?_ | refine w_gname ?_ | refine w_gtup rfl ?_ | refine w_gcons ?_ | refine w_gnil ?_ | refine w_yes ?_) | refine w_bl ?_ | refine w_int ?_ | refine w_T ?_ | refine w_F ?_ | refine w_nT ?_ | refine w_nF ?_ | refine q_len_tup ?_ | refine q_int ?_ | refine q_intB ?_ | refine q_add ?_ | refine q_sub ?_ | refine q_neg ?_ | refine q_ord ?_ | refine q_ordS ?_ | refine q_tuple_tup ?_ | refine qEq_int ?_)))
  show t_law_10 K c _ _ _ _
  unfold t_law_10
  (with_reducible (repeat (first | (first | refine w_var rfl ?_ | refine w_c ?_ | refine w_op ?_ | refine w_un ?_ | refine w_cl ?_ | refine w_nil ?_ | refine w_cons ?_ | refine w_tup ?_ | refine w_lst ?_ | refine w_test ?_ | refine w_not ?_ | refine w_and ?_ | refine w_or ?_ | refine w_andV ?_ | refine w_orV ?_ | refine w_notV ?_ | refine w_if ?_ | refine w_chn ?_ | refine w_call ?_ | refine w_make ?_ | refine w_fld ?_ | refine w_ml ?_ | refine w_ml0 ?_ | refine w_sl ?_ | refine w_slD ?_ | refine w_noPart ?_ | refine w_part ?_ | refine w_dictZ ?_ | refine w_lcA ?_ | refine w_ret ?_ | refine w_rt ?_ | refine w_ifS ?_ | refine w_next ?_ | refine w_break ?_ | refine w_cont ?_ | refine w_seq ?_ | refine w_asg ?_ | refine w_drop ?_ | refine w_par ?_ | refine w_sfld ?_ | refine w_asgT ?_ | refine w_gset ?_ | refine w_gname ?_ | refine w_gtup rfl ?_ | refine w_gcons ?_ | refine w_gnil ?_ | refine w_yes ?_) | refine w_bl ?_ | refine w_int ?_ | refine w_T ?_ | refine w_F ?_ | refine w_nT ?_ | refine w_nF ?_ | refine q_len_tup ?_ | refine q_int ?_ | refine q_intB ?_ | refine q_add ?_ | refine q_sub ?_ | refine q_neg ?_ | refine q_ord ?_ | refine q_ordS ?_ | refine q_tuple_tup ?_ | refine qEq_int ?_)))
  refine q_ix_ad hQ3 (at_nat (i := 0) rfl) ?_
  (with_reducible (repeat (first | (first | refine w_var rfl ?_ | refine w_c ?_ | refine w_op ?_ | refine w_un ?_ | refine w_cl ?_ | refine w_nil ?_ | refine w_cons ?_ | refine w_tup ?_ | refine w_lst ?_ | refine w_test ?_ | refine w_not ?_ | refine w_and ?_ | refine w_or ?_ | refine w_andV ?_ | refine w_orV ?_ | refine w_notV ?_ | refine w_if ?_ | refine w_chn ?_ | refine w_call ?_ | refine w_make ?_ | refine w_fld ?_ | refine w_ml ?_ | refine w_ml0 ?_ | refine w_sl ?_ | refine w_slD ?_ | refine w_noPart ?_ | refine w_part ?_ | refine w_dictZ ?_ | refine w_lcA ?_ | refine w_ret ?_ | refine w_rt ?_ | refine w_ifS ?_ | refine w_next ?_ | refine w_break ?_ | refine w_cont ?_ | refine w_seq ?_ | refine w_asg ?_ | refine w_drop ?_ | refine w_par ?_ | refine w_sfld ?_ | refine w_asgT ?_ | refine w_gset ?_ | refine w_gname ?_ | refine w_gtup rfl ?_ | refine w_gcons ?_ | refine w_gnil ?_ | refine w_yes ?_) | refine w_bl ?_ | refine w_int ?_ | refine w_T ?_ | refine w_F ?_ | refine w_nT ?_ | refine w_nF ?_ | refine q_len_tup ?_ | refine q_int ?_ | refine q_intB ?_ | refine q_add ?_ | refine q_sub ?_ | refine q_neg ?_ | refine q_ord ?_ | refine q_ordS ?_ | refine q_tuple_tup ?_ | refine qEq_int ?_)))
  refine q_ix_ad hQ3 (at_nat (i := 1) rfl) ?_
  (with_reducible (repeat (first | (first | refine w_var rfl ?_ | refine w_c ?_ | refine w_op ?_ | refine w_un ?_ | refine w_cl ?_ | refine w_nil ?_ | refine w_cons ?_ | refine w_tup ?_ | refine w_lst ?_ | refine w_test ?_ | refine w_not ?_ | refine w_and ?_ | refine w_or ?_ | refine w_andV ?_ | refine w_orV ?_ | refine w_notV ?_ | refine w_if ?_ | refine w_chn ?_ | refine w_call ?_ | refine w_make ?_ | refine w_fld ?_ | refine w_ml ?_ | refine w_ml0 ?_ | refine w_sl ?_ | refine w_slD ?_ | refine w_noPart ?_ | refine w_part ?_ | refine w_dictZ ?_ | refine w_lcA ?_ | refine w_ret ?_ | refine w_rt ?_ | refine w_ifS ?_ | refine w_next ?_ | refine w_break ?_ | refine w_cont ?_ | refine w_seq ?_ | refine w_asg ?_ | refine w_drop ?_ | refine w_par ?_ | refine w_sfld ?_ | refine w_asgT ?_ | refine w_gset ?_ | refine w_gname ?_ | refine w_gtup rfl ?_ | refine w_gcons ?_ | refine w_gnil ?_ | refine w_yes ?_) | refine w_bl ?_ | refine w_int ?_ | refine w_T ?_ | refine w_F ?_ | refine w_nT ?_ | refine w_nF ?_ | refine q_len_tup ?_ | refine q_int ?_ | refine q_intB ?_ | refine q_add ?_ | refine q_sub ?_ | refine q_neg ?_ | refine q_ord ?_ | refine q_ordS ?_ | refine q_tuple_tup ?_ | refine qEq_int ?_)))
  refine q_make (.inl ⟨p1, rfl, hP1⟩) (.inl ⟨r1, rfl, hR1⟩) v e fun g hg => ?_
  have k4 := HSub.new (o := .ins c.cGraph (gFs ns es)) hg
  have hG : (up G2 g (.ins c.cGraph (gFs ns es))) g = _ := up_same
  have hP1 := k4 _ _ hP1
  have hR1 := k4 _ _ hR1
  have hQ3 := k4 _ _ hQ3
  have hS2 := k4 _ _ hS2
  have hP2 := k4 _ _ hP2
  have hR2 := k4 _ _ hR2
  have hL2 := k4 _ _ hL2
  generalize up G2 g (.ins c.cGraph (gFs ns es)) = G3 at hG hP1 hR1 hQ3 hS2 hP2 hR2 hL2
  show t_law_9 K c _ _ _ _
  unfold t_law_9
  (with_reducible (repeat (first | (first | refine w_var rfl ?_ | refine w_c ?_ | refine w_op ?_ | refine w_un ?_ | refine w_cl ?_ | refine w_nil ?_ | refine w_cons ?_ | refine w_tup ?_ | refine w_lst ?_ | refine w_test ?_ | refine w_not ?_ | refine w_and ?_ | refine w_or ?_ | refine w_andV ?_ | refine w_orV ?_ | refine w_notV ?_ | refine w_if ?_ | refine w_chn ?_ | refine w_call ?_ | refine w_make ?_ | refine w_fld ?_ | refine w_ml ?_ | refine w_ml0 ?_ | refine w_sl ?_ | refine w_slD ?_ | refine w_noPart ?_ | refine w_part ?_ | refine w_dictZ ?_ | refine w_lcA ?_ | refine w_ret ?_ | refine w_rt ?_ | refine w_ifS ?_ | refine w_next ?_ | refine w_break ?_ | refine w_cont ?_ | refine w_seq ?_ | refine w_asg ?_ | refine w_drop ?_ | refine w_par ?_ | refine w_sfld ?_ | refine w_asgT ?_ | refine w_gset ?_ | refine w_gname ?_ | refine w_gtup rfl ?_ | refine w_gcons ?_ | refine w_gnil ?_ | refine w_yes ?_) | refine w_bl ?_ | refine w_int ?_ | refine w_T ?_ | refine w_F ?_ | refine w_nT ?_ | refine w_nF ?_ | refine q_len_tup ?_ | refine q_int ?_ | refine q_intB ?_ | refine q_add ?_ | refine q_sub ?_ | refine q_neg ?_ | refine q_ord ?_ | refine q_ordS ?_ | refine q_tuple_tup ?_ | refine qEq_int ?_)))
  refine ⟨by show 2 ≤ sizeLine; decide, fun q4 hq4 => ?_⟩
  have k5 := HSub.new (o := .lst [.ad p, .ad r]) hq4
  refine qEq_two (k5 _ _ hQ3) up_same (k5 _ _ hP1) (k5 _ _ hP2) (k5 _ _ hR1) (k5 _ _ hR2) (dS_ev v.name) (e.ev v) ?_
  have hG := k5 _ _ hG
  have hP1 := k5 _ _ hP1
  have hR1 := k5 _ _ hR1
  have hQ3 := k5 _ _ hQ3
  have hS2 := k5 _ _ hS2
  have hP2 := k5 _ _ hP2
  have hR2 := k5 _ _ hR2
  have hL2 := k5 _ _ hL2
  generalize up G3 q4 (.lst [.ad p, .ad r]) = G4 at hG hP1 hR1 hQ3 hS2 hP2 hR2 hL2
  (with_reducible (repeat (first | (first | refine w_var rfl ?_ | refine w_c ?_ | refine w_op ?_ | refine w_un ?_ | refine w_cl ?_ | refine w_nil ?_ | refine w_cons ?_ | refine w_tup ?_ | refine w_lst ?_ | refine w_test ?_ | refine w_not ?_ | refine w_and ?_ | refine w_or ?_ | refine w_andV ?_ | refine w_orV ?_ | refine w_notV ?_ | refine w_if ?_ | refine w_chn ?_ | refine w_call ?_ | refine w_make ?_ | refine w_fld ?_ | refine w_ml ?_ | refine w_ml0 ?_ | refine w_sl ?_ | refine w_slD ?_ | refine w_noPart ?_ | refine w_part ?_ | refine w_dictZ ?_ | refine w_lcA ?_ | refine w_ret ?_ | refine w_rt ?_ | refine w_ifS ?_ | refine w_next ?_ | refine w_break ?_ | refine w_cont ?_ | refine w_seq ?_ | refine w_asg ?_ | refine w_drop ?_ | refine w_par ?_ | refine w_sfld ?_ | refine w_asgT ?_ | refine w_gset ?_ | refine w_gname ?_ | refine w_gtup rfl ?_ | refine w_gcons ?_ | refine w_gnil ?_ | refine w_yes ?_) | refine w_bl ?_ | refine w_int ?_ | refine w_T ?_ | refine w_F ?_ | refine w_nT ?_ | refine w_nF ?_ | refine q_len_tup ?_ | refine q_int ?_ | refine q_intB ?_ | refine q_add ?_ | refine q_sub ?_ | refine q_neg ?_ | refine q_ord ?_ | refine q_ordS ?_ | refine q_tuple_tup ?_ | refine qEq_int ?_)))
  -- the passed lists are changed
  have gp1 : g ≠ p1 := fun z => by subst z; rw [hG] at hP1; cases hP1
  have gr1 : g ≠ r1 := fun z => by subst z; rw [hG] at hR1; cases hR1
  have q3p1 : q3 ≠ p1 := fun z => by subst z; rw [hP1] at hQ3; injection hQ3 with h; injection h with h; cases ns with
    | nil => have := v.pos; simp at this
    | cons n ns => cases h
  have q3r1 : q3 ≠ r1 := fun z => by subst z; rw [hR1] at hQ3; injection hQ3 with h; injection h with h; cases es with
    | nil => cases h
    | cons n es => cases h
  obtain ⟨a1, a2⟩ := n1 _ _ hs1
  obtain ⟨b1, b2⟩ := n1 _ _ hp1
  obtain ⟨c1, c2⟩ := n1 _ _ hr1
  obtain ⟨d1, d2⟩ := n1 _ _ hl1
  show t_law_8 K c _ _ _ _
  unfold t_law_8
  (with_reducible (repeat (first | (first | refine w_var rfl ?_ | refine w_c ?_ | refine w_op ?_ | refine w_un ?_ | refine w_cl ?_ | refine w_nil ?_ | refine w_cons ?_ | refine w_tup ?_ | refine w_lst ?_ | refine w_test ?_ | refine w_not ?_ | refine w_and ?_ | refine w_or ?_ | refine w_andV ?_ | refine w_orV ?_ | refine w_notV ?_ | refine w_if ?_ | refine w_chn ?_ | refine w_call ?_ | refine w_make ?_ | refine w_fld ?_ | refine w_ml ?_ | refine w_ml0 ?_ | refine w_sl ?_ | refine w_slD ?_ | refine w_noPart ?_ | refine w_part ?_ | refine w_dictZ ?_ | refine w_lcA ?_ | refine w_ret ?_ | refine w_rt ?_ | refine w_ifS ?_ | refine w_next ?_ | refine w_break ?_ | refine w_cont ?_ | refine w_seq ?_ | refine w_asg ?_ | refine w_drop ?_ | refine w_par ?_ | refine w_sfld ?_ | refine w_asgT ?_ | refine w_gset ?_ | refine w_gname ?_ | refine w_gtup rfl ?_ | refine w_gcons ?_ | refine w_gnil ?_ | refine w_yes ?_) | refine w_bl ?_ | refine w_int ?_ | refine w_T ?_ | refine w_F ?_ | refine w_nT ?_ | refine w_nF ?_ | refine q_len_tup ?_ | refine q_int ?_ | refine q_intB ?_ | refine q_add ?_ | refine q_sub ?_ | refine q_neg ?_ | refine q_ord ?_ | refine q_ordS ?_ | refine q_tuple_tup ?_ | refine qEq_int ?_)))
  refine q_ix_ad hQ3 (at_nat (i := 0) rfl) ?_
  refine ⟨⟨p1, _, rfl, hP1⟩, p1, _, rfl, rfl, hP1, ?_⟩
  show t_law_7 K c _ _ _ _
  unfold t_law_7
  (with_reducible (repeat (first | (first | refine w_var rfl ?_ | refine w_c ?_ | refine w_op ?_ | refine w_un ?_ | refine w_cl ?_ | refine w_nil ?_ | refine w_cons ?_ | refine w_tup ?_ | refine w_lst ?_ | refine w_test ?_ | refine w_not ?_ | refine w_and ?_ | refine w_or ?_ | refine w_andV ?_ | refine w_orV ?_ | refine w_notV ?_ | refine w_if ?_ | refine w_chn ?_ | refine w_call ?_ | refine w_make ?_ | refine w_fld ?_ | refine w_ml ?_ | refine w_ml0 ?_ | refine w_sl ?_ | refine w_slD ?_ | refine w_noPart ?_ | refine w_part ?_ | refine w_dictZ ?_ | refine w_lcA ?_ | refine w_ret ?_ | refine w_rt ?_ | refine w_ifS ?_ | refine w_next ?_ | refine w_break ?_ | refine w_cont ?_ | refine w_seq ?_ | refine w_asg ?_ | refine w_drop ?_ | refine w_par ?_ | refine w_sfld ?_ | refine w_asgT ?_ | refine w_gset ?_ | refine w_gname ?_ | refine w_gtup rfl ?_ | refine w_gcons ?_ | refine w_gnil ?_ | refine w_yes ?_) | refine w_bl ?_ | refine w_int ?_ | refine w_T ?_ | refine w_F ?_ | refine w_nT ?_ | refine w_nF ?_ | refine q_len_tup ?_ | refine q_int ?_ | refine q_intB ?_ | refine q_add ?_ | refine q_sub ?_ | refine q_neg ?_ | refine q_ord ?_ | refine q_ordS ?_ | refine q_tuple_tup ?_ | refine qEq_int ?_)))
  refine q_ix_ad (by rw [up_ne q3p1]; exact hQ3) (at_nat (i := 0) rfl) ?_
  refine ⟨⟨p1, _, rfl, up_same⟩, ?_⟩
  (with_reducible (repeat (first | (first | refine w_var rfl ?_ | refine w_c ?_ | refine w_op ?_ | refine w_un ?_ | refine w_cl ?_ | refine w_nil ?_ | refine w_cons ?_ | refine w_tup ?_ | refine w_lst ?_ | refine w_test ?_ | refine w_not ?_ | refine w_and ?_ | refine w_or ?_ | refine w_andV ?_ | refine w_orV ?_ | refine w_notV ?_ | refine w_if ?_ | refine w_chn ?_ | refine w_call ?_ | refine w_make ?_ | refine w_fld ?_ | refine w_ml ?_ | refine w_ml0 ?_ | refine w_sl ?_ | refine w_slD ?_ | refine w_noPart ?_ | refine w_part ?_ | refine w_dictZ ?_ | refine w_lcA ?_ | refine w_ret ?_ | refine w_rt ?_ | refine w_ifS ?_ | refine w_next ?_ | refine w_break ?_ | refine w_cont ?_ | refine w_seq ?_ | refine w_asg ?_ | refine w_drop ?_ | refine w_par ?_ | refine w_sfld ?_ | refine w_asgT ?_ | refine w_gset ?_ | refine w_gname ?_ | refine w_gtup rfl ?_ | refine w_gcons ?_ | refine w_gnil ?_ | refine w_yes ?_) | refine w_bl ?_ | refine w_int ?_ | refine w_T ?_ | refine w_F ?_ | refine w_nT ?_ | refine w_nF ?_ | refine q_len_tup ?_ | refine q_int ?_ | refine q_intB ?_ | refine q_add ?_ | refine q_sub ?_ | refine q_neg ?_ | refine q_ord ?_ | refine q_ordS ?_ | refine q_tuple_tup ?_ | refine qEq_int ?_)))
  refine q_append up_same (by rw [List.length_reverse, dS_len]; exact Nat.lt_of_le_of_lt v.few (by decide)) ?_
  rw [up_up]
  show t_law_6 K c _ _ _ _
  unfold t_law_6
  (with_reducible (repeat (first | (first | refine w_var rfl ?_ | refine w_c ?_ | refine w_op ?_ | refine w_un ?_ | refine w_cl ?_ | refine w_nil ?_ | refine w_cons ?_ | refine w_tup ?_ | refine w_lst ?_ | refine w_test ?_ | refine w_not ?_ | refine w_and ?_ | refine w_or ?_ | refine w_andV ?_ | refine w_orV ?_ | refine w_notV ?_ | refine w_if ?_ | refine w_chn ?_ | refine w_call ?_ | refine w_make ?_ | refine w_fld ?_ | refine w_ml ?_ | refine w_ml0 ?_ | refine w_sl ?_ | refine w_slD ?_ | refine w_noPart ?_ | refine w_part ?_ | refine w_dictZ ?_ | refine w_lcA ?_ | refine w_ret ?_ | refine w_rt ?_ | refine w_ifS ?_ | refine w_next ?_ | refine w_break ?_ | refine w_cont ?_ | refine w_seq ?_ | refine w_asg ?_ | refine w_drop ?_ | refine w_par ?_ | refine w_sfld ?_ | refine w_asgT ?_ | refine w_gset ?_ | refine w_gname ?_ | refine w_gtup rfl ?_ | refine w_gcons ?_ | refine w_gnil ?_ | refine w_yes ?_) | refine w_bl ?_ | refine w_int ?_ | refine w_T ?_ | refine w_F ?_ | refine w_nT ?_ | refine w_nF ?_ | refine q_len_tup ?_ | refine q_int ?_ | refine q_intB ?_ | refine q_add ?_ | refine q_sub ?_ | refine q_neg ?_ | refine q_ord ?_ | refine q_ordS ?_ | refine q_tuple_tup ?_ | refine qEq_int ?_)))
  refine q_ix_ad (by rw [up_ne q3p1]; exact hQ3) (at_nat (i := 1) rfl) ?_
  refine ⟨⟨r1, _, rfl, by rw [up_ne r1p1]; exact hR1⟩, r1, _, rfl, rfl, by rw [up_ne r1p1]; exact hR1, ?_⟩
  have X : ∀ {x : Addr} {u : Ob} (o1 o2 : Ob), x ≠ p1 → x ≠ r1 → G4 x = some u → (up (up G4 p1 o1) r1 o2) x = some u := fun o1 o2 h1 h2 h => by rw [up_ne h2, up_ne h1]; exact h
  have cx : Ctx c (up (up G4 p1 (.lst ((dS ns).reverse ++ [.str "late"]))) r1 (.lst [])) s p r g ns es := ⟨⟨a, b, d, X _ _ a1 a2 hS2⟩, X _ _ b1 b2 hP2, X _ _ c1 c2 hR2, X _ _ gp1 gr1 hG, ps, rs, (fun z => by subst z; rw [hS2] at hG; cases hG), v, e⟩
  exact law_5 gf cx (X _ _ d1 d2 hL2) ls fun G t5 t6 t9 h => nx G _ _ t5 t6 _ _ t9 h
end
theorem pure_law {K : PySem.W.Frag} {c : Ad} (gf : GF K c) : ∀ ws G Q E, Up Q → UpX E → spLaw ws G Q E → t_law K c (fun c f _ G => E c f G) { nx := fun _ G => Q .non G, rt := Q } (startT N_law ws) G := by
  rintro _ G Q E hU _ ⟨ns, rfl, hl, hb, q⟩
  unfold t_law
  (with_reducible (repeat (first | (first | refine w_var rfl ?_ | refine w_c ?_ | refine w_op ?_ | refine w_un ?_ | refine w_cl ?_ | refine w_nil ?_ | refine w_cons ?_ | refine w_tup ?_ | refine w_lst ?_ | refine w_test ?_ | refine w_not ?_ | refine w_and ?_ | refine w_or ?_ | refine w_andV ?_ | refine w_orV ?_ | refine w_notV ?_ | refine w_if ?_ | refine w_chn ?_ | refine w_call ?_ | refine w_make ?_ | refine w_fld ?_ | refine w_ml ?_ | refine w_ml0 ?_ | refine w_sl ?_ | refine w_slD ?_ | refine w_noPart ?_ | refine w_part ?_ | refine w_dictZ ?_ | refine w_lcA ?_ | refine w_ret ?_ | refine w_rt ?_ | refine w_ifS ?_ | refine w_next ?_ | refine w_break ?_ | refine w_cont ?_ | refine w_seq ?_ | refine w_asg ?_ | refine w_drop ?_ | refine w_par ?_ | refine w_sfld ?_ | refine w_asgT ?_ | refine w_gset ?_ | refine w_gname ?_ | refine w_gtup rfl ?_ | refine w_gcons ?_ | refine w_gnil ?_ | refine w_yes ?_) | refine w_bl ?_ | refine w_int ?_ | refine w_T ?_ | refine w_F ?_ | refine w_nT ?_ | refine w_nF ?_ | refine q_len_tup ?_ | refine q_int ?_ | refine q_intB ?_ | refine q_add ?_ | refine q_sub ?_ | refine q_neg ?_ | refine q_ord ?_ | refine q_ordS ?_ | refine q_tuple_tup ?_ | refine qEq_int ?_)))
  refine w_forA ?_
  (with_reducible (repeat (first | (first | refine w_var rfl ?_ | refine w_c ?_ | refine w_op ?_ | refine w_un ?_ | refine w_cl ?_ | refine w_nil ?_ | refine w_cons ?_ | refine w_tup ?_ | refine w_lst ?_ | refine w_test ?_ | refine w_not ?_ | refine w_and ?_ | refine w_or ?_ | refine w_andV ?_ | refine w_orV ?_ | refine w_notV ?_ | refine w_if ?_ | refine w_chn ?_ | refine w_call ?_ | refine w_make ?_ | refine w_fld ?_ | refine w_ml ?_ | refine w_ml0 ?_ | refine w_sl ?_ | refine w_slD ?_ | refine w_noPart ?_ | refine w_part ?_ | refine w_dictZ ?_ | refine w_lcA ?_ | refine w_ret ?_ | refine w_rt ?_ | refine w_ifS ?_ | refine w_next ?_ | refine w_break ?_ | refine w_cont ?_ | refine w_seq ?_ | refine w_asg ?_ | refine w_drop ?_ | refine w_par ?_ | refine w_sfld ?_ | refine w_asgT ?_ | refine w_gset ?_ | refine w_gname ?_ | refine w_gtup rfl ?_ | refine w_gcons ?_ | refine w_gnil ?_ | refine w_yes ?_) | refine w_bl ?_ | refine w_int ?_ | refine w_T ?_ | refine w_F ?_ | refine w_nT ?_ | refine w_nF ?_ | refine q_len_tup ?_ | refine q_int ?_ | refine q_intB ?_ | refine q_add ?_ | refine q_sub ?_ | refine q_neg ?_ | refine q_ord ?_ | refine q_ordS ?_ | refine q_tuple_tup ?_ | refine qEq_int ?_)))
  refine ⟨_, ⟨ns, 0, rfl, rfl⟩, call_same ?_⟩
  (with_reducible (repeat (first | (first | refine w_var rfl ?_ | refine w_c ?_ | refine w_op ?_ | refine w_un ?_ | refine w_cl ?_ | refine w_nil ?_ | refine w_cons ?_ | refine w_tup ?_ | refine w_lst ?_ | refine w_test ?_ | refine w_not ?_ | refine w_and ?_ | refine w_or ?_ | refine w_andV ?_ | refine w_orV ?_ | refine w_notV ?_ | refine w_if ?_ | refine w_chn ?_ | refine w_call ?_ | refine w_make ?_ | refine w_fld ?_ | refine w_ml ?_ | refine w_ml0 ?_ | refine w_sl ?_ | refine w_slD ?_ | refine w_noPart ?_ | refine w_part ?_ | refine w_dictZ ?_ | refine w_lcA ?_ | refine w_ret ?_ | refine w_rt ?_ | refine w_ifS ?_ | refine w_next ?_ | refine w_break ?_ | refine w_cont ?_ | refine w_seq ?_ | refine w_asg ?_ | refine w_drop ?_ | refine w_par ?_ | refine w_sfld ?_ | refine w_asgT ?_ | refine w_gset ?_ | refine w_gname ?_ | refine w_gtup rfl ?_ | refine w_gcons ?_ | refine w_gnil ?_ | refine w_yes ?_) | refine w_bl ?_ | refine w_int ?_ | refine w_T ?_ | refine w_F ?_ | refine w_nT ?_ | refine w_nF ?_ | refine q_len_tup ?_ | refine q_int ?_ | refine q_intB ?_ | refine q_add ?_ | refine q_sub ?_ | refine q_neg ?_ | refine q_ord ?_ | refine q_ordS ?_ | refine q_tuple_tup ?_ | refine qEq_int ?_)))
  refine ⟨by show 1 ≤ sizeLine; decide, fun l1 hl1 => ?_⟩
  (with_reducible (repeat (first | (first | refine w_var rfl ?_ | refine w_c ?_ | refine w_op ?_ | refine w_un ?_ | refine w_cl ?_ | refine w_nil ?_ | refine w_cons ?_ | refine w_tup ?_ | refine w_lst ?_ | refine w_test ?_ | refine w_not ?_ | refine w_and ?_ | refine w_or ?_ | refine w_andV ?_ | refine w_orV ?_ | refine w_notV ?_ | refine w_if ?_ | refine w_chn ?_ | refine w_call ?_ | refine w_make ?_ | refine w_fld ?_ | refine w_ml ?_ | refine w_ml0 ?_ | refine w_sl ?_ | refine w_slD ?_ | refine w_noPart ?_ | refine w_part ?_ | refine w_dictZ ?_ | refine w_lcA ?_ | refine w_ret ?_ | refine w_rt ?_ | refine w_ifS ?_ | refine w_next ?_ | refine w_break ?_ | refine w_cont ?_ | refine w_seq ?_ | refine w_asg ?_ | refine w_drop ?_ | refine w_par ?_ | refine w_sfld ?_ | refine w_asgT ?_ | refine w_gset ?_ | refine w_gname ?_ | refine w_gtup rfl ?_ | refine w_gcons ?_ | refine w_gnil ?_ | refine w_yes ?_) | refine w_bl ?_ | refine w_int ?_ | refine w_T ?_ | refine w_F ?_ | refine w_nT ?_ | refine w_nF ?_ | refine q_len_tup ?_ | refine q_int ?_ | refine q_intB ?_ | refine q_add ?_ | refine q_sub ?_ | refine q_neg ?_ | refine q_ord ?_ | refine q_ordS ?_ | refine q_tuple_tup ?_ | refine qEq_int ?_)))
  refine q_sl_fl fun l2 hl2 => ?_
  have hl1' := HSub.new (o := .lst (cutL (ns.map Dv.int) (some 1) (some 6))) hl2 _ _ (up_same (G := G) (a := l1) (o := .lst [.int (ns.getD 0 0)]))
  have cl : (cutL (ns.map Dv.int) (some 1) (some 6)).length ≤ 63 := by
    unfold cutL
    rw [List.length_take, List.length_drop, List.length_map]; omega
  refine q_addL hl1' up_same (size_ge (by show 1 + _ ≤ 4000; omega)) fun l hl3 => ?_
  generalize hcs : [Dv.int (ns.getD 0 0)] ++ cutL (ns.map Dv.int) (some 1) (some 6) = cs
  have good : ∀ x ∈ cs, ∃ z : Int, x = .int z ∧ Builtin.Int.intBits z ≤ 1048576 := by
    intro x hx
    rw [← hcs] at hx
    rcases List.mem_append.mp hx with hx | hx
    · rw [List.mem_singleton.mp hx]
      refine ⟨_, rfl, ?_⟩
      cases ns with
      | nil => decide
      | cons n ns => exact hb n List.mem_cons_self
    · have := List.mem_of_mem_drop (List.mem_of_mem_take hx)
      obtain ⟨z, hz, rfl⟩ := List.mem_map.mp this
      exact ⟨z, rfl, hb z hz⟩
  refine ⟨cs, up_same, ?_⟩
  refine ⟨fun i τ G' => ∃ t1 t2 t3 t4 t5 t6 t7 t8 t9, τ = [some (.fl (ns.map Dv.int)), t1, t2, t3, t4, t5, t6, t7, t8, t9] ∧ G' l = some (.lst cs), ⟨none, none, none, none, none, none, none, none, none, rfl, up_same⟩, ?_, ?_, ?_⟩
  · rintro i _ _ _ ⟨t1, t2, t3, t4, t5, t6, t7, t8, t9, rfl, h⟩
    exact h
  · rintro i x _ G1 hx ⟨t1, t2, t3, t4, t5, t6, t7, t8, t9, rfl, h⟩
    obtain ⟨z, rfl, hz⟩ := good x (List.mem_of_getElem? hx)
    (with_reducible (repeat (first | (first | refine w_var rfl ?_ | refine w_c ?_ | refine w_op ?_ | refine w_un ?_ | refine w_cl ?_ | refine w_nil ?_ | refine w_cons ?_ | refine w_tup ?_ | refine w_lst ?_ | refine w_test ?_ | refine w_not ?_ | refine w_and ?_ | refine w_or ?_ | refine w_andV ?_ | refine w_orV ?_ | refine w_notV ?_ | refine w_if ?_ | refine w_chn ?_ | refine w_call ?_ | refine w_make ?_ | refine w_fld ?_ | refine w_ml ?_ | refine w_ml0 ?_ | refine w_sl ?_ | refine w_slD ?_ | refine w_noPart ?_ | refine w_part ?_ | refine w_dictZ ?_ | refine w_lcA ?_ | refine w_ret ?_ | refine w_rt ?_ | refine w_ifS ?_ | refine w_next ?_ | refine w_break ?_ | refine w_cont ?_ | refine w_seq ?_ | refine w_asg ?_ | refine w_drop ?_ | refine w_par ?_ | refine w_sfld ?_ | refine w_asgT ?_ | refine w_gset ?_ | refine w_gname ?_ | refine w_gtup rfl ?_ | refine w_gcons ?_ | refine w_gnil ?_ | refine w_yes ?_) | refine w_bl ?_ | refine w_int ?_ | refine w_T ?_ | refine w_F ?_ | refine w_nT ?_ | refine w_nF ?_ | refine q_len_tup ?_ | refine q_int ?_ | refine q_intB ?_ | refine q_add ?_ | refine q_sub ?_ | refine q_neg ?_ | refine q_ord ?_ | refine q_ordS ?_ | refine q_tuple_tup ?_ | refine qEq_int ?_)))
    refine ⟨_, ⟨z, rfl, hz, rfl⟩, ?_⟩
    rintro _ _ ⟨s, a, b, d, rfl, hs, rfl⟩
    have ls : l ≠ s := fun e => by subst e; rw [h] at hs; cases hs
    show t_law_12 K c _ _ _ _
    refine law_12 gf up_same (by rw [up_ne ls]; exact h) ls fun G t3 t4 t5 t6 t7 t8 t9 h => ?_
    exact ⟨_, _, TSub.refl _, HSub.refl _, _, _, _, _, _, _, _, _, _, rfl, h⟩
  · rintro _ G1 ⟨t1, t2, t3, t4, t5, t6, t7, t8, t9, rfl, h⟩
    dsimp only
    unfold t_law_13
    (with_reducible (repeat (first | (first | refine w_var rfl ?_ | refine w_c ?_ | refine w_op ?_ | refine w_un ?_ | refine w_cl ?_ | refine w_nil ?_ | refine w_cons ?_ | refine w_tup ?_ | refine w_lst ?_ | refine w_test ?_ | refine w_not ?_ | refine w_and ?_ | refine w_or ?_ | refine w_andV ?_ | refine w_orV ?_ | refine w_notV ?_ | refine w_if ?_ | refine w_chn ?_ | refine w_call ?_ | refine w_make ?_ | refine w_fld ?_ | refine w_ml ?_ | refine w_ml0 ?_ | refine w_sl ?_ | refine w_slD ?_ | refine w_noPart ?_ | refine w_part ?_ | refine w_dictZ ?_ | refine w_lcA ?_ | refine w_ret ?_ | refine w_rt ?_ | refine w_ifS ?_ | refine w_next ?_ | refine w_break ?_ | refine w_cont ?_ | refine w_seq ?_ | refine w_asg ?_ | refine w_drop ?_ | refine w_par ?_ | refine w_sfld ?_ | refine w_asgT ?_ | refine w_gset ?_ | refine w_gname ?_ | refine w_gtup rfl ?_ | refine w_gcons ?_ | refine w_gnil ?_ | refine w_yes ?_) | refine w_bl ?_ | refine w_int ?_ | refine w_T ?_ | refine w_F ?_ | refine w_nT ?_ | refine w_nF ?_ | refine q_len_tup ?_ | refine q_int ?_ | refine q_intB ?_ | refine q_add ?_ | refine q_sub ?_ | refine q_neg ?_ | refine q_ord ?_ | refine q_ordS ?_ | refine q_tuple_tup ?_ | refine qEq_int ?_)))
    exact q _

end M

set_option Elab.async false
set_option linter.all false
set_option maxRecDepth 100000
set_option maxHeartbeats 4000000
namespace M
open PySem PySem.Spec PyProof.Rows L2 S J
theorem six {P : String → Prop} {n : String} (hn : n ∈ tyNames) (a : P "NoneType") (b : P "bool") (c : P "int") (d : P "str") (e : P "tuple") (f : P "list") : P n := by
  unfold tyNames at hn
  rcases List.mem_cons.mp hn with rfl | hn
  · exact a
  rcases List.mem_cons.mp hn with rfl | hn
  · exact b
  rcases List.mem_cons.mp hn with rfl | hn
  · exact c
  rcases List.mem_cons.mp hn with rfl | hn
  · exact d
  rcases List.mem_cons.mp hn with rfl | hn
  · exact e
  rcases List.mem_cons.mp hn with rfl | hn
  · exact f
  · cases hn
theorem kit_no {K : PySem.W.Frag} {C : Addr} {t : Value} (a : PySem.W.isClsIn K C = true) (b : PySem.W.typeIn K (.ref C) = some (.type "type")) (s : PySem.W.subIn K t (.ref C) = some false) : PySem.W.kitCls K t (.ref C) = some false := by
  have a' : (PySem.W.clsIn K C).isSome = true := a
  show (if ((PySem.W.clsIn K C).isSome && PySem.W.typeIn K (.ref C) == some (.type "type")) = true then PySem.W.subIn K t (.ref C) else none) = _
  rw [a', b, if_pos (by rw [beq_self_eq_true]; rfl)]
  exact s
abbrev top (i : Nat) : Stmt := PySem.Challenge.pw_linkparity_k01_graphs_constructed.main.body.getD i (.Pass ⟨0, 0, 0, 0⟩)
structure Y (K : PySem.W.Frag) (mg : Str → Option Value) (c : Ad) : Prop where
  b_all : mg "all" = none
  b_dict : mg "dict" = none
  b_int : mg "int" = none
  b_isinstance : mg "isinstance" = none
  b_len : mg "len" = none
  b_list : mg "list" = none
  b_max : mg "max" = none
  b_min : mg "min" = none
  b_range : mg "range" = none
  b_set : mg "set" = none
  b_sorted : mg "sorted" = none
  b_str : mg "str" = none
  b_tuple : mg "tuple" = none
  b_zip : mg "zip" = none
  c_Graph : mg "Graph" = some (.ref c.cGraph)
  g_LETTERS : ∃ t, mg "LETTERS" = some (.str "abcdefghijklmnopqrstuvwxyz" t)
  g_MAX_EDGES : ∃ t, mg "MAX_EDGES" = some (.int 15 t)
  g_MAX_LENGTH : ∃ t, mg "MAX_LENGTH" = some (.int 8 t)
  g_MAX_VERTICES : ∃ t, mg "MAX_VERTICES" = some (.int 10 t)
  kGraph : Cls K c.cGraph
  nGraph_edges : NoAttr K c.cGraph "edges"
  nGraph_vertices : NoAttr K c.cGraph "vertices"
abbrev s_is_row : Stmt := top 7
theorem sc_is_row : FnScope N_is_row ["value"] (defScope s_is_row) := ⟨rfl, rfl, rfl, by decide +kernel, rfl, by decide +kernel, by decide +kernel⟩
theorem ok_is_row {P : Program} {w : World} {K : PySem.W.Frag} {mg : Str → Option Value} {base : Heap} {c : Ad} {f : Addr} {fd : FuncData} (gf : GF K c) (Y : Y K mg c) 
    (F : Fun K "is_row" "is_row" s_is_row f fd) : FnOk P w K mg base (L2.CX P w) (0 + 1) f fd ["value"] (LSp ⟨K, w⟩ (sp_is_row K c)) := by
  refine okJ (t := t_is_row K c) F sc_is_row len_is_row (fun cdv A outer s H E hr => ?_) (pure_is_row)
  have hu := Room.hu hr
  have hv := Room.units hr
  exact (jss_one (js_ret (je_callB jc_isiT (by rfl) Y.b_isinstance (by decide +kernel) (ja_cons (je_var 0) (ja_cons (je_tup (ja_cons (je_ty (by rfl) Y.b_list (by decide +kernel)) (ja_cons (je_ty (by rfl) Y.b_tuple (by decide +kernel)) ja_nil))) ja_nil)))))
abbrev s_is_name : Stmt := top 6
theorem sc_is_name : FnScope N_is_name ["value"] (defScope s_is_name) := ⟨rfl, rfl, rfl, by decide +kernel, rfl, by decide +kernel, by decide +kernel⟩
theorem ok_is_name {P : Program} {w : World} {K : PySem.W.Frag} {mg : Str → Option Value} {base : Heap} {c : Ad} {f : Addr} {fd : FuncData} (gf : GF K c) (Y : Y K mg c) 
    (F : Fun K "is_name" "is_name" s_is_name f fd) : FnOk P w K mg base (L2.CX P w) (0 + 1) f fd ["value"] (LSp ⟨K, w⟩ (sp_is_name K c)) := by
  refine okJ (t := t_is_name K c) F sc_is_name len_is_name (fun cdv A outer s H E hr => ?_) (pure_is_name)
  have hu := Room.hu hr
  have hv := Room.units hr
  exact (jss_one (js_ret (je_and (je_callB jc_isi (by rfl) Y.b_isinstance (by decide +kernel) (ja_cons (je_var 0) (ja_cons (je_ty (by rfl) Y.b_str (by decide +kernel)) ja_nil))) (je_and (je_chain jo_le jo_le je_int (je_callB (jc_len) (by rfl) Y.b_len (by decide +kernel) (ja_cons (je_var 0) ja_nil)) (je_gint2 (by rfl) Y.g_MAX_LENGTH)) (je_one (je_callB (jc_all rfl) (by rfl) Y.b_all (by decide +kernel) (ja_cons (je_lc (own := [("letter", 1)]) rfl (sc_is_name).nd (ji_any (je_var 0)) (blkOk_by (N := N_is_name) (sc := defScope s_is_name) (by decide +kernel)) (fun _ _ _ _ _ => (jg_name (i := 1) (sc_is_name).nd)) (fun _ _ _ _ _ => jts_nil) (fun _ _ _ _ _ => (je_cmp (jo_in2 hu) (je_var 1) (je_gstr2 (by rfl) Y.g_LETTERS)))) ja_nil)))))))
abbrev s_joins : Stmt := top 12
theorem sc_joins : FnScope N_joins ["vertices", "value"] (defScope s_joins) := ⟨rfl, rfl, rfl, by decide +kernel, rfl, by decide +kernel, by decide +kernel⟩
theorem ok_joins {P : Program} {w : World} {K : PySem.W.Frag} {mg : Str → Option Value} {base : Heap} {c : Ad} {f : Addr} {fd : FuncData} (gf : GF K c) (Y : Y K mg c) (z_is_name : Cal P w K mg base 1 "is_name" ["value"] (sp_is_name K c))
    (F : Fun K "joins" "joins" s_joins f fd) : FnOk P w K mg base (L2.CX P w) (1 + 1) f fd ["vertices", "value"] (LSp ⟨K, w⟩ (sp_joins K c)) := by
  refine okJ (t := t_joins K c) F sc_joins len_joins (fun cdv A outer s H E hr => ?_) (pure_joins)
  have hu := Room.hu hr
  have hv := Room.units hr
  exact (jss_cons (js_if (JW.jt (jw_or (jt_not (jt_val (je_callB jc_isi (by rfl) Y.b_isinstance (by decide +kernel) (ja_cons (je_var 1) (ja_cons (je_ty (by rfl) Y.b_tuple (by decide +kernel)) ja_nil))))) (jw_or1 (jt_cmp (jo_ne2 hu) (je_callB (jc_len) (by rfl) Y.b_len (by decide +kernel) (ja_cons (je_var 1) ja_nil)) je_int)))) (jss_one (js_ret je_bl)) jss_nil)
  (jss_one (js_ret (je_and (je_callB (jc_all rfl) (by rfl) Y.b_all (by decide +kernel) (ja_cons (je_lc (own := [("end", 2)]) rfl (sc_joins).nd (ji_any (je_var 1)) (blkOk_by (N := N_joins) (sc := defScope s_joins) (by decide +kernel)) (fun _ _ _ _ _ => (jg_name (i := 2) (sc_joins).nd)) (fun _ _ _ _ _ => jts_nil) (fun _ _ _ _ _ => (je_and (Cal.je z_is_name (hr.mono (by decide)) (by rfl) (ja_cons (je_var 2) ja_nil)) (je_one (je_cmp (jo_in2 hu) (je_var 2) (je_var 0)))))) ja_nil)) (je_one (je_cmp (jo_lt2 hu) (je_ix (ji_ix2 hv) (je_var 1) je_int) (je_ix (ji_ix2 hv) (je_var 1) je_int)))))))
abbrev s_are_edges : Stmt := top 13
theorem sc_are_edges : FnScope N_are_edges ["vertices", "value"] (defScope s_are_edges) := ⟨rfl, rfl, rfl, by decide +kernel, rfl, by decide +kernel, by decide +kernel⟩
theorem ok_are_edges {P : Program} {w : World} {K : PySem.W.Frag} {mg : Str → Option Value} {base : Heap} {c : Ad} {f : Addr} {fd : FuncData} (gf : GF K c) (Y : Y K mg c) (z_is_row : Cal P w K mg base 1 "is_row" ["value"] (sp_is_row K c)) (z_joins : Cal P w K mg base 2 "joins" ["vertices", "value"] (sp_joins K c))
    (F : Fun K "are_edges" "are_edges" s_are_edges f fd) : FnOk P w K mg base (L2.CX P w) (2 + 1) f fd ["vertices", "value"] (LSp ⟨K, w⟩ (sp_are_edges K c)) := by
  refine okJ (t := t_are_edges K c) F sc_are_edges len_are_edges (fun cdv A outer s H E hr => ?_) (pure_are_edges)
  have hu := Room.hu hr
  have hv := Room.units hr
  exact (jss_cons (js_if (JW.jt (jw_or (jt_not (jt_val (Cal.je z_is_row (hr.mono (by decide)) (by rfl) (ja_cons (je_var 1) ja_nil)))) (jw_or1 (jt_cmp (jo_gt2 hu) (je_callB (jc_len) (by rfl) Y.b_len (by decide +kernel) (ja_cons (je_var 1) ja_nil)) (je_gint2 (by rfl) Y.g_MAX_EDGES))))) (jss_one (js_ret je_bl)) jss_nil)
  (jss_one (js_ret (je_and (je_callB (jc_all rfl) (by rfl) Y.b_all (by decide +kernel) (ja_cons (je_lc (own := [("edge", 2)]) rfl (sc_are_edges).nd (ji_any (je_var 1)) (blkOk_by (N := N_are_edges) (sc := defScope s_are_edges) (by decide +kernel)) (fun _ _ _ _ _ => (jg_name (i := 2) (sc_are_edges).nd)) (fun _ _ _ _ _ => jts_nil) (fun _ _ _ _ _ => (Cal.je z_joins (hr.mono (by decide)) (by rfl) (ja_cons (je_var 0) (ja_cons (je_var 2) ja_nil))))) ja_nil)) (je_one (je_cmp (jo_eq2 hu) (je_lenSet rfl hv (by rfl) Y.b_len (by rfl) Y.b_set (je_var 1)) (je_callB (jc_len) (by rfl) Y.b_len (by decide +kernel) (ja_cons (je_var 1) ja_nil))))))))
abbrev s_are_vertices : Stmt := top 11
theorem sc_are_vertices : FnScope N_are_vertices ["value"] (defScope s_are_vertices) := ⟨rfl, rfl, rfl, by decide +kernel, rfl, by decide +kernel, by decide +kernel⟩
theorem ok_are_vertices {P : Program} {w : World} {K : PySem.W.Frag} {mg : Str → Option Value} {base : Heap} {c : Ad} {f : Addr} {fd : FuncData} (gf : GF K c) (Y : Y K mg c) (z_is_name : Cal P w K mg base 1 "is_name" ["value"] (sp_is_name K c)) (z_is_row : Cal P w K mg base 1 "is_row" ["value"] (sp_is_row K c))
    (F : Fun K "are_vertices" "are_vertices" s_are_vertices f fd) : FnOk P w K mg base (L2.CX P w) (1 + 1) f fd ["value"] (LSp ⟨K, w⟩ (sp_are_vertices K c)) := by
  refine okJ (t := t_are_vertices K c) F sc_are_vertices len_are_vertices (fun cdv A outer s H E hr => ?_) (pure_are_vertices)
  have hu := Room.hu hr
  have hv := Room.units hr
  exact (jss_cons (js_if (JW.jt (jw_or (jt_not (jt_val (Cal.je z_is_row (hr.mono (by decide)) (by rfl) (ja_cons (je_var 0) ja_nil)))) (jw_or1 (jt_not (jt_chain jo_le jo_le je_int (je_callB (jc_len) (by rfl) Y.b_len (by decide +kernel) (ja_cons (je_var 0) ja_nil)) (je_gint2 (by rfl) Y.g_MAX_VERTICES)))))) (jss_one (js_ret je_bl)) jss_nil)
  (jss_one (js_ret (je_and (je_callB (jc_all rfl) (by rfl) Y.b_all (by decide +kernel) (ja_cons (je_lc (own := [("name", 1)]) rfl (sc_are_vertices).nd (ji_any (je_var 0)) (blkOk_by (N := N_are_vertices) (sc := defScope s_are_vertices) (by decide +kernel)) (fun _ _ _ _ _ => (jg_name (i := 1) (sc_are_vertices).nd)) (fun _ _ _ _ _ => jts_nil) (fun _ _ _ _ _ => (Cal.je z_is_name (hr.mono (by decide)) (by rfl) (ja_cons (je_var 1) ja_nil)))) ja_nil)) (je_one (je_cmp (jo_eq2 hu) (je_lenSet rfl hv (by rfl) Y.b_len (by rfl) Y.b_set (je_var 0)) (je_callB (jc_len) (by rfl) Y.b_len (by decide +kernel) (ja_cons (je_var 0) ja_nil))))))))
abbrev s_Graph___init__ : Stmt := inClass (top 14) 0
theorem sc_Graph___init__ : FnScope N_Graph___init__ ["self", "vertices", "edges"] (defScope s_Graph___init__) := ⟨rfl, rfl, rfl, by decide +kernel, rfl, by decide +kernel, by decide +kernel⟩
theorem ok_Graph___init__ {P : Program} {w : World} {K : PySem.W.Frag} {mg : Str → Option Value} {base : Heap} {c : Ad} {f : Addr} {fd : FuncData} (gf : GF K c) (Y : Y K mg c) (z_are_edges : Cal P w K mg base 3 "are_edges" ["vertices", "value"] (sp_are_edges K c)) (z_are_vertices : Cal P w K mg base 2 "are_vertices" ["value"] (sp_are_vertices K c))
    (F : Fun K "__init__" "Graph.__init__" s_Graph___init__ f fd) : FnOk P w K mg base (L2.CX P w) (3 + 1) f fd ["self", "vertices", "edges"] (LSp ⟨K, w⟩ (sp_Graph___init__ K c)) := by
  refine okJ (t := t_Graph___init__ K c) F sc_Graph___init__ len_Graph___init__ (fun cdv A outer s H E hr => ?_) (pure_Graph___init__)
  have hu := Room.hu hr
  have hv := Room.units hr
  exact (jss_cons (js_if (jt_not (jt_val (Cal.je z_are_vertices (hr.mono (by decide)) (by rfl) (ja_cons (je_var 1) ja_nil)))) (jss_one js_never) jss_nil)
  (jss_cons (js_if (jt_not (jt_val (Cal.je z_are_edges (hr.mono (by decide)) (by rfl) (ja_cons (je_var 1) (ja_cons (je_var 2) ja_nil))))) (jss_one js_never) jss_nil)
  (jss_cons (js_fld Y.kGraph Y.nGraph_vertices (je_var 0) (je_callTy (jc_tuple) (by rfl) Y.b_tuple (by decide +kernel) (ja_cons (je_var 1) ja_nil)))
  (jss_one (js_fld Y.kGraph Y.nGraph_edges (je_var 0) (je_callTy (jc_tuple) (by rfl) Y.b_tuple (by decide +kernel) (ja_cons (je_callB (jc_sorted hv) (by rfl) Y.b_sorted (by decide +kernel) (ja_cons (je_var 2) ja_nil)) ja_nil)))))))
abbrev s_Graph___eq__ : Stmt := inClass (top 14) 1
theorem sc_Graph___eq__ : FnScope N_Graph___eq__ ["self", "other"] (defScope s_Graph___eq__) := ⟨rfl, rfl, rfl, by decide +kernel, rfl, by decide +kernel, by decide +kernel⟩
theorem ok_Graph___eq__ {P : Program} {w : World} {K : PySem.W.Frag} {mg : Str → Option Value} {base : Heap} {c : Ad} {f : Addr} {fd : FuncData} (gf : GF K c) (Y : Y K mg c) 
    (F : Fun K "__eq__" "Graph.__eq__" s_Graph___eq__ f fd) : FnOk P w K mg base (L2.CX P w) (0 + 1) f fd ["self", "other"] (LSp ⟨K, w⟩ (sp_Graph___eq__ K c)) := by
  refine okJ (t := t_Graph___eq__ K c) F sc_Graph___eq__ len_Graph___eq__ (fun cdv A outer s H E hr => ?_) (pure_Graph___eq__ gf)
  have hu := Room.hu hr
  have hv := Room.units hr
  exact (jss_one (js_ret (je_and (je_callB jc_isi (by rfl) Y.b_isinstance (by decide +kernel) (ja_cons (je_var 1) (ja_cons (je_ref (by rfl) Y.c_Graph) ja_nil))) (je_and (je_cmp (jo_eq2 hu) (je_fld Y.kGraph Y.nGraph_vertices (je_var 0)) (je_fld Y.kGraph Y.nGraph_vertices (je_var 1))) (je_one (je_cmp (jo_eq2 hu) (je_fld Y.kGraph Y.nGraph_edges (je_var 0)) (je_fld Y.kGraph Y.nGraph_edges (je_var 1))))))))
abbrev s_L_next : Stmt := top 18
theorem sc_L_next : FnScope N_L_next ["_law_source", "_law_many"] (defScope s_L_next) := ⟨rfl, rfl, rfl, by decide +kernel, rfl, by decide +kernel, by decide +kernel⟩
theorem ok_L_next {P : Program} {w : World} {K : PySem.W.Frag} {mg : Str → Option Value} {base : Heap} {c : Ad} {f : Addr} {fd : FuncData} (gf : GF K c) (Y : Y K mg c) 
    (F : Fun K "_law_next" "_law_next" s_L_next f fd) : FnOk P w K mg base (L2.CX P w) (0 + 1) f fd ["_law_source", "_law_many"] (LSp ⟨K, w⟩ (sp_L_next K c)) := by
  refine okJ (t := t_L_next K c) F sc_L_next len_L_next (fun cdv A outer s H E hr => ?_) (pure_L_next)
  have hu := Room.hu hr
  have hv := Room.units hr
  exact (jss_cons (js_if (jt_cmp (jo_gt2 hu) (je_ix (ji_ix2 hv) (je_var 0) je_int) je_int) (jss_cons (js_set (i := 4) (sc_L_next).nd (je_op (jo_mod) (je_callTy (jc_int) (by rfl) Y.b_int (by decide +kernel) (ja_cons (je_ix (ji_ix2 hv) (je_var 0) je_int) ja_nil)) (je_var 1)))
  (jss_cons (js_asg (je_op (jo_fdiv) (je_ix (ji_ix2 hv) (je_var 0) je_int) (je_var 1)) (jg_set hu (je_var 0) je_int))
  (jss_one (js_ret (je_var 4))))) jss_nil)
  (jss_cons (js_asg (je_op (jo_add) (je_ix (ji_ix2 hv) (je_var 0) je_int) je_int) (jg_set hu (je_var 0) je_int))
  (jss_cons (js_set (i := 2) (sc_L_next).nd je_int)
  (jss_cons (js_set (i := 3) (sc_L_next).nd (je_op (jo_mod) (je_callTy (jc_int) (by rfl) Y.b_int (by decide +kernel) (ja_cons (je_op (jo_add) (je_op (jo_add) (je_ix (ji_ix2 hv) (je_var 0) je_int) (je_op (jo_mul) je_int (je_ix (ji_ix2 hv) (je_var 0) je_int))) je_int) ja_nil)) (je_var 2)))
  (jss_cons (js_set (i := 3) (sc_L_next).nd (je_op (jo_mod) (je_callTy (jc_int) (by rfl) Y.b_int (by decide +kernel) (ja_cons (je_op (jo_mul) (je_var 3) je_int) ja_nil)) (je_var 2)))
  (jss_cons (js_set (i := 3) (sc_L_next).nd (je_op (jo_mod) (je_callTy (jc_int) (by rfl) Y.b_int (by decide +kernel) (ja_cons (je_op (jo_mul) (je_var 3) (je_op (jo_add) (je_op (jo_fdiv) (je_var 3) je_int) je_int)) ja_nil)) (je_var 2)))
  (jss_cons (js_set (i := 3) (sc_L_next).nd (je_op (jo_mod) (je_callTy (jc_int) (by rfl) Y.b_int (by decide +kernel) (ja_cons (je_op (jo_mul) (je_var 3) (je_op (jo_add) (je_op (jo_fdiv) (je_var 3) je_int) je_int)) ja_nil)) je_int))
  (jss_one (js_ret (je_op (jo_mod) (je_callTy (jc_int) (by rfl) Y.b_int (by decide +kernel) (ja_cons (je_op (jo_fdiv) (je_var 3) je_int) ja_nil)) (je_var 1)))))))))))
abbrev s_L_mixed : Stmt := top 20
theorem sc_L_mixed : FnScope N_L_mixed ["_law_source", "_law_some"] (defScope s_L_mixed) := ⟨rfl, rfl, rfl, by decide +kernel, rfl, by decide +kernel, by decide +kernel⟩
theorem ok_L_mixed {P : Program} {w : World} {K : PySem.W.Frag} {mg : Str → Option Value} {base : Heap} {c : Ad} {f : Addr} {fd : FuncData} (gf : GF K c) (Y : Y K mg c) (z_L_next : Cal P w K mg base 1 "_law_next" ["_law_source", "_law_many"] (sp_L_next K c))
    (F : Fun K "_law_mixed" "_law_mixed" s_L_mixed f fd) : FnOk P w K mg base (L2.CX P w) (1 + 1) f fd ["_law_source", "_law_some"] (LSp ⟨K, w⟩ (sp_L_mixed K c)) := by
  refine okJ (t := t_L_mixed K c) F sc_L_mixed len_L_mixed (fun cdv A outer s H E hr => ?_) (pure_L_mixed)
  have hu := Room.hu hr
  have hv := Room.units hr
  exact (jss_cons (js_set (i := 2) (sc_L_mixed).nd (je_callTy (jc_list2 rfl) (by rfl) Y.b_list (by decide +kernel) (ja_cons (je_var 1) ja_nil)))
  (jss_cons (js_set (i := 3) (sc_L_mixed).nd (je_lst ja_nil))
  (jss_cons (js_while (passes_of rfl) (jt_cmp (jo_ne2 hu) (je_var 2) (je_lst ja_nil)) (jss_one (js_expr (je_ml PySem.F.plainAttrs_list PySem.F.slot_list_append PySem.F.type_list_append jm_append (je_var 3) (ja_cons (je_ml PySem.F.plainAttrs_list PySem.F.slot_list_pop PySem.F.type_list_pop jm_popAt (je_var 2) (ja_cons (Cal.je z_L_next (hr.mono (by decide)) (by rfl) (ja_cons (je_var 0) (ja_cons (je_callB (jc_len) (by rfl) Y.b_len (by decide +kernel) (ja_cons (je_var 2) ja_nil)) ja_nil))) ja_nil)) ja_nil)))))
  (jss_one (js_ret (je_var 3))))))
abbrev s_L_one : Stmt := top 19
theorem sc_L_one : FnScope N_L_one ["_law_source", "_law_some"] (defScope s_L_one) := ⟨rfl, rfl, rfl, by decide +kernel, rfl, by decide +kernel, by decide +kernel⟩
theorem ok_L_one {P : Program} {w : World} {K : PySem.W.Frag} {mg : Str → Option Value} {base : Heap} {c : Ad} {f : Addr} {fd : FuncData} (gf : GF K c) (Y : Y K mg c) (z_L_next : Cal P w K mg base 1 "_law_next" ["_law_source", "_law_many"] (sp_L_next K c))
    (F : Fun K "_law_one" "_law_one" s_L_one f fd) : FnOk P w K mg base (L2.CX P w) (1 + 1) f fd ["_law_source", "_law_some"] (LSp ⟨K, w⟩ (sp_L_one K c)) := by
  refine okJ (t := t_L_one K c) F sc_L_one len_L_one (fun cdv A outer s H E hr => ?_) (pure_L_one)
  have hu := Room.hu hr
  have hv := Room.units hr
  exact (jss_one (js_ret (je_ix (ji_ix2 hv) (je_var 1) (Cal.je z_L_next (hr.mono (by decide)) (by rfl) (ja_cons (je_var 0) (ja_cons (je_callB (jc_len) (by rfl) Y.b_len (by decide +kernel) (ja_cons (je_var 1) ja_nil)) ja_nil))))))
abbrev s_L_other_edges_right : Stmt := top 23
theorem sc_L_other_edges_right : FnScope N_L_other_edges_right ["_law_source", "_law_names", "_law_edges", "_law_graph"] (defScope s_L_other_edges_right) := ⟨rfl, rfl, rfl, by decide +kernel, rfl, by decide +kernel, by decide +kernel⟩
theorem ok_L_other_edges_right {P : Program} {w : World} {K : PySem.W.Frag} {mg : Str → Option Value} {base : Heap} {c : Ad} {f : Addr} {fd : FuncData} (gf : GF K c) (Y : Y K mg c) (z_Graph___eq__ : Eal P w K mg base 1 c.cGraph ["self", "other"] (sp_Graph___eq__ K c)) (z_Graph___init__ : Kal P w K mg base 4 c.cGraph ["self", "vertices", "edges"] (sp_Graph___init__ K c)) (z_L_mixed : Cal P w K mg base 2 "_law_mixed" ["_law_source", "_law_some"] (sp_L_mixed K c)) (z_L_next : Cal P w K mg base 1 "_law_next" ["_law_source", "_law_many"] (sp_L_next K c)) (z_L_one : Cal P w K mg base 2 "_law_one" ["_law_source", "_law_some"] (sp_L_one K c))
    (F : Fun K "_law_other_edges_right" "_law_other_edges_right" s_L_other_edges_right f fd) : FnOk P w K mg base (L2.CX P w) (5 + 1) f fd ["_law_source", "_law_names", "_law_edges", "_law_graph"] (LSp ⟨K, w⟩ (sp_L_other_edges_right K c)) := by
  refine okJ (t := t_L_other_edges_right K c) F sc_L_other_edges_right len_L_other_edges_right (fun cdv A outer s H E hr => ?_) (pure_L_other_edges_right gf)
  have hu := Room.hu hr
  have hv := Room.units hr
  exact (jss_cons (js_set (i := 4) (sc_L_other_edges_right).nd (je_lst ja_nil))
  (jss_cons (js_for (passes_of rfl) rfl (ji_any (je_var 1)) (jg_name (i := 5) (sc_L_other_edges_right).nd) (jss_one (js_expr (je_ml PySem.F.plainAttrs_list PySem.F.slot_list_extend PySem.F.type_list_extend jm_extend (je_var 4) (ja_cons (je_lc (own := [("_law_end", 15)]) rfl (sc_L_other_edges_right).nd (ji_any (je_var 1)) (blkOk_by (N := N_L_other_edges_right) (sc := defScope s_L_other_edges_right) (by decide +kernel)) (fun _ _ _ _ _ => (jg_name (i := 15) (sc_L_other_edges_right).nd)) (fun _ _ _ _ _ => (jts_one (JW.jt (jw_and (jt_cmp (jo_lt2 hu) (je_var 5) (je_var 15)) (jw_and1 (jt_cmp (jo_notIn2 hu) (je_tup (ja_cons (je_var 5) (ja_cons (je_var 15) ja_nil))) (je_var 2))))))) (fun _ _ _ _ _ => (je_tup (ja_cons (je_var 5) (ja_cons (je_var 15) ja_nil))))) ja_nil)))))
  (jss_cons (js_for (passes_of rfl) rfl (ji_range1 (by rfl) Y.b_range (ja_cons (je_op (jo_mul) je_int (je_callTy (jc_int) (by rfl) Y.b_int (by decide +kernel) (ja_cons (je_and (je_cmp (jo_ne2 hu) (je_var 2) (je_lst ja_nil)) (je_one (je_cmp (jo_ne2 hu) (je_var 4) (je_lst ja_nil)))) ja_nil))) ja_nil)) (jg_name (i := 6) (sc_L_other_edges_right).nd) (jss_cons (js_set (i := 8) (sc_L_other_edges_right).nd (Cal.je z_L_one (hr.mono (by decide)) (by rfl) (ja_cons (je_var 0) (ja_cons (je_lst (ja_cons je_int (ja_cons je_int (ja_cons (je_callB (jc_len) (by rfl) Y.b_len (by decide +kernel) (ja_cons (je_var 2) ja_nil)) (ja_cons (je_op (jo_add) je_int (Cal.je z_L_next (hr.mono (by decide)) (by rfl) (ja_cons (je_var 0) (ja_cons (je_callB (jc_len) (by rfl) Y.b_len (by decide +kernel) (ja_cons (je_var 2) ja_nil)) ja_nil)))) ja_nil))))) ja_nil))))
  (jss_cons (js_set (i := 9) (sc_L_other_edges_right).nd (je_slice (Cal.je z_L_mixed (hr.mono (by decide)) (by rfl) (ja_cons (je_var 0) (ja_cons (je_var 2) ja_nil))) jo_none (jo_some (je_var 8))))
  (jss_cons (js_set (i := 10) (sc_L_other_edges_right).nd (je_lc (own := [("_law_edge", 14)]) rfl (sc_L_other_edges_right).nd (ji_any (je_var 4)) (blkOk_by (N := N_L_other_edges_right) (sc := defScope s_L_other_edges_right) (by decide +kernel)) (fun _ _ _ _ _ => (jg_name (i := 14) (sc_L_other_edges_right).nd)) (fun _ _ _ _ _ => (jts_one (JW.jt (jw_or (jt_cmp (jo_in2 hu) (je_ix (ji_ix2 hv) (je_ix (ji_ix2 hv) (je_var 9) je_int) je_int) (je_var 14)) (jw_or1 (jt_cmp (jo_in2 hu) (je_ix (ji_ix2 hv) (je_ix (ji_ix2 hv) (je_var 9) je_int) je_int) (je_var 14))))))) (fun _ _ _ _ _ => (je_var 14))))
  (jss_cons (js_set (i := 11) (sc_L_other_edges_right).nd (Cal.je z_L_mixed (hr.mono (by decide)) (by rfl) (ja_cons (je_var 0) (ja_cons (je_lc (own := [("_law_edge", 14)]) rfl (sc_L_other_edges_right).nd (ji_any (je_var 4)) (blkOk_by (N := N_L_other_edges_right) (sc := defScope s_L_other_edges_right) (by decide +kernel)) (fun _ _ _ _ _ => (jg_name (i := 14) (sc_L_other_edges_right).nd)) (fun _ _ _ _ _ => (jts_one (jt_cmp (jo_notIn2 hu) (je_var 14) (je_var 10)))) (fun _ _ _ _ _ => (je_var 14))) ja_nil))))
  (jss_cons (js_set (i := 12) (sc_L_other_edges_right).nd (je_slice (Cal.je z_L_one (hr.mono (by decide)) (by rfl) (ja_cons (je_var 0) (ja_cons (je_lst (ja_cons (je_op (jo_add) (je_var 10) (je_var 11)) (ja_cons (je_op (jo_add) (je_var 11) (je_var 10)) ja_nil))) ja_nil))) jo_none (jo_some (je_callB (jc_len) (by rfl) Y.b_len (by decide +kernel) (ja_cons (je_var 9) ja_nil)))))
  (jss_cons (js_set (i := 13) (sc_L_other_edges_right).nd (Kal.je z_Graph___init__ (hr.mono (by decide)) (by rfl) Y.c_Graph (ja_cons (je_var 1) (ja_cons (je_op (jo_add) (je_lc (own := [("_law_edge", 14)]) rfl (sc_L_other_edges_right).nd (ji_any (je_var 2)) (blkOk_by (N := N_L_other_edges_right) (sc := defScope s_L_other_edges_right) (by decide +kernel)) (fun _ _ _ _ _ => (jg_name (i := 14) (sc_L_other_edges_right).nd)) (fun _ _ _ _ _ => (jts_one (jt_cmp (jo_notIn2 hu) (je_var 14) (je_var 9)))) (fun _ _ _ _ _ => (je_var 14))) (je_var 12)) ja_nil))))
  (jss_one (js_if (JW.jt (jw_or (jt_cmp (Eal.eq z_Graph___eq__ (hr.mono (by decide))) (je_var 3) (je_var 13)) (jw_or (jt_cmp (Eal.eq z_Graph___eq__ (hr.mono (by decide))) (je_var 13) (je_var 3)) (jw_or1 (jt_not (JW.jt (jw_and (jt_cmp (Eal.ne z_Graph___eq__ (hr.mono (by decide))) (je_var 3) (je_var 13)) (jw_and1 (jt_cmp (Eal.ne z_Graph___eq__ (hr.mono (by decide))) (je_var 13) (je_var 3)))))))))) (jss_one (js_ret je_bl)) jss_nil)))))))))
  (jss_cons (js_if (JW.jt (jw_or (jt_cmp (jo_eq2 hu) (je_var 4) (je_lst ja_nil)) (jw_or1 (jt_cmp jo_ge (je_callB (jc_len) (by rfl) Y.b_len (by decide +kernel) (ja_cons (je_var 2) ja_nil)) je_int)))) (jss_one (js_ret je_bl)) jss_nil)
  (jss_cons (js_set (i := 7) (sc_L_other_edges_right).nd (Kal.je z_Graph___init__ (hr.mono (by decide)) (by rfl) Y.c_Graph (ja_cons (je_var 1) (ja_cons (je_op (jo_add) (je_var 2) (je_lst (ja_cons (Cal.je z_L_one (hr.mono (by decide)) (by rfl) (ja_cons (je_var 0) (ja_cons (je_var 4) ja_nil))) ja_nil))) ja_nil))))
  (jss_one (js_ret (je_and (je_not (je_or (je_cmp (Eal.eq z_Graph___eq__ (hr.mono (by decide))) (je_var 3) (je_var 7)) (je_one (je_cmp (Eal.eq z_Graph___eq__ (hr.mono (by decide))) (je_var 7) (je_var 3))))) (je_and (je_cmp (Eal.ne z_Graph___eq__ (hr.mono (by decide))) (je_var 3) (je_var 7)) (je_one (je_cmp (Eal.ne z_Graph___eq__ (hr.mono (by decide))) (je_var 7) (je_var 3))))))))))))
abbrev s_L_other_names_right : Stmt := top 24
theorem sc_L_other_names_right : FnScope N_L_other_names_right ["_law_source", "_law_names", "_law_edges", "_law_graph"] (defScope s_L_other_names_right) := ⟨rfl, rfl, rfl, by decide +kernel, rfl, by decide +kernel, by decide +kernel⟩
theorem ok_L_other_names_right {P : Program} {w : World} {K : PySem.W.Frag} {mg : Str → Option Value} {base : Heap} {c : Ad} {f : Addr} {fd : FuncData} (gf : GF K c) (Y : Y K mg c) (z_Graph___eq__ : Eal P w K mg base 1 c.cGraph ["self", "other"] (sp_Graph___eq__ K c)) (z_Graph___init__ : Kal P w K mg base 4 c.cGraph ["self", "vertices", "edges"] (sp_Graph___init__ K c)) (z_L_next : Cal P w K mg base 1 "_law_next" ["_law_source", "_law_many"] (sp_L_next K c))
    (F : Fun K "_law_other_names_right" "_law_other_names_right" s_L_other_names_right f fd) : FnOk P w K mg base (L2.CX P w) (5 + 1) f fd ["_law_source", "_law_names", "_law_edges", "_law_graph"] (LSp ⟨K, w⟩ (sp_L_other_names_right K c)) := by
  refine okJ (t := t_L_other_names_right K c) F sc_L_other_names_right len_L_other_names_right (fun cdv A outer s H E hr => ?_) (pure_L_other_names_right gf)
  have hu := Room.hu hr
  have hv := Room.units hr
  exact (jss_cons (js_set (i := 4) (sc_L_other_names_right).nd (je_ix (ji_ix2 hv) (je_lc (own := [("_law_one_here", 11)]) rfl (sc_L_other_names_right).nd (ji_any (je_lc (own := [("_law_letter", 14)]) rfl (sc_L_other_names_right).nd (ji_any je_str) (blkOk_by (N := N_L_other_names_right) (sc := defScope s_L_other_names_right) (by decide +kernel)) (fun _ _ _ _ _ => (jg_name (i := 14) (sc_L_other_names_right).nd)) (fun _ _ _ _ _ => jts_nil) (fun _ _ _ _ _ => (je_op (jo_add) je_str (je_var 14))))) (blkOk_by (N := N_L_other_names_right) (sc := defScope s_L_other_names_right) (by decide +kernel)) (fun _ _ _ _ _ => (jg_name (i := 11) (sc_L_other_names_right).nd)) (fun _ _ _ _ _ => (jts_one (jt_cmp (jo_notIn2 hu) (je_var 11) (je_var 1)))) (fun _ _ _ _ _ => (je_var 11))) je_int))
  (jss_cons (js_set (i := 5) (sc_L_other_names_right).nd (Cal.je z_L_next (hr.mono (by decide)) (by rfl) (ja_cons (je_var 0) (ja_cons (je_callB (jc_len) (by rfl) Y.b_len (by decide +kernel) (ja_cons (je_var 1) ja_nil)) ja_nil))))
  (jss_cons (js_set (i := 6) (sc_L_other_names_right).nd (je_op (jo_add) (je_op (jo_add) (je_slice (je_var 1) jo_none (jo_some (je_var 5))) (je_lst (ja_cons (je_var 4) ja_nil))) (je_slice (je_var 1) (jo_some (je_op (jo_add) (je_var 5) je_int)) jo_none)))
  (jss_cons (js_set (i := 7) (sc_L_other_names_right).nd (je_dictZ rfl (by rfl) Y.b_dict (by rfl) Y.b_zip (ja_cons (je_var 1) (ja_cons (je_var 6) ja_nil))))
  (jss_cons (js_setLc (i := 8) (own := [("_law_one_here", 11), ("_law_other", 12)]) rfl (sc_L_other_names_right).nd (ji_any (je_var 2)) (blkOk_by (N := N_L_other_names_right) (sc := defScope s_L_other_names_right) (by decide +kernel)) (fun _ _ _ _ _ => (jg_tup rfl (jgs_cons (jg_name (i := 11) (sc_L_other_names_right).nd) (jgs_cons (jg_name (i := 12) (sc_L_other_names_right).nd) jgs_nil)))) (fun _ _ _ _ _ => jts_nil) (fun _ _ _ _ _ => (je_tup (ja_cons (je_ix (ji_ix2 hv) (je_var 7) (je_var 11)) (ja_cons (je_ix (ji_ix2 hv) (je_var 7) (je_var 12)) ja_nil)))) (sw_true rfl rfl rfl (by decide +kernel)))
  (jss_cons (js_set (i := 9) (sc_L_other_names_right).nd (Kal.je z_Graph___init__ (hr.mono (by decide)) (by rfl) Y.c_Graph (ja_cons (je_var 6) (ja_cons (je_lc (own := [("_law_pair", 13)]) rfl (sc_L_other_names_right).nd (ji_any (je_var 8)) (blkOk_by (N := N_L_other_names_right) (sc := defScope s_L_other_names_right) (by decide +kernel)) (fun _ _ _ _ _ => (jg_name (i := 13) (sc_L_other_names_right).nd)) (fun _ _ _ _ _ => jts_nil) (fun _ _ _ _ _ => (je_tup (ja_cons (je_callB (jc_min rfl hv) (by rfl) Y.b_min (by decide +kernel) (ja_cons (je_var 13) ja_nil)) (ja_cons (je_callB (jc_max rfl hv) (by rfl) Y.b_max (by decide +kernel) (ja_cons (je_var 13) ja_nil)) ja_nil))))) ja_nil))))
  (jss_cons (js_if (JW.jt (jw_or (jt_cmp (Eal.eq z_Graph___eq__ (hr.mono (by decide))) (je_var 3) (je_var 9)) (jw_or1 (jt_cmp (Eal.eq z_Graph___eq__ (hr.mono (by decide))) (je_var 9) (je_var 3))))) (jss_one (js_ret je_bl)) jss_nil)
  (jss_cons (js_if (jt_cmp (jo_lt2 hu) (je_callB (jc_len) (by rfl) Y.b_len (by decide +kernel) (ja_cons (je_var 1) ja_nil)) je_int) (jss_one (js_ret je_bl)) jss_nil)
  (jss_cons (js_set (i := 10) (sc_L_other_names_right).nd (Kal.je z_Graph___init__ (hr.mono (by decide)) (by rfl) Y.c_Graph (ja_cons (je_op (jo_add) (je_slice (je_var 1) jo_none (jo_some (je_un ju_neg je_int))) (je_slD (je_var 1) (jo_some (je_un ju_neg je_int)) (jo_some (je_un ju_neg je_int)))) (ja_cons (je_var 2) ja_nil))))
  (jss_one (js_ret (je_and (je_not (je_or (je_cmp (Eal.eq z_Graph___eq__ (hr.mono (by decide))) (je_var 3) (je_var 10)) (je_one (je_cmp (Eal.eq z_Graph___eq__ (hr.mono (by decide))) (je_var 10) (je_var 3))))) (je_one (je_cmp (Eal.ne z_Graph___eq__ (hr.mono (by decide))) (je_var 3) (je_var 10)))))))))))))))
abbrev s_L_alike_right : Stmt := top 25
theorem sc_L_alike_right : FnScope N_L_alike_right ["_law_source", "_law_names", "_law_edges", "_law_graph"] (defScope s_L_alike_right) := ⟨rfl, rfl, rfl, by decide +kernel, rfl, by decide +kernel, by decide +kernel⟩
theorem ok_L_alike_right {P : Program} {w : World} {K : PySem.W.Frag} {mg : Str → Option Value} {base : Heap} {c : Ad} {f : Addr} {fd : FuncData} (gf : GF K c) (Y : Y K mg c) (z_Graph___eq__ : Eal P w K mg base 1 c.cGraph ["self", "other"] (sp_Graph___eq__ K c)) (z_Graph___init__ : Kal P w K mg base 4 c.cGraph ["self", "vertices", "edges"] (sp_Graph___init__ K c)) (z_L_mixed : Cal P w K mg base 2 "_law_mixed" ["_law_source", "_law_some"] (sp_L_mixed K c)) (z_L_other_edges_right : Cal P w K mg base 6 "_law_other_edges_right" ["_law_source", "_law_names", "_law_edges", "_law_graph"] (sp_L_other_edges_right K c)) (z_L_other_names_right : Cal P w K mg base 6 "_law_other_names_right" ["_law_source", "_law_names", "_law_edges", "_law_graph"] (sp_L_other_names_right K c))
    (F : Fun K "_law_alike_right" "_law_alike_right" s_L_alike_right f fd) : FnOk P w K mg base (L2.CX P w) (6 + 1) f fd ["_law_source", "_law_names", "_law_edges", "_law_graph"] (LSp ⟨K, w⟩ (sp_L_alike_right K c)) := by
  refine okJ (t := t_L_alike_right K c) F sc_L_alike_right len_L_alike_right (fun cdv A outer s H E hr => ?_) (pure_L_alike_right gf)
  have hu := Room.hu hr
  have hv := Room.units hr
  exact (jss_cons (js_if (jt_cmp (Eal.ne z_Graph___eq__ (hr.mono (by decide))) (je_var 3) (Kal.je z_Graph___init__ (hr.mono (by decide)) (by rfl) Y.c_Graph (ja_cons (je_callTy (jc_tuple) (by rfl) Y.b_tuple (by decide +kernel) (ja_cons (je_var 1) ja_nil)) (ja_cons (je_callTy (jc_tuple) (by rfl) Y.b_tuple (by decide +kernel) (ja_cons (Cal.je z_L_mixed (hr.mono (by decide)) (by rfl) (ja_cons (je_var 0) (ja_cons (je_var 2) ja_nil))) ja_nil)) ja_nil)))) (jss_one (js_ret je_bl)) jss_nil)
  (jss_cons (js_par (i := 6) (j := 7) rfl (sc_L_alike_right).nd (ja_cons (Kal.je z_Graph___init__ (hr.mono (by decide)) (by rfl) Y.c_Graph (ja_cons (je_slD (je_var 1) jo_none (jo_some (je_un ju_neg je_int))) (ja_cons (je_var 2) ja_nil))) (ja_cons (Kal.je z_Graph___init__ (hr.mono (by decide)) (by rfl) Y.c_Graph (ja_cons (je_var 1) (ja_cons (je_slice (je_var 2) (jo_some je_int) jo_none) ja_nil))) ja_nil)))
  (jss_cons (js_if (JW.jt (jw_or (jt_cmp (jo_ne2 hu) (je_cmp (Eal.eq z_Graph___eq__ (hr.mono (by decide))) (je_var 3) (je_var 6)) (je_cmp (jo_eq2 hu) (je_callB (jc_len) (by rfl) Y.b_len (by decide +kernel) (ja_cons (je_var 1) ja_nil)) je_int)) (jw_or1 (jt_cmp (jo_ne2 hu) (je_cmp (Eal.eq z_Graph___eq__ (hr.mono (by decide))) (je_var 6) (je_var 3)) (je_cmp (jo_eq2 hu) (je_callB (jc_len) (by rfl) Y.b_len (by decide +kernel) (ja_cons (je_var 1) ja_nil)) je_int))))) (jss_one (js_ret je_bl)) jss_nil)
  (jss_cons (js_if (JW.jt (jw_and (jt_cmp (jo_ne2 hu) (je_var 2) (je_lst ja_nil)) (jw_and1 (JW.jt (jw_or (jt_cmp (Eal.eq z_Graph___eq__ (hr.mono (by decide))) (je_var 3) (je_var 7)) (jw_or1 (jt_cmp (Eal.eq z_Graph___eq__ (hr.mono (by decide))) (je_var 7) (je_var 3)))))))) (jss_one (js_ret je_bl)) jss_nil)
  (jss_cons (js_if (JW.jt (jw_and (jt_cmp (jo_ne2 hu) (je_var 2) (je_lst ja_nil)) (jw_and1 (jt_not (JW.jt (jw_and (jt_cmp (Eal.ne z_Graph___eq__ (hr.mono (by decide))) (je_var 3) (je_var 7)) (jw_and1 (jt_cmp (Eal.ne z_Graph___eq__ (hr.mono (by decide))) (je_var 7) (je_var 3))))))))) (jss_one (js_ret je_bl)) jss_nil)
  (jss_cons (js_set (i := 4) (sc_L_alike_right).nd (je_ix (ji_ix2 hv) (je_lc (own := [("_law_one_here", 9)]) rfl (sc_L_alike_right).nd (ji_any (je_lc (own := [("_law_letter", 11)]) rfl (sc_L_alike_right).nd (ji_any je_str) (blkOk_by (N := N_L_alike_right) (sc := defScope s_L_alike_right) (by decide +kernel)) (fun _ _ _ _ _ => (jg_name (i := 11) (sc_L_alike_right).nd)) (fun _ _ _ _ _ => jts_nil) (fun _ _ _ _ _ => (je_op (jo_add) je_str (je_var 11))))) (blkOk_by (N := N_L_alike_right) (sc := defScope s_L_alike_right) (by decide +kernel)) (fun _ _ _ _ _ => (jg_name (i := 9) (sc_L_alike_right).nd)) (fun _ _ _ _ _ => (jts_one (jt_cmp (jo_notIn2 hu) (je_var 9) (je_var 1)))) (fun _ _ _ _ _ => (je_var 9))) je_int))
  (jss_cons (js_if (jt_cmp (jo_lt2 hu) (je_callB (jc_len) (by rfl) Y.b_len (by decide +kernel) (ja_cons (je_var 1) ja_nil)) je_int) (jss_cons (js_set (i := 8) (sc_L_alike_right).nd (Kal.je z_Graph___init__ (hr.mono (by decide)) (by rfl) Y.c_Graph (ja_cons (je_op (jo_add) (je_var 1) (je_lst (ja_cons (je_var 4) ja_nil))) (ja_cons (je_var 2) ja_nil))))
  (jss_cons (js_if (JW.jt (jw_or (jt_cmp (Eal.eq z_Graph___eq__ (hr.mono (by decide))) (je_var 3) (je_var 8)) (jw_or1 (jt_cmp (Eal.eq z_Graph___eq__ (hr.mono (by decide))) (je_var 8) (je_var 3))))) (jss_one (js_ret je_bl)) jss_nil)
  (jss_one (js_if (jt_not (JW.jt (jw_and (jt_cmp (Eal.ne z_Graph___eq__ (hr.mono (by decide))) (je_var 3) (je_var 8)) (jw_and1 (jt_cmp (Eal.ne z_Graph___eq__ (hr.mono (by decide))) (je_var 8) (je_var 3)))))) (jss_one (js_ret je_bl)) jss_nil)))) jss_nil)
  (jss_cons (js_if (jt_not (jt_val (Cal.je z_L_other_edges_right (hr.mono (by decide)) (by rfl) (ja_cons (je_var 0) (ja_cons (je_var 1) (ja_cons (je_var 2) (ja_cons (je_var 3) ja_nil))))))) (jss_one (js_ret je_bl)) jss_nil)
  (jss_cons (js_if (jt_not (jt_val (Cal.je z_L_other_names_right (hr.mono (by decide)) (by rfl) (ja_cons (je_var 0) (ja_cons (je_var 1) (ja_cons (je_var 2) (ja_cons (je_var 3) ja_nil))))))) (jss_one (js_ret je_bl)) jss_nil)
  (jss_cons (js_set (i := 5) (sc_L_alike_right).nd (je_lst (ja_cons je_non (ja_cons je_int (ja_cons je_str (ja_cons (je_callTy (jc_tuple) (by rfl) Y.b_tuple (by decide +kernel) (ja_cons (je_var 1) ja_nil)) (ja_cons (je_tup (ja_cons (je_callTy (jc_tuple) (by rfl) Y.b_tuple (by decide +kernel) (ja_cons (je_var 1) ja_nil)) (ja_cons (je_fld Y.kGraph Y.nGraph_edges (je_var 3)) ja_nil))) (ja_cons (je_lst (ja_cons (je_var 3) ja_nil)) ja_nil))))))))
  (jss_one (js_ret (je_cmp (jo_eq2 hu) (je_lc (own := [("_law_thing", 10)]) rfl (sc_L_alike_right).nd (ji_any (je_var 5)) (blkOk_by (N := N_L_alike_right) (sc := defScope s_L_alike_right) (by decide +kernel)) (fun _ _ _ _ _ => (jg_name (i := 10) (sc_L_alike_right).nd)) (fun _ _ _ _ _ => (jts_one (jt_cmp (Eal.eq z_Graph___eq__ (hr.mono (by decide))) (je_var 3) (je_var 10)))) (fun _ _ _ _ _ => (je_var 10))) (je_lst ja_nil))))))))))))))
abbrev s_L_cell_at : Stmt := top 16
theorem sc_L_cell_at : FnScope N_L_cell_at ["_law_script", "_law_k"] (defScope s_L_cell_at) := ⟨rfl, rfl, rfl, by decide +kernel, rfl, by decide +kernel, by decide +kernel⟩
theorem ok_L_cell_at {P : Program} {w : World} {K : PySem.W.Frag} {mg : Str → Option Value} {base : Heap} {c : Ad} {f : Addr} {fd : FuncData} (gf : GF K c) (Y : Y K mg c) 
    (F : Fun K "_law_cell_at" "_law_cell_at" s_L_cell_at f fd) : FnOk P w K mg base (L2.CX P w) (0 + 1) f fd ["_law_script", "_law_k"] (LSp ⟨K, w⟩ (sp_L_cell_at K c)) := by
  refine okJ (t := t_L_cell_at K c) F sc_L_cell_at len_L_cell_at (fun cdv A outer s H E hr => ?_) (pure_L_cell_at)
  have hu := Room.hu hr
  have hv := Room.units hr
  exact (jss_cons (js_if (jt_cmp (jo_lt2 hu) (je_var 1) (je_callB (jc_len) (by rfl) Y.b_len (by decide +kernel) (ja_cons (je_var 0) ja_nil))) (jss_one (js_ret (je_ix (ji_ix2 hv) (je_var 0) (je_var 1)))) jss_nil)
  (jss_one (js_ret je_int)))
abbrev s_L_words : Stmt := top 21
theorem sc_L_words : FnScope N_L_words ["_law_source", "_law_many"] (defScope s_L_words) := ⟨rfl, rfl, rfl, by decide +kernel, rfl, by decide +kernel, by decide +kernel⟩
theorem ok_L_words {P : Program} {w : World} {K : PySem.W.Frag} {mg : Str → Option Value} {base : Heap} {c : Ad} {f : Addr} {fd : FuncData} (gf : GF K c) (Y : Y K mg c) (z_L_next : Cal P w K mg base 1 "_law_next" ["_law_source", "_law_many"] (sp_L_next K c)) (z_L_one : Cal P w K mg base 2 "_law_one" ["_law_source", "_law_some"] (sp_L_one K c))
    (F : Fun K "_law_words" "_law_words" s_L_words f fd) : FnOk P w K mg base (L2.CX P w) (2 + 1) f fd ["_law_source", "_law_many"] (LSp ⟨K, w⟩ (sp_L_words K c)) := by
  refine okJ (t := t_L_words K c) F sc_L_words len_L_words (fun cdv A outer s H E hr => ?_) (pure_L_words)
  have hu := Room.hu hr
  have hv := Room.units hr
  exact (jss_cons (js_asg (je_tup (ja_cons je_str (ja_cons (je_lst ja_nil) ja_nil))) (jg_tup rfl (jgs_cons (jg_name (i := 3) (sc_L_words).nd) (jgs_cons (jg_name (i := 4) (sc_L_words).nd) jgs_nil))))
  (jss_cons (js_for (passes_of rfl) rfl (ji_range1 (by rfl) Y.b_range (ja_cons (je_var 1) ja_nil)) (jg_name (i := 2) (sc_L_words).nd) (jss_cons (js_set (i := 5) (sc_L_words).nd je_str)
  (jss_cons (js_for (passes_of rfl) rfl (ji_range1 (by rfl) Y.b_range (ja_cons (je_op (jo_add) je_int (Cal.je z_L_next (hr.mono (by decide)) (by rfl) (ja_cons (je_var 0) (ja_cons je_int ja_nil)))) ja_nil)) (jg_name (i := 6) (sc_L_words).nd) (jss_one (js_set (i := 5) (sc_L_words).nd (je_op (jo_add) (je_var 5) (Cal.je z_L_one (hr.mono (by decide)) (by rfl) (ja_cons (je_var 0) (ja_cons (je_var 3) ja_nil)))))))
  (jss_cons (js_if (jt_cmp (jo_in2 hu) (je_var 5) (je_var 4)) (jss_one (js_set (i := 5) (sc_L_words).nd (je_ix (ji_ix2 hv) (je_lc (own := [("_law_one_here", 7)]) rfl (sc_L_words).nd (ji_any (je_lc (own := [("_law_letter", 8)]) rfl (sc_L_words).nd (ji_any (je_var 3)) (blkOk_by (N := N_L_words) (sc := defScope s_L_words) (by decide +kernel)) (fun _ _ _ _ _ => (jg_name (i := 8) (sc_L_words).nd)) (fun _ _ _ _ _ => jts_nil) (fun _ _ _ _ _ => (je_op (jo_add) je_str (je_var 8))))) (blkOk_by (N := N_L_words) (sc := defScope s_L_words) (by decide +kernel)) (fun _ _ _ _ _ => (jg_name (i := 7) (sc_L_words).nd)) (fun _ _ _ _ _ => (jts_one (jt_cmp (jo_notIn2 hu) (je_var 7) (je_var 4)))) (fun _ _ _ _ _ => (je_var 7))) je_int))) jss_nil)
  (jss_one (js_expr (je_ml PySem.F.plainAttrs_list PySem.F.slot_list_append PySem.F.type_list_append jm_append (je_var 4) (ja_cons (je_var 5) ja_nil))))))))
  (jss_one (js_ret (je_var 4)))))
abbrev s_L_drawn : Stmt := top 22
theorem sc_L_drawn : FnScope N_L_drawn ["_law_source"] (defScope s_L_drawn) := ⟨rfl, rfl, rfl, by decide +kernel, rfl, by decide +kernel, by decide +kernel⟩
theorem ok_L_drawn {P : Program} {w : World} {K : PySem.W.Frag} {mg : Str → Option Value} {base : Heap} {c : Ad} {f : Addr} {fd : FuncData} (gf : GF K c) (Y : Y K mg c) (z_L_mixed : Cal P w K mg base 2 "_law_mixed" ["_law_source", "_law_some"] (sp_L_mixed K c)) (z_L_next : Cal P w K mg base 1 "_law_next" ["_law_source", "_law_many"] (sp_L_next K c)) (z_L_one : Cal P w K mg base 2 "_law_one" ["_law_source", "_law_some"] (sp_L_one K c)) (z_L_words : Cal P w K mg base 3 "_law_words" ["_law_source", "_law_many"] (sp_L_words K c))
    (F : Fun K "_law_drawn" "_law_drawn" s_L_drawn f fd) : FnOk P w K mg base (L2.CX P w) (3 + 1) f fd ["_law_source"] (LSp ⟨K, w⟩ (sp_L_drawn K c)) := by
  refine okJ (t := t_L_drawn K c) F sc_L_drawn len_L_drawn (fun cdv A outer s H E hr => ?_) (pure_L_drawn)
  have hu := Room.hu hr
  have hv := Room.units hr
  exact (jss_cons (js_set (i := 1) (sc_L_drawn).nd (Cal.je z_L_words (hr.mono (by decide)) (by rfl) (ja_cons (je_var 0) (ja_cons (je_op (jo_add) je_int (Cal.je z_L_next (hr.mono (by decide)) (by rfl) (ja_cons (je_var 0) (ja_cons je_int ja_nil)))) ja_nil))))
  (jss_cons (js_set (i := 2) (sc_L_drawn).nd (je_lst ja_nil))
  (jss_cons (js_for (passes_of rfl) rfl (ji_any (je_var 1)) (jg_name (i := 3) (sc_L_drawn).nd) (jss_one (js_expr (je_ml PySem.F.plainAttrs_list PySem.F.slot_list_extend PySem.F.type_list_extend jm_extend (je_var 2) (ja_cons (je_lc (own := [("_law_end", 4)]) rfl (sc_L_drawn).nd (ji_any (je_var 1)) (blkOk_by (N := N_L_drawn) (sc := defScope s_L_drawn) (by decide +kernel)) (fun _ _ _ _ _ => (jg_name (i := 4) (sc_L_drawn).nd)) (fun _ _ _ _ _ => (jts_one (jt_cmp (jo_lt2 hu) (je_var 3) (je_var 4)))) (fun _ _ _ _ _ => (je_tup (ja_cons (je_var 3) (ja_cons (je_var 4) ja_nil))))) ja_nil)))))
  (jss_one (js_ret (je_tup (ja_cons (je_var 1) (ja_cons (je_slice (Cal.je z_L_mixed (hr.mono (by decide)) (by rfl) (ja_cons (je_var 0) (ja_cons (je_var 2) ja_nil))) jo_none (jo_some (Cal.je z_L_one (hr.mono (by decide)) (by rfl) (ja_cons (je_var 0) (ja_cons (je_lst (ja_cons je_int (ja_cons (je_callB (jc_len) (by rfl) Y.b_len (by decide +kernel) (ja_cons (je_var 1) ja_nil)) (ja_cons (Cal.je z_L_next (hr.mono (by decide)) (by rfl) (ja_cons (je_var 0) (ja_cons je_int ja_nil))) ja_nil)))) ja_nil))))) ja_nil))))))))
abbrev s_L_source_of : Stmt := top 17
theorem sc_L_source_of : FnScope N_L_source_of ["_law_cell"] (defScope s_L_source_of) := ⟨rfl, rfl, rfl, by decide +kernel, rfl, by decide +kernel, by decide +kernel⟩
theorem ok_L_source_of {P : Program} {w : World} {K : PySem.W.Frag} {mg : Str → Option Value} {base : Heap} {c : Ad} {f : Addr} {fd : FuncData} (gf : GF K c) (Y : Y K mg c) 
    (F : Fun K "_law_source_of" "_law_source_of" s_L_source_of f fd) : FnOk P w K mg base (L2.CX P w) (0 + 1) f fd ["_law_cell"] (LSp ⟨K, w⟩ (sp_L_source_of K c)) := by
  refine okJ (t := t_L_source_of K c) F sc_L_source_of len_L_source_of (fun cdv A outer s H E hr => ?_) (pure_L_source_of)
  have hu := Room.hu hr
  have hv := Room.units hr
  exact (jss_cons (js_set (i := 0) (sc_L_source_of).nd (je_ifExp (jt_cmp jo_ge (je_var 0) je_int) (je_var 0) (je_op (jo_sub) (je_op (jo_sub) je_int (je_op (jo_mul) je_int (je_var 0))) je_int)))
  (jss_one (js_ret (je_lst (ja_cons (je_op (jo_mul) (je_var 0) (je_callTy (jc_int) (by rfl) Y.b_int (by decide +kernel) (ja_cons (je_cmp jo_ge (je_var 0) (je_op (jo_pow) je_int je_int)) ja_nil))) (ja_cons (je_op (jo_mod) (je_callTy (jc_int) (by rfl) Y.b_int (by decide +kernel) (ja_cons (je_var 0) ja_nil)) je_int) (ja_cons je_int ja_nil)))))))
abbrev s_law : Stmt := top 26
theorem sc_law : FnScope N_law ["_law_script"] (defScope s_law) := ⟨rfl, rfl, rfl, by decide +kernel, rfl, by decide +kernel, by decide +kernel⟩
theorem ok_law {P : Program} {w : World} {K : PySem.W.Frag} {mg : Str → Option Value} {base : Heap} {c : Ad} {f : Addr} {fd : FuncData} (gf : GF K c) (Y : Y K mg c) (z_Graph___init__ : Kal P w K mg base 4 c.cGraph ["self", "vertices", "edges"] (sp_Graph___init__ K c)) (z_L_alike_right : Cal P w K mg base 7 "_law_alike_right" ["_law_source", "_law_names", "_law_edges", "_law_graph"] (sp_L_alike_right K c)) (z_L_cell_at : Cal P w K mg base 1 "_law_cell_at" ["_law_script", "_law_k"] (sp_L_cell_at K c)) (z_L_drawn : Cal P w K mg base 4 "_law_drawn" ["_law_source"] (sp_L_drawn K c)) (z_L_one : Cal P w K mg base 2 "_law_one" ["_law_source", "_law_some"] (sp_L_one K c)) (z_L_source_of : Cal P w K mg base 1 "_law_source_of" ["_law_cell"] (sp_L_source_of K c))
    (F : Fun K "law" "law" s_law f fd) : FnOk P w K mg base (L2.CX P w) (7 + 1) f fd ["_law_script"] (LSp ⟨K, w⟩ (spLaw)) := by
  refine okJ (t := t_law K c) F sc_law len_law (fun cdv A outer s H E hr => ?_) (pure_law gf)
  have hu := Room.hu hr
  have hv := Room.units hr
  exact (jss_cons (js_for (passes_of rfl) rfl (ji_any (je_op (jo_add) (je_lst (ja_cons (Cal.je z_L_cell_at (hr.mono (by decide)) (by rfl) (ja_cons (je_var 0) (ja_cons je_int ja_nil))) ja_nil)) (je_slice (je_var 0) (jo_some je_int) (jo_some je_int)))) (jg_name (i := 1) (sc_law).nd) (jss_cons (js_set (i := 2) (sc_law).nd (Cal.je z_L_source_of (hr.mono (by decide)) (by rfl) (ja_cons (je_var 1) ja_nil)))
  (jss_cons (js_asg (Cal.je z_L_drawn (hr.mono (by decide)) (by rfl) (ja_cons (je_var 2) ja_nil)) (jg_tup rfl (jgs_cons (jg_name (i := 7) (sc_law).nd) (jgs_cons (jg_name (i := 8) (sc_law).nd) jgs_nil))))
  (jss_cons (js_set (i := 3) (sc_law).nd (je_lst (ja_cons (je_callTy (jc_list2 rfl) (by rfl) Y.b_list (by decide +kernel) (ja_cons (je_var 7) ja_nil)) (ja_cons (je_callTy (jc_list2 rfl) (by rfl) Y.b_list (by decide +kernel) (ja_cons (je_var 8) ja_nil)) ja_nil))))
  (jss_cons (js_set (i := 4) (sc_law).nd (Kal.je z_Graph___init__ (hr.mono (by decide)) (by rfl) Y.c_Graph (ja_cons (je_ix (ji_ix2 hv) (je_var 3) je_int) (ja_cons (je_ix (ji_ix2 hv) (je_var 3) je_int) ja_nil))))
  (jss_cons (js_if (jt_cmp (jo_ne2 hu) (je_var 3) (je_lst (ja_cons (je_var 7) (ja_cons (je_var 8) ja_nil)))) (jss_one (js_ret je_bl)) jss_nil)
  (jss_cons (js_expr (je_ml0 PySem.F.plainAttrs_list PySem.F.slot_list_reverse PySem.F.type_list_reverse jm_reverse (je_ix (ji_ix2 hv) (je_var 3) je_int)))
  (jss_cons (js_expr (je_ml PySem.F.plainAttrs_list PySem.F.slot_list_append PySem.F.type_list_append jm_append (je_ix (ji_ix2 hv) (je_var 3) je_int) (ja_cons je_str ja_nil)))
  (jss_cons (js_expr (je_ml0 PySem.F.plainAttrs_list PySem.F.slot_list_clear PySem.F.type_list_clear jm_clear (je_ix (ji_ix2 hv) (je_var 3) je_int)))
  (jss_cons (js_if (JW.jt (jw_or (jt_cmp (jo_ne2 hu) (je_fld Y.kGraph Y.nGraph_vertices (je_var 4)) (je_callTy (jc_tuple) (by rfl) Y.b_tuple (by decide +kernel) (ja_cons (je_var 7) ja_nil))) (jw_or1 (jt_cmp (jo_ne2 hu) (je_fld Y.kGraph Y.nGraph_edges (je_var 4)) (je_callTy (jc_tuple) (by rfl) Y.b_tuple (by decide +kernel) (ja_cons (je_callB (jc_sorted hv) (by rfl) Y.b_sorted (by decide +kernel) (ja_cons (je_var 8) ja_nil)) ja_nil)))))) (jss_one (js_ret je_bl)) jss_nil)
  (jss_cons (js_if (jt_not (jt_val (Cal.je z_L_alike_right (hr.mono (by decide)) (by rfl) (ja_cons (je_var 2) (ja_cons (je_var 7) (ja_cons (je_var 8) (ja_cons (je_var 4) ja_nil))))))) (jss_one (js_ret je_bl)) jss_nil)
  (jss_cons (js_set (i := 5) (sc_law).nd (Cal.je z_L_one (hr.mono (by decide)) (by rfl) (ja_cons (je_var 2) (ja_cons je_str ja_nil))))
  (jss_cons (js_set (i := 6) (sc_law).nd (je_callTy (jc_list2 rfl) (by rfl) Y.b_list (by decide +kernel) (ja_cons je_str ja_nil)))
  (jss_one (js_if (jt_cmp (jo_ne2 hu) (je_lc (own := [("_law_one_here", 9)]) rfl (sc_law).nd (ji_any (je_var 6)) (blkOk_by (N := N_law) (sc := defScope s_law) (by decide +kernel)) (fun _ _ _ _ _ => (jg_name (i := 9) (sc_law).nd)) (fun _ _ _ _ _ => (jts_one (jt_cmp (jo_ne2 hu) (je_fld Y.kGraph Y.nGraph_vertices (Kal.je z_Graph___init__ (hr.mono (by decide)) (by rfl) Y.c_Graph (ja_cons (je_lst (ja_cons (je_var 9) (ja_cons (je_op (jo_add) je_str (je_var 5)) ja_nil))) (ja_cons (je_lst ja_nil) ja_nil)))) (je_tup (ja_cons (je_var 9) (ja_cons (je_op (jo_add) je_str (je_var 5)) ja_nil)))))) (fun _ _ _ _ _ => (je_var 9))) (je_lst ja_nil)) (jss_one (js_ret je_bl)) jss_nil)))))))))))))))
  (jss_one (js_ret je_bl)))
set_option maxHeartbeats 0 in
theorem all_mk {l : PySem.W.OpenLaw} {w : World} {K : PySem.W.Frag} {h : Heap} {mg : Str → Option Value} {fa : Addr} (X : K.In h) (G : h.Ns mainGlobals mg) (hfa : mg "law" = some (.ref fa))
    {xGraph : Addr} {f1 : Addr} {od1 an1 : Option Addr} {sl1 : Array (Option Value)} {oc1 kV1 dc1 pm1 cd1 ct1 : Value} {f2 : Addr} {od2 an2 : Option Addr} {sl2 : Array (Option Value)} {oc2 kV2 dc2 pm2 cd2 ct2 : Value} {f3 : Addr} {od3 an3 : Option Addr} {sl3 : Array (Option Value)} {oc3 kV3 dc3 pm3 cd3 ct3 : Value} {f4 : Addr} {od4 an4 : Option Addr} {sl4 : Array (Option Value)} {oc4 kV4 dc4 pm4 cd4 ct4 : Value} {f5 : Addr} {od5 an5 : Option Addr} {sl5 : Array (Option Value)} {oc5 kV5 dc5 pm5 cd5 ct5 : Value} {f6 : Addr} {od6 an6 : Option Addr} {sl6 : Array (Option Value)} {oc6 kV6 dc6 pm6 cd6 ct6 : Value} {f7 : Addr} {od7 an7 : Option Addr} {sl7 : Array (Option Value)} {oc7 kV7 dc7 pm7 cd7 ct7 : Value} {f8 : Addr} {od8 an8 : Option Addr} {sl8 : Array (Option Value)} {oc8 kV8 dc8 pm8 cd8 ct8 : Value} {f9 : Addr} {od9 an9 : Option Addr} {sl9 : Array (Option Value)} {oc9 kV9 dc9 pm9 cd9 ct9 : Value} {f10 : Addr} {od10 an10 : Option Addr} {sl10 : Array (Option Value)} {oc10 kV10 dc10 pm10 cd10 ct10 : Value} {f11 : Addr} {od11 an11 : Option Addr} {sl11 : Array (Option Value)} {oc11 kV11 dc11 pm11 cd11 ct11 : Value} {f12 : Addr} {od12 an12 : Option Addr} {sl12 : Array (Option Value)} {oc12 kV12 dc12 pm12 cd12 ct12 : Value} {f13 : Addr} {od13 an13 : Option Addr} {sl13 : Array (Option Value)} {oc13 kV13 dc13 pm13 cd13 ct13 : Value} {f14 : Addr} {od14 an14 : Option Addr} {sl14 : Array (Option Value)} {oc14 kV14 dc14 pm14 cd14 ct14 : Value} {f15 : Addr} {od15 an15 : Option Addr} {sl15 : Array (Option Value)} {oc15 kV15 dc15 pm15 cd15 ct15 : Value} {f16 : Addr} {od16 an16 : Option Addr} {sl16 : Array (Option Value)} {oc16 kV16 dc16 pm16 cd16 ct16 : Value} {f17 : Addr} {od17 an17 : Option Addr} {sl17 : Array (Option Value)} {oc17 kV17 dc17 pm17 cd17 ct17 : Value} {f18 : Addr} {od18 an18 : Option Addr} {sl18 : Array (Option Value)} {oc18 kV18 dc18 pm18 cd18 ct18 : Value} {tg_LETTERS : Tok} {tg_MAX_EDGES : Tok} {tg_MAX_LENGTH : Tok} {tg_MAX_VERTICES : Tok}
    (aCGraph : PySem.W.nsIn K mainGlobals "Graph" = some (some (.ref xGraph)))
    (a1 : PySem.W.nsIn K mainGlobals "is_row" = some (some (.ref f1)))
    (l1 : K.lookup f1 = some ⟨oc1, od1, .func (PySem.W.fnOf "is_row" "is_row" (defArgs s_is_row) (defBody s_is_row) (defScope s_is_row) .none kV1 dc1 pm1 an1 cd1 ct1), sl1⟩)
    (c1 : PySem.W.codeIn K cd1 "is_row" = true)
    (k1 : PySem.W.keepIn K (.ref f1) = true)
    (a2 : PySem.W.nsIn K mainGlobals "is_name" = some (some (.ref f2)))
    (l2 : K.lookup f2 = some ⟨oc2, od2, .func (PySem.W.fnOf "is_name" "is_name" (defArgs s_is_name) (defBody s_is_name) (defScope s_is_name) .none kV2 dc2 pm2 an2 cd2 ct2), sl2⟩)
    (c2 : PySem.W.codeIn K cd2 "is_name" = true)
    (k2 : PySem.W.keepIn K (.ref f2) = true)
    (a3 : PySem.W.nsIn K mainGlobals "joins" = some (some (.ref f3)))
    (l3 : K.lookup f3 = some ⟨oc3, od3, .func (PySem.W.fnOf "joins" "joins" (defArgs s_joins) (defBody s_joins) (defScope s_joins) .none kV3 dc3 pm3 an3 cd3 ct3), sl3⟩)
    (c3 : PySem.W.codeIn K cd3 "joins" = true)
    (k3 : PySem.W.keepIn K (.ref f3) = true)
    (a4 : PySem.W.nsIn K mainGlobals "are_edges" = some (some (.ref f4)))
    (l4 : K.lookup f4 = some ⟨oc4, od4, .func (PySem.W.fnOf "are_edges" "are_edges" (defArgs s_are_edges) (defBody s_are_edges) (defScope s_are_edges) .none kV4 dc4 pm4 an4 cd4 ct4), sl4⟩)
    (c4 : PySem.W.codeIn K cd4 "are_edges" = true)
    (k4 : PySem.W.keepIn K (.ref f4) = true)
    (a5 : PySem.W.nsIn K mainGlobals "are_vertices" = some (some (.ref f5)))
    (l5 : K.lookup f5 = some ⟨oc5, od5, .func (PySem.W.fnOf "are_vertices" "are_vertices" (defArgs s_are_vertices) (defBody s_are_vertices) (defScope s_are_vertices) .none kV5 dc5 pm5 an5 cd5 ct5), sl5⟩)
    (c5 : PySem.W.codeIn K cd5 "are_vertices" = true)
    (k5 : PySem.W.keepIn K (.ref f5) = true)
    (a6 : PySem.W.findIn K (.ref xGraph) "__init__" = some (some (.ref f6)))
    (i6 : PySem.W.isFn K (.ref f6) = true)
    (l6 : K.lookup f6 = some ⟨oc6, od6, .func (PySem.W.fnOf "__init__" "Graph.__init__" (defArgs s_Graph___init__) (defBody s_Graph___init__) (defScope s_Graph___init__) .none kV6 dc6 pm6 an6 cd6 ct6), sl6⟩)
    (c6 : PySem.W.codeIn K cd6 "Graph.__init__" = true)
    (k6 : PySem.W.keepIn K (.ref f6) = true)
    (a7 : PySem.W.findIn K (.ref xGraph) "__eq__" = some (some (.ref f7)))
    (i7 : PySem.W.isFn K (.ref f7) = true)
    (l7 : K.lookup f7 = some ⟨oc7, od7, .func (PySem.W.fnOf "__eq__" "Graph.__eq__" (defArgs s_Graph___eq__) (defBody s_Graph___eq__) (defScope s_Graph___eq__) .none kV7 dc7 pm7 an7 cd7 ct7), sl7⟩)
    (c7 : PySem.W.codeIn K cd7 "Graph.__eq__" = true)
    (k7 : PySem.W.keepIn K (.ref f7) = true)
    (a8 : PySem.W.nsIn K mainGlobals "_law_next" = some (some (.ref f8)))
    (l8 : K.lookup f8 = some ⟨oc8, od8, .func (PySem.W.fnOf "_law_next" "_law_next" (defArgs s_L_next) (defBody s_L_next) (defScope s_L_next) .none kV8 dc8 pm8 an8 cd8 ct8), sl8⟩)
    (c8 : PySem.W.codeIn K cd8 "_law_next" = true)
    (k8 : PySem.W.keepIn K (.ref f8) = true)
    (a9 : PySem.W.nsIn K mainGlobals "_law_mixed" = some (some (.ref f9)))
    (l9 : K.lookup f9 = some ⟨oc9, od9, .func (PySem.W.fnOf "_law_mixed" "_law_mixed" (defArgs s_L_mixed) (defBody s_L_mixed) (defScope s_L_mixed) .none kV9 dc9 pm9 an9 cd9 ct9), sl9⟩)
    (c9 : PySem.W.codeIn K cd9 "_law_mixed" = true)
    (k9 : PySem.W.keepIn K (.ref f9) = true)
    (a10 : PySem.W.nsIn K mainGlobals "_law_one" = some (some (.ref f10)))
    (l10 : K.lookup f10 = some ⟨oc10, od10, .func (PySem.W.fnOf "_law_one" "_law_one" (defArgs s_L_one) (defBody s_L_one) (defScope s_L_one) .none kV10 dc10 pm10 an10 cd10 ct10), sl10⟩)
    (c10 : PySem.W.codeIn K cd10 "_law_one" = true)
    (k10 : PySem.W.keepIn K (.ref f10) = true)
    (a11 : PySem.W.nsIn K mainGlobals "_law_other_edges_right" = some (some (.ref f11)))
    (l11 : K.lookup f11 = some ⟨oc11, od11, .func (PySem.W.fnOf "_law_other_edges_right" "_law_other_edges_right" (defArgs s_L_other_edges_right) (defBody s_L_other_edges_right) (defScope s_L_other_edges_right) .none kV11 dc11 pm11 an11 cd11 ct11), sl11⟩)
    (c11 : PySem.W.codeIn K cd11 "_law_other_edges_right" = true)
    (k11 : PySem.W.keepIn K (.ref f11) = true)
    (a12 : PySem.W.nsIn K mainGlobals "_law_other_names_right" = some (some (.ref f12)))
    (l12 : K.lookup f12 = some ⟨oc12, od12, .func (PySem.W.fnOf "_law_other_names_right" "_law_other_names_right" (defArgs s_L_other_names_right) (defBody s_L_other_names_right) (defScope s_L_other_names_right) .none kV12 dc12 pm12 an12 cd12 ct12), sl12⟩)
    (c12 : PySem.W.codeIn K cd12 "_law_other_names_right" = true)
    (k12 : PySem.W.keepIn K (.ref f12) = true)
    (a13 : PySem.W.nsIn K mainGlobals "_law_alike_right" = some (some (.ref f13)))
    (l13 : K.lookup f13 = some ⟨oc13, od13, .func (PySem.W.fnOf "_law_alike_right" "_law_alike_right" (defArgs s_L_alike_right) (defBody s_L_alike_right) (defScope s_L_alike_right) .none kV13 dc13 pm13 an13 cd13 ct13), sl13⟩)
    (c13 : PySem.W.codeIn K cd13 "_law_alike_right" = true)
    (k13 : PySem.W.keepIn K (.ref f13) = true)
    (a14 : PySem.W.nsIn K mainGlobals "_law_cell_at" = some (some (.ref f14)))
    (l14 : K.lookup f14 = some ⟨oc14, od14, .func (PySem.W.fnOf "_law_cell_at" "_law_cell_at" (defArgs s_L_cell_at) (defBody s_L_cell_at) (defScope s_L_cell_at) .none kV14 dc14 pm14 an14 cd14 ct14), sl14⟩)
    (c14 : PySem.W.codeIn K cd14 "_law_cell_at" = true)
    (k14 : PySem.W.keepIn K (.ref f14) = true)
    (a15 : PySem.W.nsIn K mainGlobals "_law_words" = some (some (.ref f15)))
    (l15 : K.lookup f15 = some ⟨oc15, od15, .func (PySem.W.fnOf "_law_words" "_law_words" (defArgs s_L_words) (defBody s_L_words) (defScope s_L_words) .none kV15 dc15 pm15 an15 cd15 ct15), sl15⟩)
    (c15 : PySem.W.codeIn K cd15 "_law_words" = true)
    (k15 : PySem.W.keepIn K (.ref f15) = true)
    (a16 : PySem.W.nsIn K mainGlobals "_law_drawn" = some (some (.ref f16)))
    (l16 : K.lookup f16 = some ⟨oc16, od16, .func (PySem.W.fnOf "_law_drawn" "_law_drawn" (defArgs s_L_drawn) (defBody s_L_drawn) (defScope s_L_drawn) .none kV16 dc16 pm16 an16 cd16 ct16), sl16⟩)
    (c16 : PySem.W.codeIn K cd16 "_law_drawn" = true)
    (k16 : PySem.W.keepIn K (.ref f16) = true)
    (a17 : PySem.W.nsIn K mainGlobals "_law_source_of" = some (some (.ref f17)))
    (l17 : K.lookup f17 = some ⟨oc17, od17, .func (PySem.W.fnOf "_law_source_of" "_law_source_of" (defArgs s_L_source_of) (defBody s_L_source_of) (defScope s_L_source_of) .none kV17 dc17 pm17 an17 cd17 ct17), sl17⟩)
    (c17 : PySem.W.codeIn K cd17 "_law_source_of" = true)
    (k17 : PySem.W.keepIn K (.ref f17) = true)
    (a18 : PySem.W.nsIn K mainGlobals "law" = some (some (.ref f18)))
    (l18 : K.lookup f18 = some ⟨oc18, od18, .func (PySem.W.fnOf "law" "law" (defArgs s_law) (defBody s_law) (defScope s_law) .none kV18 dc18 pm18 an18 cd18 ct18), sl18⟩)
    (c18 : PySem.W.codeIn K cd18 "law" = true)
    (k18 : PySem.W.keepIn K (.ref f18) = true)
    (mkGraph : PySem.W.makesIn K xGraph = true)
    (kcGraph : PySem.W.keepIn K (.ref xGraph) = true)
    (neGraph : PySem.W.findIn K (.ref xGraph) "__ne__" = some (some (.builtin "object.__ne__")))
    (obGraph : PySem.W.mroIn K xGraph (.type "object") = some true)
    (yb_all : PySem.W.nsIn K mainGlobals "all" = some none)
    (yb_dict : PySem.W.nsIn K mainGlobals "dict" = some none)
    (yb_int : PySem.W.nsIn K mainGlobals "int" = some none)
    (yb_isinstance : PySem.W.nsIn K mainGlobals "isinstance" = some none)
    (yb_len : PySem.W.nsIn K mainGlobals "len" = some none)
    (yb_list : PySem.W.nsIn K mainGlobals "list" = some none)
    (yb_max : PySem.W.nsIn K mainGlobals "max" = some none)
    (yb_min : PySem.W.nsIn K mainGlobals "min" = some none)
    (yb_range : PySem.W.nsIn K mainGlobals "range" = some none)
    (yb_set : PySem.W.nsIn K mainGlobals "set" = some none)
    (yb_sorted : PySem.W.nsIn K mainGlobals "sorted" = some none)
    (yb_str : PySem.W.nsIn K mainGlobals "str" = some none)
    (yb_tuple : PySem.W.nsIn K mainGlobals "tuple" = some none)
    (yb_zip : PySem.W.nsIn K mainGlobals "zip" = some none)
    (yg_LETTERS : PySem.W.nsIn K mainGlobals "LETTERS" = some (some (.str "abcdefghijklmnopqrstuvwxyz" tg_LETTERS)))
    (yg_MAX_EDGES : PySem.W.nsIn K mainGlobals "MAX_EDGES" = some (some (.int 15 tg_MAX_EDGES)))
    (yg_MAX_LENGTH : PySem.W.nsIn K mainGlobals "MAX_LENGTH" = some (some (.int 8 tg_MAX_LENGTH)))
    (yg_MAX_VERTICES : PySem.W.nsIn K mainGlobals "MAX_VERTICES" = some (some (.int 10 tg_MAX_VERTICES)))
    (pgGraph : PySem.W.plainGet K xGraph Str.empty = true)
    (hdGraph : PySem.W.hasDictIn K xGraph = true)
    (poGraph : PySem.W.plainOver K xGraph = true)
    (saGraph : PySem.W.findIn K (.ref xGraph) "__setattr__" = some (some (.builtin "object.__setattr__")))
    (ynGraph_edges : PySem.W.findIn K (.ref xGraph) "edges" = some none)
    (ynGraph_vertices : PySem.W.findIn K (.ref xGraph) "vertices" = some none)
    (gha : PySem.W.findIn K (.ref xGraph) "__class__" = some (some (.builtin "object.__class__")))
    (ghn : PySem.W.specialIn K (.builtin "object.__class__") "__get__" = some (some (.builtin "getset_descriptor.__get__")))
    (ghtk : PySem.W.takesIn K (.builtin "object.__class__") = some true)
    (ghm : PySem.W.mroIn K xGraph (.type "object") = some true)
    (gcl : PySem.W.isClsIn K xGraph = true)
    (gty : PySem.W.typeIn K (.ref xGraph) = some (.type "type"))
    (gsubNoneType : PySem.W.subIn K (.type "NoneType") (.ref xGraph) = some false)
    (gsubbool : PySem.W.subIn K (.type "bool") (.ref xGraph) = some false)
    (gsubint : PySem.W.subIn K (.type "int") (.ref xGraph) = some false)
    (gsubstr : PySem.W.subIn K (.type "str") (.ref xGraph) = some false)
    (gsubtuple : PySem.W.subIn K (.type "tuple") (.ref xGraph) = some false)
    (gsublist : PySem.W.subIn K (.type "list") (.ref xGraph) = some false)
    : ∃ fd : FuncData, (∀ (s : Shared) (v : Value), BindsTo s fd ⟨[v], []⟩ [("_law_script", v)]) ∧ ∀ base : Heap, K.In base → base.Ns mainGlobals mg → FnOk l.prog w K mg base (L2.CX l.prog w) 8 fa fd ["_law_script"] (LSp ⟨K, w⟩ spLaw) := by
  have e := hfa.symm.trans (PySem.W.mg_of X G a18)
  cases e
  have y : Y K mg ({ cGraph := xGraph } : Ad) := ⟨PySem.W.mg_none_of X G yb_all, PySem.W.mg_none_of X G yb_dict, PySem.W.mg_none_of X G yb_int, PySem.W.mg_none_of X G yb_isinstance, PySem.W.mg_none_of X G yb_len, PySem.W.mg_none_of X G yb_list, PySem.W.mg_none_of X G yb_max, PySem.W.mg_none_of X G yb_min, PySem.W.mg_none_of X G yb_range, PySem.W.mg_none_of X G yb_set, PySem.W.mg_none_of X G yb_sorted, PySem.W.mg_none_of X G yb_str, PySem.W.mg_none_of X G yb_tuple, PySem.W.mg_none_of X G yb_zip, PySem.W.mg_of X G aCGraph, ⟨_, PySem.W.mg_of X G yg_LETTERS⟩, ⟨_, PySem.W.mg_of X G yg_MAX_EDGES⟩, ⟨_, PySem.W.mg_of X G yg_MAX_LENGTH⟩, ⟨_, PySem.W.mg_of X G yg_MAX_VERTICES⟩, ⟨pgGraph, hdGraph, poGraph, saGraph⟩, ynGraph_edges, ynGraph_vertices⟩
  have gf : GF K ({ cGraph := xGraph } : Ad) := ⟨⟨pgGraph, hdGraph, poGraph, saGraph⟩, gha, ghn, ghtk, ghm, fun n hn => kit_no gcl gty (six (P := fun n => PySem.W.subIn K (.type n) (.ref xGraph) = some false) hn gsubNoneType gsubbool gsubint gsubstr gsubtuple gsublist), fun n hn => six (P := fun n => PySem.W.subIn K (.type n) (.ref xGraph) = some false) hn gsubNoneType gsubbool gsubint gsubstr gsubtuple gsublist⟩
  refine ⟨PySem.W.fnOf "law" "law" (defArgs s_law) (defBody s_law) (defScope s_law) .none kV18 dc18 pm18 an18 cd18 ct18, fun s v => .of_eq rfl, fun base _ _ => ?_⟩
  have F1 := fun_mk (st := s_is_row) l1 c1 k1
  have b1 := F1.binds (ps := ["value"]) fun _ _ _ _ _ _ us hl => match us, hl with | [_], _ => rfl
  have z_is_row : Cal l.prog w K mg base 1 "is_row" ["value"] (sp_is_row K ({ cGraph := xGraph } : Ad)) := ⟨⟨_, _, ok_is_row (P := l.prog) (w := w) (base := base) gf y  F1, PySem.W.mg_of X G a1, k1, b1⟩, mono_is_row⟩
  have F2 := fun_mk (st := s_is_name) l2 c2 k2
  have b2 := F2.binds (ps := ["value"]) fun _ _ _ _ _ _ us hl => match us, hl with | [_], _ => rfl
  have z_is_name : Cal l.prog w K mg base 1 "is_name" ["value"] (sp_is_name K ({ cGraph := xGraph } : Ad)) := ⟨⟨_, _, ok_is_name (P := l.prog) (w := w) (base := base) gf y  F2, PySem.W.mg_of X G a2, k2, b2⟩, mono_is_name⟩
  have F3 := fun_mk (st := s_joins) l3 c3 k3
  have b3 := F3.binds (ps := ["vertices", "value"]) fun _ _ _ _ _ _ us hl => match us, hl with | [_, _], _ => rfl
  have z_joins : Cal l.prog w K mg base 2 "joins" ["vertices", "value"] (sp_joins K ({ cGraph := xGraph } : Ad)) := ⟨⟨_, _, ok_joins (P := l.prog) (w := w) (base := base) gf y z_is_name F3, PySem.W.mg_of X G a3, k3, b3⟩, mono_joins⟩
  have F4 := fun_mk (st := s_are_edges) l4 c4 k4
  have b4 := F4.binds (ps := ["vertices", "value"]) fun _ _ _ _ _ _ us hl => match us, hl with | [_, _], _ => rfl
  have z_are_edges : Cal l.prog w K mg base 3 "are_edges" ["vertices", "value"] (sp_are_edges K ({ cGraph := xGraph } : Ad)) := ⟨⟨_, _, ok_are_edges (P := l.prog) (w := w) (base := base) gf y z_is_row z_joins F4, PySem.W.mg_of X G a4, k4, b4⟩, mono_are_edges⟩
  have F5 := fun_mk (st := s_are_vertices) l5 c5 k5
  have b5 := F5.binds (ps := ["value"]) fun _ _ _ _ _ _ us hl => match us, hl with | [_], _ => rfl
  have z_are_vertices : Cal l.prog w K mg base 2 "are_vertices" ["value"] (sp_are_vertices K ({ cGraph := xGraph } : Ad)) := ⟨⟨_, _, ok_are_vertices (P := l.prog) (w := w) (base := base) gf y z_is_name z_is_row F5, PySem.W.mg_of X G a5, k5, b5⟩, mono_are_vertices⟩
  have F6 := fun_mk (st := s_Graph___init__) l6 c6 k6
  have b6 := F6.binds (ps := ["self", "vertices", "edges"]) fun _ _ _ _ _ _ us hl => match us, hl with | [_, _, _], _ => rfl
  have z_Graph___init__ : Kal l.prog w K mg base 4 xGraph ["self", "vertices", "edges"] (sp_Graph___init__ K ({ cGraph := xGraph } : Ad)) := ⟨⟨_, _, ok_Graph___init__ (P := l.prog) (w := w) (base := base) gf y z_are_edges z_are_vertices F6, ⟨mkGraph, a6, i6, kcGraph⟩, b6⟩, mono_Graph___init__⟩
  have F7 := fun_mk (st := s_Graph___eq__) l7 c7 k7
  have b7 := F7.binds (ps := ["self", "other"]) fun _ _ _ _ _ _ us hl => match us, hl with | [_, _], _ => rfl
  have z_Graph___eq__ : Eal l.prog w K mg base 1 xGraph ["self", "other"] (sp_Graph___eq__ K ({ cGraph := xGraph } : Ad)) := ⟨⟨_, _, ok_Graph___eq__ (P := l.prog) (w := w) (base := base) gf y  F7, ⟨a7, i7, neGraph, obGraph⟩, b7⟩, mono_Graph___eq__⟩
  have F8 := fun_mk (st := s_L_next) l8 c8 k8
  have b8 := F8.binds (ps := ["_law_source", "_law_many"]) fun _ _ _ _ _ _ us hl => match us, hl with | [_, _], _ => rfl
  have z_L_next : Cal l.prog w K mg base 1 "_law_next" ["_law_source", "_law_many"] (sp_L_next K ({ cGraph := xGraph } : Ad)) := ⟨⟨_, _, ok_L_next (P := l.prog) (w := w) (base := base) gf y  F8, PySem.W.mg_of X G a8, k8, b8⟩, mono_L_next⟩
  have F9 := fun_mk (st := s_L_mixed) l9 c9 k9
  have b9 := F9.binds (ps := ["_law_source", "_law_some"]) fun _ _ _ _ _ _ us hl => match us, hl with | [_, _], _ => rfl
  have z_L_mixed : Cal l.prog w K mg base 2 "_law_mixed" ["_law_source", "_law_some"] (sp_L_mixed K ({ cGraph := xGraph } : Ad)) := ⟨⟨_, _, ok_L_mixed (P := l.prog) (w := w) (base := base) gf y z_L_next F9, PySem.W.mg_of X G a9, k9, b9⟩, mono_L_mixed⟩
  have F10 := fun_mk (st := s_L_one) l10 c10 k10
  have b10 := F10.binds (ps := ["_law_source", "_law_some"]) fun _ _ _ _ _ _ us hl => match us, hl with | [_, _], _ => rfl
  have z_L_one : Cal l.prog w K mg base 2 "_law_one" ["_law_source", "_law_some"] (sp_L_one K ({ cGraph := xGraph } : Ad)) := ⟨⟨_, _, ok_L_one (P := l.prog) (w := w) (base := base) gf y z_L_next F10, PySem.W.mg_of X G a10, k10, b10⟩, mono_L_one⟩
  have F11 := fun_mk (st := s_L_other_edges_right) l11 c11 k11
  have b11 := F11.binds (ps := ["_law_source", "_law_names", "_law_edges", "_law_graph"]) fun _ _ _ _ _ _ us hl => match us, hl with | [_, _, _, _], _ => rfl
  have z_L_other_edges_right : Cal l.prog w K mg base 6 "_law_other_edges_right" ["_law_source", "_law_names", "_law_edges", "_law_graph"] (sp_L_other_edges_right K ({ cGraph := xGraph } : Ad)) := ⟨⟨_, _, ok_L_other_edges_right (P := l.prog) (w := w) (base := base) gf y z_Graph___eq__ z_Graph___init__ z_L_mixed z_L_next z_L_one F11, PySem.W.mg_of X G a11, k11, b11⟩, mono_L_other_edges_right⟩
  have F12 := fun_mk (st := s_L_other_names_right) l12 c12 k12
  have b12 := F12.binds (ps := ["_law_source", "_law_names", "_law_edges", "_law_graph"]) fun _ _ _ _ _ _ us hl => match us, hl with | [_, _, _, _], _ => rfl
  have z_L_other_names_right : Cal l.prog w K mg base 6 "_law_other_names_right" ["_law_source", "_law_names", "_law_edges", "_law_graph"] (sp_L_other_names_right K ({ cGraph := xGraph } : Ad)) := ⟨⟨_, _, ok_L_other_names_right (P := l.prog) (w := w) (base := base) gf y z_Graph___eq__ z_Graph___init__ z_L_next F12, PySem.W.mg_of X G a12, k12, b12⟩, mono_L_other_names_right⟩
  have F13 := fun_mk (st := s_L_alike_right) l13 c13 k13
  have b13 := F13.binds (ps := ["_law_source", "_law_names", "_law_edges", "_law_graph"]) fun _ _ _ _ _ _ us hl => match us, hl with | [_, _, _, _], _ => rfl
  have z_L_alike_right : Cal l.prog w K mg base 7 "_law_alike_right" ["_law_source", "_law_names", "_law_edges", "_law_graph"] (sp_L_alike_right K ({ cGraph := xGraph } : Ad)) := ⟨⟨_, _, ok_L_alike_right (P := l.prog) (w := w) (base := base) gf y z_Graph___eq__ z_Graph___init__ z_L_mixed z_L_other_edges_right z_L_other_names_right F13, PySem.W.mg_of X G a13, k13, b13⟩, mono_L_alike_right⟩
  have F14 := fun_mk (st := s_L_cell_at) l14 c14 k14
  have b14 := F14.binds (ps := ["_law_script", "_law_k"]) fun _ _ _ _ _ _ us hl => match us, hl with | [_, _], _ => rfl
  have z_L_cell_at : Cal l.prog w K mg base 1 "_law_cell_at" ["_law_script", "_law_k"] (sp_L_cell_at K ({ cGraph := xGraph } : Ad)) := ⟨⟨_, _, ok_L_cell_at (P := l.prog) (w := w) (base := base) gf y  F14, PySem.W.mg_of X G a14, k14, b14⟩, mono_L_cell_at⟩
  have F15 := fun_mk (st := s_L_words) l15 c15 k15
  have b15 := F15.binds (ps := ["_law_source", "_law_many"]) fun _ _ _ _ _ _ us hl => match us, hl with | [_, _], _ => rfl
  have z_L_words : Cal l.prog w K mg base 3 "_law_words" ["_law_source", "_law_many"] (sp_L_words K ({ cGraph := xGraph } : Ad)) := ⟨⟨_, _, ok_L_words (P := l.prog) (w := w) (base := base) gf y z_L_next z_L_one F15, PySem.W.mg_of X G a15, k15, b15⟩, mono_L_words⟩
  have F16 := fun_mk (st := s_L_drawn) l16 c16 k16
  have b16 := F16.binds (ps := ["_law_source"]) fun _ _ _ _ _ _ us hl => match us, hl with | [_], _ => rfl
  have z_L_drawn : Cal l.prog w K mg base 4 "_law_drawn" ["_law_source"] (sp_L_drawn K ({ cGraph := xGraph } : Ad)) := ⟨⟨_, _, ok_L_drawn (P := l.prog) (w := w) (base := base) gf y z_L_mixed z_L_next z_L_one z_L_words F16, PySem.W.mg_of X G a16, k16, b16⟩, mono_L_drawn⟩
  have F17 := fun_mk (st := s_L_source_of) l17 c17 k17
  have b17 := F17.binds (ps := ["_law_cell"]) fun _ _ _ _ _ _ us hl => match us, hl with | [_], _ => rfl
  have z_L_source_of : Cal l.prog w K mg base 1 "_law_source_of" ["_law_cell"] (sp_L_source_of K ({ cGraph := xGraph } : Ad)) := ⟨⟨_, _, ok_L_source_of (P := l.prog) (w := w) (base := base) gf y  F17, PySem.W.mg_of X G a17, k17, b17⟩, mono_L_source_of⟩
  have F18 := fun_mk (st := s_law) l18 c18 k18
  exact ok_law (P := l.prog) (w := w) (base := base) gf y z_Graph___init__ z_L_alike_right z_L_cell_at z_L_drawn z_L_one z_L_source_of F18
end M
open PySem PySem.W PyProof.Rows in
set_option maxRecDepth 100000 in
set_option maxHeartbeats 0 in
theorem PySem.Challenge.cw_linkparity_k01_graphs_constructed_holds : PySem.Challenge.rw_linkparity_k01_graphs_constructed.Holds := by
  w_on; o_law; k_head; (case hw => w_witness2)
  k_fill
  refine J.walkJ (l := PySem.Challenge.rw_linkparity_k01_graphs_constructed) (k := 8) (x := "_law_script") rfl rfl ⟨rfl, by decide, by decide⟩ (fun w h Y => PySem.W.kIn_of Y) ?F
  case F =>
    intro w mg fa h KX G hmg
    refine' M.all_mk KX G hmg ?aCGraph ?a1 ?l1 ?c1 ?k1 ?a2 ?l2 ?c2 ?k2 ?a3 ?l3 ?c3 ?k3 ?a4 ?l4 ?c4 ?k4 ?a5 ?l5 ?c5 ?k5 ?a6 ?i6 ?l6 ?c6 ?k6 ?a7 ?i7 ?l7 ?c7 ?k7 ?a8 ?l8 ?c8 ?k8 ?a9 ?l9 ?c9 ?k9 ?a10 ?l10 ?c10 ?k10 ?a11 ?l11 ?c11 ?k11 ?a12 ?l12 ?c12 ?k12 ?a13 ?l13 ?c13 ?k13 ?a14 ?l14 ?c14 ?k14 ?a15 ?l15 ?c15 ?k15 ?a16 ?l16 ?c16 ?k16 ?a17 ?l17 ?c17 ?k17 ?a18 ?l18 ?c18 ?k18 ?mkGraph ?kcGraph ?neGraph ?obGraph ?yb_all ?yb_dict ?yb_int ?yb_isinstance ?yb_len ?yb_list ?yb_max ?yb_min ?yb_range ?yb_set ?yb_sorted ?yb_str ?yb_tuple ?yb_zip ?yg_LETTERS ?yg_MAX_EDGES ?yg_MAX_LENGTH ?yg_MAX_VERTICES ?pgGraph ?hdGraph ?poGraph ?saGraph ?ynGraph_edges ?ynGraph_vertices ?gha ?ghn ?ghtk ?ghm ?gcl ?gty ?gsubNoneType ?gsubbool ?gsubint ?gsubstr ?gsubtuple ?gsublist
    (case aCGraph => k_is)
    (case a1 => k_is)
    (case l1 => k_is)
    (case c1 => k_is)
    (case k1 => k_is)
    (case a2 => k_is)
    (case l2 => k_is)
    (case c2 => k_is)
    (case k2 => k_is)
    (case a3 => k_is)
    (case l3 => k_is)
    (case c3 => k_is)
    (case k3 => k_is)
    (case a4 => k_is)
    (case l4 => k_is)
    (case c4 => k_is)
    (case k4 => k_is)
    (case a5 => k_is)
    (case l5 => k_is)
    (case c5 => k_is)
    (case k5 => k_is)
    (case a6 => k_is)
    (case i6 => k_is)
    (case l6 => k_is)
    (case c6 => k_is)
    (case k6 => k_is)
    (case a7 => k_is)
    (case i7 => k_is)
    (case l7 => k_is)
    (case c7 => k_is)
    (case k7 => k_is)
    (case a8 => k_is)
    (case l8 => k_is)
    (case c8 => k_is)
    (case k8 => k_is)
    (case a9 => k_is)
    (case l9 => k_is)
    (case c9 => k_is)
    (case k9 => k_is)
    (case a10 => k_is)
    (case l10 => k_is)
    (case c10 => k_is)
    (case k10 => k_is)
    (case a11 => k_is)
    (case l11 => k_is)
    (case c11 => k_is)
    (case k11 => k_is)
    (case a12 => k_is)
    (case l12 => k_is)
    (case c12 => k_is)
    (case k12 => k_is)
    (case a13 => k_is)
    (case l13 => k_is)
    (case c13 => k_is)
    (case k13 => k_is)
    (case a14 => k_is)
    (case l14 => k_is)
    (case c14 => k_is)
    (case k14 => k_is)
    (case a15 => k_is)
    (case l15 => k_is)
    (case c15 => k_is)
    (case k15 => k_is)
    (case a16 => k_is)
    (case l16 => k_is)
    (case c16 => k_is)
    (case k16 => k_is)
    (case a17 => k_is)
    (case l17 => k_is)
    (case c17 => k_is)
    (case k17 => k_is)
    (case a18 => k_is)
    (case l18 => k_is)
    (case c18 => k_is)
    (case k18 => k_is)
    (case mkGraph => k_is)
    (case kcGraph => k_is)
    (case neGraph => k_is)
    (case obGraph => k_is)
    (case yb_all => k_is)
    (case yb_dict => k_is)
    (case yb_int => k_is)
    (case yb_isinstance => k_is)
    (case yb_len => k_is)
    (case yb_list => k_is)
    (case yb_max => k_is)
    (case yb_min => k_is)
    (case yb_range => k_is)
    (case yb_set => k_is)
    (case yb_sorted => k_is)
    (case yb_str => k_is)
    (case yb_tuple => k_is)
    (case yb_zip => k_is)
    (case yg_LETTERS => k_is)
    (case yg_MAX_EDGES => k_is)
    (case yg_MAX_LENGTH => k_is)
    (case yg_MAX_VERTICES => k_is)
    (case pgGraph => k_is)
    (case hdGraph => k_is)
    (case poGraph => k_is)
    (case saGraph => k_is)
    (case ynGraph_edges => k_is)
    (case ynGraph_vertices => k_is)
    (case gha => k_is)
    (case ghn => k_is)
    (case ghtk => k_is)
    (case ghm => k_is)
    (case gcl => k_is)
    (case gty => k_is)
    (case gsubNoneType => k_is)
    (case gsubbool => k_is)
    (case gsubint => k_is)
    (case gsubstr => k_is)
    (case gsubtuple => k_is)
    (case gsublist => k_is)
