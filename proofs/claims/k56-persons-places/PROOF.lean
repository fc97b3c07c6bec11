import PyProof.Rows.All
import Wide.All
import OpenK.AllK
import Wide.FinOn
import HandS.ForMost
import HandS.Defaults
import HandS.IsInst
import HandS.TupAny
import HandS.Style
import HandS.Wide
import HandS.NoneIn
import HandS.OwnEq
import HandS.More
import HandS.HeadHook1
import KE.KDictKeyed
import KE.SortData
import KE.GoesMore
import KE.GoesEnum
import PyProof.EnumMake
import PyProof.Draws
import HandS.Iter
import HandS.Walk
import KE.KDictCopyH
import KE.KDictSum
import PyProof.NeKinds
import HandS.Head0
import HandS.Head1
import HandS.Head2
import HandS.HeadEnd
import HandS.HeadHook2
import HandS.HeadHook3
import KE.KStateDown
import Lean
import PySem.Challenge.RW_whosetomorrow_k56_whole_persons_and_plac
set_option Elab.async false
set_option linter.all false
set_option maxRecDepth 100000
set_option maxHeartbeats 4000000
/-! Dm1: plain data over HandS: data D, memories, what stands for what, the judgements by data. -/
namespace Dm
open PySem PySem.Spec PyProof.Rows L2

/-- plain data; loc k: the k-th mutable object -/
inductive D where
  | non | bl (b : Bool) | int (i : Int) | str (x : Str)
  | tup (ds : List D) | lst (ds : List D) | ins (c : Nat) (ds : List D) | loc (k : Nat)
/-- a mutable object -/
inductive MO where
  | lst (ds : List D) | dicI (kvs : List (Int × D)) | dicT (kvs : List (D × D)) | ob (c : Nat) (fs : List (Str × D)) | gone
abbrev Env := List (Option D)
abbrev Mem := List MO

/-- the classes whose instances are data -/
def clsN : Nat → Str
  | 0 => "Situation" | 1 => "Step" | 2 => "Book" | 3 => "Closed" | 4 => "WrongChain" | _ => "TalkErr"
def clsF : Nat → List Str
  | 0 => ["teller", "hearer", "day", "place"] | 1 => ["delay", "hearer", "place"] | 2 => ["days", "persons", "places", "rules"]
  | 3 => ["rows"] | 4 => ["situation", "steps"] | _ => ["path", "index", "chain"]
def clsA (K : PySem.W.Frag) (c : Nat) : Addr := He.ga K (clsN c)

structure Gx where
  P : Program
  w : World
  K : PySem.W.Frag
abbrev gx (X : Cx) : Gx := ⟨X.prog, X.w, X.K⟩

mutual
/-- the data d is the value v, by the objects of B -/
def RepP (K : PySem.W.Frag) (B : Hp) : D → V → Prop
  | .non, v => v = .non
  | .bl b, v => v = .bl b
  | .int i, v => v = .int i
  | .str x, v => v = .str x
  | .tup ds, v => ∃ a vs, v = .ref a ∧ SqT K B a vs ∧ RepA K B ds vs
  | .lst ds, v => ∃ a vs, v = .ref a ∧ SqL K B a vs ∧ RepA K B ds vs
  | .ins c ds, v => ∃ a dx vs, v = .ref a ∧ B a = some (.ins (clsA K c) dx ((clsF c).zip vs)) ∧ vs.length = (clsF c).length ∧ RepA K B ds vs
  | .loc _, _ => False
def RepA (K : PySem.W.Frag) (B : Hp) : List D → List V → Prop
  | [], vs => vs = []
  | d :: ds, vs => ∃ v r, vs = v :: r ∧ RepP K B d v ∧ RepA K B ds r
end

theorem sameT {K : PySem.W.Frag} {H H' : Hp} {a : Addr} {xs : List V} (e : Same H H') (h : SqT K H a xs) : SqT K H' a xs := by
  rcases h with (h | ⟨o, h⟩) | h
  · exact .inl (.inl (e _ _ h))
  · exact .inl (.inr ⟨o, e _ _ h⟩)
  · exact .inr h

section
variable {K : PySem.W.Frag} {B B' : Hp}
mutual
theorem RepP.mono (e : Same B B') : ∀ (d : D) (v : V), RepP K B d v → RepP K B' d v
  | .non, _, h => by simpa only [RepP] using h
  | .bl _, _, h => by simpa only [RepP] using h
  | .int _, _, h => by simpa only [RepP] using h
  | .str _, _, h => by simpa only [RepP] using h
  | .tup ds, v, h => by
    simp only [RepP] at h ⊢
    obtain ⟨a, vs, rfl, h1, h2⟩ := h
    exact ⟨a, vs, rfl, sameT e h1, RepA.mono e ds vs h2⟩
  | .lst ds, v, h => by
    simp only [RepP] at h ⊢
    obtain ⟨a, vs, rfl, h1, h2⟩ := h
    exact ⟨a, vs, rfl, Same.seq e h1, RepA.mono e ds vs h2⟩
  | .ins c ds, v, h => by
    simp only [RepP] at h ⊢
    obtain ⟨a, dx, vs, rfl, h1, h2, h3⟩ := h
    exact ⟨a, dx, vs, rfl, e _ _ h1, h2, RepA.mono e ds vs h3⟩
  | .loc _, _, h => by simp only [RepP] at h
theorem RepA.mono (e : Same B B') : ∀ (ds : List D) (vs : List V), RepA K B ds vs → RepA K B' ds vs
  | [], _, h => by simpa only [RepA] using h
  | d :: ds, vs, h => by
    simp only [RepA] at h ⊢
    obtain ⟨v, r, rfl, h1, h2⟩ := h
    exact ⟨v, r, rfl, RepP.mono e d v h1, RepA.mono e ds r h2⟩
end
theorem RepA.length : ∀ {ds : List D} {vs : List V}, RepA K B ds vs → ds.length = vs.length
  | [], _, h => by simp only [RepA] at h; rw [h]; rfl
  | d :: ds, vs, h => by
    simp only [RepA] at h
    obtain ⟨v, r, rfl, _, h2⟩ := h
    rw [List.length_cons, List.length_cons, RepA.length h2]
theorem RepA.get : ∀ {ds : List D} {vs : List V} {i : Nat} {d : D}, RepA K B ds vs → ds[i]? = some d → ∃ v, vs[i]? = some v ∧ RepP K B d v
  | [], _, _, _, _, e => by simp at e
  | x :: ds, vs, 0, d, h, e => by
    simp only [RepA] at h
    obtain ⟨v, r, rfl, h1, _⟩ := h
    have e' : x = d := by simpa using e
    subst e'
    exact ⟨v, rfl, h1⟩
  | x :: ds, vs, i + 1, d, h, e => by
    simp only [RepA] at h
    obtain ⟨v, r, rfl, _, h2⟩ := h
    obtain ⟨w, h3, h4⟩ := RepA.get h2 (i := i) (d := d) (by simpa using e)
    exact ⟨w, by simpa using h3, h4⟩
theorem RepA.nil : RepA K B [] [] := by simp only [RepA]
theorem RepA.cons {d : D} {v : V} {ds : List D} {vs : List V} (h : RepP K B d v) (t : RepA K B ds vs) : RepA K B (d :: ds) (v :: vs) := by
  simp only [RepA]
  exact ⟨v, vs, rfl, h, t⟩
theorem RepA.append : ∀ {ds es : List D} {vs us : List V}, RepA K B ds vs → RepA K B es us → RepA K B (ds ++ es) (vs ++ us)
  | [], _, _, _, h, t => by simp only [RepA] at h; subst h; simpa using t
  | d :: ds, es, vs, us, h, t => by
    simp only [RepA] at h
    obtain ⟨v, r, rfl, h1, h2⟩ := h
    exact RepA.cons h1 (RepA.append h2 t)
theorem RepA.set : ∀ {ds : List D} {vs : List V} {d : D} {v : V} (i : Nat), RepA K B ds vs → RepP K B d v → RepA K B (ds.set i d) (vs.set i v)
  | [], _, _, _, _, h, _ => by simp only [RepA] at h; subst h; simpa using RepA.nil
  | x :: ds, vs, d, v, 0, h, r => by
    simp only [RepA] at h
    obtain ⟨u, q, rfl, h1, h2⟩ := h
    exact RepA.cons r h2
  | x :: ds, vs, d, v, i + 1, h, r => by
    simp only [RepA] at h
    obtain ⟨u, q, rfl, h1, h2⟩ := h
    exact RepA.cons h1 (RepA.set i h2 r)
theorem RepA.drop : ∀ {ds : List D} {vs : List V} (i : Nat), RepA K B ds vs → RepA K B (ds.drop i) (vs.drop i)
  | _, _, 0, h => by simpa using h
  | [], _, i + 1, h => by simp only [RepA] at h; subst h; simpa using RepA.nil
  | x :: ds, vs, i + 1, h => by
    simp only [RepA] at h
    obtain ⟨u, q, rfl, h1, h2⟩ := h
    simpa using RepA.drop i h2
theorem RepA.take : ∀ {ds : List D} {vs : List V} (i : Nat), RepA K B ds vs → RepA K B (ds.take i) (vs.take i)
  | _, _, 0, h => by simpa using RepA.nil
  | [], _, i + 1, h => by simp only [RepA] at h; subst h; simpa using RepA.nil
  | x :: ds, vs, i + 1, h => by
    simp only [RepA] at h
    obtain ⟨u, q, rfl, h1, h2⟩ := h
    exact RepA.cons h1 (RepA.take i h2)
theorem RepA.reverse : ∀ {ds : List D} {vs : List V}, RepA K B ds vs → RepA K B ds.reverse vs.reverse
  | [], _, h => by simp only [RepA] at h; subst h; simpa using RepA.nil
  | x :: ds, vs, h => by
    simp only [RepA] at h
    obtain ⟨u, q, rfl, h1, h2⟩ := h
    rw [List.reverse_cons, List.reverse_cons]
    exact RepA.append (RepA.reverse h2) (RepA.cons h1 RepA.nil)
theorem RepA.atI {ds : List D} {vs : List V} {i : Int} {d : D} (h : RepA K B ds vs) (e : atI ds i = some d) : ∃ v, L2.atI vs i = some v ∧ RepP K B d v := by
  unfold L2.atI at e ⊢
  rw [← h.length]
  cases q : ixN ds.length i with
  | none => rw [q] at e; cases e
  | some j =>
    rw [q] at e
    exact h.get (i := j) e
end

/-- where the mutable objects stand; the objects that stay -/
structure Wd where
  rho : List Addr
  B : Hp
def Ext (W W' : Wd) : Prop := (∃ t, W'.rho = W.rho ++ t) ∧ Same W.B W'.B
theorem Ext.refl (W : Wd) : Ext W W := ⟨⟨[], by simp⟩, Same.refl _⟩
theorem Ext.trans {W W1 W2 : Wd} (a : Ext W W1) (b : Ext W1 W2) : Ext W W2 := by
  obtain ⟨⟨t, e⟩, s⟩ := a
  obtain ⟨⟨u, e'⟩, s'⟩ := b
  exact ⟨⟨t ++ u, by rw [e', e, List.append_assoc]⟩, s.trans s'⟩
theorem Ext.at {W W' : Wd} (e : Ext W W') {k : Nat} {a : Addr} (h : W.rho[k]? = some a) : W'.rho[k]? = some a := by
  obtain ⟨⟨t, e⟩, _⟩ := e
  rw [e, List.getElem?_append_left (List.getElem?_eq_some_iff.mp h).1, h]

def Rep (K : PySem.W.Frag) (W : Wd) (d : D) (v : V) : Prop := match d with
  | .loc k => ∃ a, W.rho[k]? = some a ∧ v = .ref a
  | d => RepP K W.B d v
def isMut : D → Bool
  | .loc _ => true
  | _ => false
theorem Rep.mono {K : PySem.W.Frag} {W W' : Wd} (e : Ext W W') {d : D} {v : V} (h : Rep K W d v) : Rep K W' d v := by
  cases d with
  | loc k =>
    obtain ⟨a, h1, h2⟩ := h
    exact ⟨a, e.at h1, h2⟩
  | _ => exact RepP.mono e.2 _ _ h
theorem Rep.pure {K : PySem.W.Frag} {W : Wd} {d : D} {v : V} (h : Rep K W d v) (n : isMut d = false) : RepP K W.B d v := by
  cases d with
  | loc k => cases n
  | _ => exact h
theorem Rep.of {K : PySem.W.Frag} {W : Wd} {d : D} {v : V} (h : RepP K W.B d v) : Rep K W d v := by
  cases d with
  | loc k => simp only [RepP] at h
  | _ => exact h
theorem RepP.nomut {K : PySem.W.Frag} {B : Hp} {d : D} {v : V} (h : RepP K B d v) : isMut d = false := by
  cases d with
  | loc k => simp only [RepP] at h
  | _ => rfl
abbrev RepL (K : PySem.W.Frag) (W : Wd) : List D → List V → Prop := Paired (Rep K W)
theorem RepL.mono {K : PySem.W.Frag} {W W' : Wd} (e : Ext W W') : ∀ {ds : List D} {vs : List V}, RepL K W ds vs → RepL K W' ds vs
  | _, _, .nil => .nil
  | _, _, .cons r t => .cons (r.mono e) (RepL.mono e t)
theorem RepL.pure {K : PySem.W.Frag} {W : Wd} : ∀ {ds : List D} {vs : List V}, RepL K W ds vs → ds.all (fun d => !isMut d) = true → RepA K W.B ds vs
  | _, _, .nil, _ => RepA.nil
  | d :: ds, _, .cons r t, h => by
    rw [List.all_cons, Bool.and_eq_true] at h
    exact RepA.cons (r.pure (by simpa using h.1)) (RepL.pure t h.2)

/-! ### keys that are tuples -/
mutual
def toKey : D → Option NestedKey
  | .non => some .none
  | .bl b => some (.num (if b then 1 else 0))
  | .int i => some (.num i)
  | .str x => some (.text x)
  | .tup ds => (toKeys ds).map .tup
  | _ => none
def toKeys : List D → Option (List NestedKey)
  | [] => some []
  | d :: ds => match toKey d, toKeys ds with
    | some k, some ks => some (k :: ks)
    | _, _ => none
end
/-- a dict object by its entries -/
def DicAt (g : Gx) (a : Addr) (xs : List (NestedKey × Addr × Value)) (h : Heap) : Prop :=
  ∃ o es ep, h.get? a = some o ∧ o.ExactDict ∧ o.data = .dict es ep ∧ es.toList = xs.map (entryOfKey (nestedKind g.P g.w)) ∧ (xs.map (·.1)).Nodup

/-- the mutable object at a is m -/
def MRep (g : Gx) (B H : Hp) (a : Addr) : MO → Prop
  | .lst ds => B a = none ∧ ∃ vs, H a = some (.lst vs) ∧ RepA g.K B ds vs
  | .dicI kvs => B a = none ∧ ∃ kv, H a = some (.dK kv) ∧ Paired (fun (p : Int × D) (q : Key × V) => q.1 = Sum.inl p.1 ∧ RepP g.K B p.2 q.2) kvs kv
  | .dicT kvs => B a = none ∧ (a == sysModules) = false ∧ kvs.length ≤ sizeLine ∧ ∃ xs, H a = some (.ext (DicAt g a xs)) ∧
      Paired (fun (p : D × D) (q : NestedKey × Addr × Value) => toKey p.1 = some q.1 ∧ q.1.depth ≤ 8 ∧ RepP g.K B p.1 (.ref q.2.1) ∧ ∃ v, RelV v q.2.2 ∧ RepP g.K B p.2 v) kvs xs
  | .ob c fs => B a = none ∧ ∃ dx fv, H a = some (.ins (clsA g.K c) dx fv) ∧ Paired (fun (p : Str × D) (q : Str × V) => p.1 = q.1 ∧ RepP g.K B p.2 q.2) fs fv
  | .gone => ∃ o, H a = some o
theorem MRep.there {g : Gx} {B H : Hp} {a : Addr} {m : MO} (h : MRep g B H a m) : ∃ o, H a = some o := by
  cases m with
  | lst ds => obtain ⟨_, vs, h, _⟩ := h; exact ⟨_, h⟩
  | dicI kvs => obtain ⟨_, kv, h, _⟩ := h; exact ⟨_, h⟩
  | dicT kvs => obtain ⟨_, _, _, xs, h, _⟩ := h; exact ⟨_, h⟩
  | ob c fs => obtain ⟨_, dx, fv, h, _⟩ := h; exact ⟨_, h⟩
  | gone => exact h
theorem Paired.imp {α β : Type} {F G : α → β → Prop} (f : ∀ a b, F a b → G a b) : ∀ {l₁ : List α} {l₂ : List β}, Paired F l₁ l₂ → Paired G l₁ l₂
  | _, _, .nil => .nil
  | _, _, .cons r t => .cons (f _ _ r) (Paired.imp f t)
theorem MRep.keep {g : Gx} {B B' H H' : Hp} {a : Addr} {m : MO} (h : MRep g B H a m) (e : Same B B') (hB : B' a = B a ∨ m = .gone) (hH : H' a = H a) : MRep g B' H' a m := by
  have nB : m ≠ .gone → B' a = B a := fun n => hB.resolve_right n
  cases m with
  | lst ds =>
    obtain ⟨b, vs, h, r⟩ := h
    exact ⟨by rw [nB (by simp)]; exact b, vs, by rw [hH]; exact h, r.mono e⟩
  | dicI kvs =>
    obtain ⟨b, kv, h, r⟩ := h
    exact ⟨by rw [nB (by simp)]; exact b, kv, by rw [hH]; exact h, Paired.imp (fun _ _ z => ⟨z.1, RepP.mono e _ _ z.2⟩) r⟩
  | dicT kvs =>
    obtain ⟨b, b2, b3, xs, h, r⟩ := h
    exact ⟨by rw [nB (by simp)]; exact b, b2, b3, xs, by rw [hH]; exact h, Paired.imp (fun _ _ z => ⟨z.1, z.2.1, RepP.mono e _ _ z.2.2.1, let ⟨v, r1, r2⟩ := z.2.2.2; ⟨v, r1, RepP.mono e _ _ r2⟩⟩) r⟩
  | ob c fs =>
    obtain ⟨b, dx, fv, h, r⟩ := h
    exact ⟨by rw [nB (by simp)]; exact b, dx, fv, by rw [hH]; exact h, Paired.imp (fun _ _ z => ⟨z.1, RepP.mono e _ _ z.2⟩) r⟩
  | gone =>
    obtain ⟨o, h⟩ := h
    exact ⟨o, by rw [hH]; exact h⟩

/-- the abstract heap H holds the stable objects and the mutable ones -/
structure SR (g : Gx) (W : Wd) (H : Hp) (mu : Mem) : Prop where
  ext : Same W.B H
  len : W.rho.length = mu.length
  cell : ∀ (k : Nat) (a : Addr) (m : MO), W.rho[k]? = some a → mu[k]? = some m → MRep g W.B H a m
  inj : ∀ (i j : Nat) (a : Addr), W.rho[i]? = some a → W.rho[j]? = some a → i = j

section
variable {g : Gx} {W : Wd} {H : Hp} {mu : Mem}
theorem SR.memAt (S : SR g W H mu) {k : Nat} {a : Addr} (h : W.rho[k]? = some a) : ∃ m, mu[k]? = some m := by
  have hk : k < mu.length := by rw [← S.len]; exact (List.getElem?_eq_some_iff.mp h).1
  exact ⟨mu[k], List.getElem?_eq_getElem hk⟩
theorem SR.adrAt (S : SR g W H mu) {k : Nat} {m : MO} (h : mu[k]? = some m) : ∃ a, W.rho[k]? = some a := by
  have hk : k < W.rho.length := by rw [S.len]; exact (List.getElem?_eq_some_iff.mp h).1
  exact ⟨W.rho[k], List.getElem?_eq_getElem hk⟩
theorem SR.there (S : SR g W H mu) {k : Nat} {a : Addr} (h : W.rho[k]? = some a) : ∃ o, H a = some o := by
  obtain ⟨m, hm⟩ := S.memAt h
  exact (S.cell k a m h hm).there
/-- a stable object is new -/
theorem SR.grow (S : SR g W H mu) {p : Addr} {o : HO} (np : H p = none) : SR g ⟨W.rho, upd W.B p o⟩ (upd H p o) mu ∧ Ext W ⟨W.rho, upd W.B p o⟩ := by
  have nB : W.B p = none := S.ext.free np
  have e : Same W.B (upd W.B p o) := fun b u h => by rw [upd_ne (ne_of_none h nB)]; exact h
  refine ⟨⟨fun b u h => ?_, S.len, fun k a m h1 h2 => ?_, S.inj⟩, ⟨[], by simp⟩, e⟩
  · have h : upd W.B p o b = some u := h
    by_cases hb : b = p
    · subst hb; rw [upd_same] at h ⊢; exact h
    · rw [upd_ne hb] at h ⊢; exact S.ext b u h
  · obtain ⟨q, hq⟩ := S.there h1
    have ne : a ≠ p := ne_of_none hq np
    exact (S.cell k a m h1 h2).keep e (.inl (upd_ne ne)) (upd_ne ne)
/-- a mutable object is new -/
theorem SR.growM (S : SR g W H mu) {p : Addr} {o : HO} {m : MO} (np : H p = none) (hm : MRep g W.B (upd H p o) p m) : SR g ⟨W.rho ++ [p], W.B⟩ (upd H p o) (mu ++ [m]) ∧ Ext W ⟨W.rho ++ [p], W.B⟩ := by
  have nB : W.B p = none := S.ext.free np
  refine ⟨⟨fun b u h => ?_, by simp [S.len], fun k a m' h1 h2 => ?_, fun i j a h1 h2 => ?_⟩, ⟨[p], rfl⟩, Same.refl _⟩
  · rw [upd_ne (ne_of_none h nB)]; exact S.ext b u h
  · by_cases hk : k < W.rho.length
    · rw [List.getElem?_append_left hk] at h1
      rw [List.getElem?_append_left (by rw [← S.len]; exact hk)] at h2
      obtain ⟨q, hq⟩ := S.there h1
      have ne : a ≠ p := ne_of_none hq np
      exact (S.cell k a m' h1 h2).keep (Same.refl _) (.inl rfl) (upd_ne ne)
    · have hk' : W.rho.length ≤ k := Nat.le_of_not_lt hk
      rw [List.getElem?_append_right hk'] at h1
      rw [List.getElem?_append_right (by rw [← S.len]; exact hk')] at h2
      have z : k - W.rho.length = 0 := by
        have := (List.getElem?_eq_some_iff.mp h1).1
        simpa using this
      rw [z] at h1
      rw [← S.len, z] at h2
      have e1 : p = a := by simpa using h1
      have e2 : m = m' := by simpa using h2
      subst e1 e2
      exact hm
  · have old : ∀ {k : Nat} {a : Addr}, W.rho[k]? = some a → a ≠ p := fun h => by
      obtain ⟨q, hq⟩ := S.there h
      exact ne_of_none hq np
    have new : ∀ {k : Nat} {a : Addr}, (W.rho ++ [p])[k]? = some a → (W.rho[k]? = some a ∧ k < W.rho.length) ∨ (k = W.rho.length ∧ a = p) := fun {k a} h => by
      by_cases hk : k < W.rho.length
      · rw [List.getElem?_append_left hk] at h; exact .inl ⟨h, hk⟩
      · have hk' : W.rho.length ≤ k := Nat.le_of_not_lt hk
        rw [List.getElem?_append_right hk'] at h
        have z := (List.getElem?_eq_some_iff.mp h).1
        have z' : k - W.rho.length = 0 := by simpa using z
        rw [z'] at h
        exact .inr ⟨by omega, by simpa using h.symm⟩
    rcases new h1 with ⟨g1, l1⟩ | ⟨rfl, rfl⟩
    · rcases new h2 with ⟨g2, l2⟩ | ⟨rfl, rfl⟩
      · exact S.inj i j a g1 g2
      · exact absurd rfl (old g1)
    · rcases new h2 with ⟨g2, l2⟩ | ⟨rfl, _⟩
      · exact absurd rfl (old g2)
      · rfl
/-- the mutable object k is written -/
theorem SR.write (S : SR g W H mu) {k : Nat} {a : Addr} {m m' : MO} {o : HO} (h1 : W.rho[k]? = some a) (h2 : mu[k]? = some m) (hB : W.B a = none) (hm : MRep g W.B (upd H a o) a m') : SR g W (upd H a o) (mu.set k m') := by
  have hk := (List.getElem?_eq_some_iff.mp h2).1
  refine ⟨fun b u h => by rw [upd_ne (ne_of_none h hB)]; exact S.ext b u h, by rw [List.length_set]; exact S.len, fun j b n g1 g2 => ?_, S.inj⟩
  by_cases hj : j = k
  · subst hj
    rw [h1] at g1; cases g1
    rw [List.getElem?_set_self hk] at g2; cases g2
    exact hm
  · rw [List.getElem?_set_ne (Ne.symm hj)] at g2
    have ne : b ≠ a := fun e => hj (S.inj j k a (e ▸ g1) h1)
    exact (S.cell j b n g1 g2).keep (Same.refl _) (.inl rfl) (upd_ne ne)
/-- it stays from now on -/
theorem SR.freeze (S : SR g W H mu) {k : Nat} {a : Addr} {m : MO} {o : HO} (h1 : W.rho[k]? = some a) (h2 : mu[k]? = some m) (hB : W.B a = none) (hH : H a = some o) : SR g ⟨W.rho, upd W.B a o⟩ H (mu.set k .gone) ∧ Ext W ⟨W.rho, upd W.B a o⟩ := by
  have hk := (List.getElem?_eq_some_iff.mp h2).1
  have e : Same W.B (upd W.B a o) := fun b u h => by rw [upd_ne (ne_of_none h hB)]; exact h
  refine ⟨⟨fun b u h => ?_, by rw [List.length_set]; exact S.len, fun j b n g1 g2 => ?_, S.inj⟩, ⟨[], by simp⟩, e⟩
  · have h : upd W.B a o b = some u := h
    by_cases hb : b = a
    · subst hb; rw [upd_same] at h; rw [hH, h]
    · rw [upd_ne hb] at h; exact S.ext b u h
  · by_cases hj : j = k
    · subst hj
      rw [h1] at g1; cases g1
      rw [List.getElem?_set_self hk] at g2; cases g2
      exact ⟨o, hH⟩
    · rw [List.getElem?_set_ne (Ne.symm hj)] at g2
      have ne : b ≠ a := fun e => hj (S.inj j k a (e ▸ g1) h1)
      exact (S.cell j b n g1 g2).keep e (.inl (upd_ne ne)) rfl
/-- the later ones are forgotten -/
theorem SR.cut (S : SR g W H mu) (n : Nat) : SR g ⟨W.rho.take n, W.B⟩ H (mu.take n) := by
  have old : ∀ {α : Type} {l : List α} {k : Nat} {x : α}, (l.take n)[k]? = some x → l[k]? = some x := fun {α l k x} h => by
    rw [List.getElem?_take] at h
    split at h
    · exact h
    · cases h
  exact ⟨S.ext, by rw [List.length_take, List.length_take, S.len], fun k a m h1 h2 => S.cell k a m (old h1) (old h2), fun i j a h1 h2 => S.inj i j a (old h1) (old h2)⟩
end

/-! ### environments -/
structure EnvR (K : PySem.W.Frag) (W : Wd) (σ : L2.St) (de : Env) : Prop where
  len : de.length = σ.length
  at_ : ∀ (i : Nat) (d : D), de[i]? = some (some d) → ∃ v, σ[i]? = some (some v) ∧ Rep K W d v
section
variable {K : PySem.W.Frag} {W W' : Wd} {σ : L2.St} {de : Env}
theorem EnvR.mono (h : EnvR K W σ de) (e : Ext W W') : EnvR K W' σ de := ⟨h.len, fun i d q => let ⟨v, h1, h2⟩ := h.at_ i d q; ⟨v, h1, h2.mono e⟩⟩
theorem EnvR.set (h : EnvR K W σ de) (i : Nat) {d : D} {v : V} (r : Rep K W d v) : EnvR K W (σ.set i (some v)) (de.set i (some d)) := by
  refine ⟨by rw [List.length_set, List.length_set]; exact h.len, fun j e q => ?_⟩
  by_cases hj : i = j
  · subst hj
    have hi : i < de.length := by
      have := (List.getElem?_eq_some_iff.mp q).1
      rwa [List.length_set] at this
    rw [List.getElem?_set_self hi] at q
    cases q
    exact ⟨v, by rw [List.getElem?_set_self (by rw [← h.len]; exact hi)], r⟩
  · rw [List.getElem?_set_ne hj] at q ⊢
    exact h.at_ j e q
theorem EnvR.unset (h : EnvR K W σ de) (i : Nat) : EnvR K W (σ.set i none) (de.set i none) := by
  refine ⟨by rw [List.length_set, List.length_set]; exact h.len, fun j e q => ?_⟩
  by_cases hj : i = j
  · subst hj
    have hi : i < de.length := by
      have := (List.getElem?_eq_some_iff.mp q).1
      rwa [List.length_set] at this
    rw [List.getElem?_set_self hi] at q
    cases q
  · rw [List.getElem?_set_ne hj] at q ⊢
    exact h.at_ j e q
def wipeD (de : Env) : List Nat → Env
  | [] => de
  | v :: vs => (wipeD de vs).set v none
theorem EnvR.wipe (h : EnvR K W σ de) : ∀ vs : List Nat, EnvR K W (wipe σ vs) (wipeD de vs)
  | [] => h
  | v :: vs => (EnvR.wipe h vs).unset v
end

/-! ### the judgements by data -/
abbrev SE := Env → Mem → Option (D × Mem)
abbrev ST := Env → Mem → Option (Bool × Mem)
abbrev SA := Env → Mem → Option (List D × Mem)
inductive Out where
  | nx | bk | ct | rt (d : D)
abbrev SS := Env → Mem → Option (Out × Env × Mem)
abbrev SG := D → Env → Option Env
abbrev FnD := List D → Mem → Option (D × Mem)

def tD (g : Gx) (f : SE) : TE := fun σ H Q => ∃ de W mu d mu', EnvR g.K W σ de ∧ SR g W H mu ∧ f de mu = some (d, mu') ∧ ∀ v H' W', Ext W W' → SR g W' H' mu' → Rep g.K W' d v → Q v H'
def tDT (g : Gx) (f : ST) : TT := fun σ H Q => ∃ de W mu d mu', EnvR g.K W σ de ∧ SR g W H mu ∧ f de mu = some (d, mu') ∧ ∀ H' W', Ext W W' → SR g W' H' mu' → Q d H'
def tDA (g : Gx) (f : SA) : TA := fun σ H Q => ∃ de W mu ds mu', EnvR g.K W σ de ∧ SR g W H mu ∧ f de mu = some (ds, mu') ∧ ∀ vs H' W', Ext W W' → SR g W' H' mu' → RepL g.K W' ds vs → Q vs H'
/-- how a statement's end is met -/
def endsAs (g : Gx) (E : Ends) (W : Wd) (σ : L2.St) (H : Hp) : Out → Prop
  | .nx => E.nx σ H
  | .bk => E.bk σ H
  | .ct => E.ct σ H
  | .rt d => ∀ v, Rep g.K W d v → E.rt v H
def tDS (g : Gx) (f : SS) : TS := fun E σ H => ∃ de W mu o de' mu', EnvR g.K W σ de ∧ SR g W H mu ∧ f de mu = some (o, de', mu') ∧ ∀ σ' H' W', Ext W W' → SR g W' H' mu' → EnvR g.K W' σ' de' → endsAs g E W' σ' H' o
def tDG (g : Gx) (f : SG) : TG := fun v σ H Q => ∃ d de W mu de', Rep g.K W d v ∧ EnvR g.K W σ de ∧ SR g W H mu ∧ f d de = some de' ∧ ∀ σ', EnvR g.K W σ' de' → Q σ' H

def DE (X : Cx) (e : Expr) (f : SE) : Prop := PE X e (tD (gx X) f)
def DT (X : Cx) (e : Expr) (f : ST) : Prop := PT X e (tDT (gx X) f)
def DW (X : Cx) (e : Expr) (f : ST) : Prop := PW X e (tDT (gx X) f)
def DA (X : Cx) (es : List Expr) (f : SA) : Prop := PA X es (tDA (gx X) f)
def DS (X : Cx) (st : Stmt) (f : SS) : Prop := PS X st (tDS (gx X) f)
def DSs (X : Cx) (st : List Stmt) (f : SS) : Prop := PSs X st (tDS (gx X) f)
def DG (X : Cx) (t : Expr) (f : SG) : Prop := PG X t (tDG (gx X) f)

section
variable {X : Cx}
theorem PE.weak {e : Expr} {t t' : TE} (h : PE X e t) (w : ∀ σ H Q, t' σ H Q → t σ H Q) : PE X e t' := ⟨fun pins s σ H Q I q => h.run pins s σ H Q I (w σ H Q q)⟩
theorem PT.weak {e : Expr} {t t' : TT} (h : PT X e t) (w : ∀ σ H Q, t' σ H Q → t σ H Q) : PT X e t' := ⟨fun pins s σ H Q I q => h.run pins s σ H Q I (w σ H Q q)⟩
theorem PW.weak {e : Expr} {t t' : TT} (h : PW X e t) (w : ∀ σ H Q, t' σ H Q → t σ H Q) : PW X e t' := ⟨fun wh pins s σ H Q I q => h.run wh pins s σ H Q I (w σ H Q q)⟩
theorem PA.weak {es : List Expr} {t t' : TA} (h : PA X es t) (w : ∀ σ H Q, t' σ H Q → t σ H Q) : PA X es t' := ⟨fun p pins s σ H Q I q => h.run p pins s σ H Q I (w σ H Q q)⟩
theorem PS.weak {st : Stmt} {t t' : TS} (h : PS X st t) (w : ∀ D σ H, t' D σ H → t D σ H) : PS X st t' := ⟨fun pins s σ H D I q => h.run pins s σ H D I (w D σ H q)⟩
theorem PSs.weak {st : List Stmt} {t t' : TS} (h : PSs X st t) (w : ∀ D σ H, t' D σ H → t D σ H) : PSs X st t' := ⟨fun pins s σ H D I q => h.run pins s σ H D I (w D σ H q)⟩
theorem PG.weak {e : Expr} {t t' : TG} (h : PG X e t) (w : ∀ v σ H Q, t' v σ H Q → t v σ H Q) : PG X e t' := ⟨fun pins s σ H v u Q I r q => h.run pins s σ H v u Q I r (w v σ H Q q)⟩
theorem OpR.weak {f : Value → Value → Sem Value} {r r' : R2} (h : OpR X f r) (w : ∀ x y H Q, r' x y H Q → r x y H Q) : OpR X f r' := fun pins s σ H x y v u Q I rx ry q => h pins s σ H x y v u Q I rx ry (w x y H Q q)
end
end Dm
/-! Dm2: expressions by data. -/
namespace Dm
open PySem PySem.Spec PyProof.Rows L2

/-! ### names, constants -/
def vaS (i : Nat) : SE := fun de mu => match de[i]? with
  | some (some d) => some (d, mu)
  | _ => none
def cS (d : D) : SE := fun _ mu => some (d, mu)
def nevS : SE := fun _ _ => none
section
variable {X : Cx} {pos : Pos}
theorem de_weak {e : Expr} {t : TE} {f : SE} (h : PE X e t) (w : ∀ σ H Q, tD (gx X) f σ H Q → t σ H Q) : DE X e f := PE.weak h w
theorem de_var {i : Nat} {x : Str} (h : PE X (.Name x pos) (tVar i)) : DE X (.Name x pos) (vaS i) := de_weak h fun σ H Q q => by
  obtain ⟨de, W, mu, d, mu', hE, S, e, k⟩ := q
  unfold vaS at e
  split at e
  · rename_i d' hd
    cases e
    obtain ⟨v, h1, h2⟩ := hE.at_ i d hd
    exact ⟨v, h1, k v H W (Ext.refl W) S h2⟩
  · cases e
theorem de_c {e : Expr} {v : V} {d : D} (h : PE X e (tC v)) (r : ∀ B, RepP X.K B d v) : DE X e (cS d) := de_weak h fun σ H Q q => by
  obtain ⟨de, W, mu, d', mu', hE, S, e, k⟩ := q
  cases e
  exact k v H W (Ext.refl W) S (Rep.of (r W.B))
theorem rp_int {K : PySem.W.Frag} {B : Hp} {i : Int} : RepP K B (.int i) (.int i) := by simp only [RepP]
theorem rp_str {K : PySem.W.Frag} {B : Hp} {x : Str} : RepP K B (.str x) (.str x) := by simp only [RepP]
theorem rp_bl {K : PySem.W.Frag} {B : Hp} {b : Bool} : RepP K B (.bl b) (.bl b) := by simp only [RepP]
theorem rp_non {K : PySem.W.Frag} {B : Hp} : RepP K B .non .non := by simp only [RepP]
theorem r_int {K : PySem.W.Frag} {W : Wd} {i : Int} : Rep K W (.int i) (.int i) := rp_int (K := K) (B := W.B)
theorem r_str {K : PySem.W.Frag} {W : Wd} {x : Str} : Rep K W (.str x) (.str x) := rp_str (K := K) (B := W.B)
theorem r_bl {K : PySem.W.Frag} {W : Wd} {b : Bool} : Rep K W (.bl b) (.bl b) := rp_bl (K := K) (B := W.B)
theorem r_non {K : PySem.W.Frag} {W : Wd} : Rep K W .non .non := rp_non (K := K) (B := W.B)
theorem de_int {i : Int} {j} : DE X (.Constant (.int i) j pos) (cS (.int i)) := de_c pe_int fun _ => rp_int
theorem de_str {x : Str} {j} : DE X (.Constant (.str x) j pos) (cS (.str x)) := de_c pe_str fun _ => rp_str
theorem de_bl {b : Bool} {j} : DE X (.Constant (.bool b) j pos) (cS (.bl b)) := de_c pe_bl fun _ => rp_bl
theorem de_non {j} : DE X (.Constant .none j pos) (cS .non) := de_c pe_non fun _ => rp_non
theorem de_nev {e : Expr} : DE X e nevS := ⟨fun _ _ _ _ _ _ h => by
  obtain ⟨de, W, mu, d, mu', hE, S, e, k⟩ := h
  cases e⟩
end

/-! ### what a value is, by its data -/
section
variable {K : PySem.W.Frag} {W : Wd} {v : V}
theorem Rep.int {i : Int} (h : Rep K W (.int i) v) : v = .int i := by simpa only [Rep, RepP] using h
theorem Rep.str {x : Str} (h : Rep K W (.str x) v) : v = .str x := by simpa only [Rep, RepP] using h
theorem Rep.bl {b : Bool} (h : Rep K W (.bl b) v) : v = .bl b := by simpa only [Rep, RepP] using h
theorem Rep.non (h : Rep K W .non v) : v = .non := by simpa only [Rep, RepP] using h
theorem Rep.tup {ds : List D} (h : Rep K W (.tup ds) v) : ∃ a vs, v = .ref a ∧ SqT K W.B a vs ∧ RepA K W.B ds vs := by simpa only [Rep, RepP] using h
theorem Rep.lst {ds : List D} (h : Rep K W (.lst ds) v) : ∃ a vs, v = .ref a ∧ SqL K W.B a vs ∧ RepA K W.B ds vs := by simpa only [Rep, RepP] using h
theorem Rep.ins {c : Nat} {ds : List D} (h : Rep K W (.ins c ds) v) : ∃ a dx vs, v = .ref a ∧ W.B a = some (.ins (clsA K c) dx ((clsF c).zip vs)) ∧ vs.length = (clsF c).length ∧ RepA K W.B ds vs := by simpa only [Rep, RepP] using h
theorem Rep.loc {k : Nat} (h : Rep K W (.loc k) v) : ∃ a, W.rho[k]? = some a ∧ v = .ref a := h
end
theorem SR.seqL {g : Gx} {W : Wd} {H : Hp} {mu : Mem} (S : SR g W H mu) {a : Addr} {xs : List V} (h : SqL g.K W.B a xs) : SqL g.K H a xs := Same.seq S.ext h
theorem SR.seqT {g : Gx} {W : Wd} {H : Hp} {mu : Mem} (S : SR g W H mu) {a : Addr} {xs : List V} (h : SqT g.K W.B a xs) : SqT g.K H a xs := sameT S.ext h
/-- the items of a list or tuple, a mutable list too -/
def itemsOf (mu : Mem) : D → Option (List D)
  | .lst ds => some ds
  | .tup ds => some ds
  | .loc k => match mu[k]? with
    | some (.lst ds) => some ds
    | _ => none
  | _ => none
theorem items_ok {g : Gx} {W : Wd} {H : Hp} {mu : Mem} (S : SR g W H mu) {d : D} {v : V} {ds : List D} (r : Rep g.K W d v) (e : itemsOf mu d = some ds) : ∃ a vs, v = .ref a ∧ (SqL g.K H a vs ∨ SqT g.K H a vs) ∧ RepA g.K W.B ds vs := by
  cases d with
  | lst es =>
    cases e
    obtain ⟨a, vs, h1, h2, h3⟩ := r.lst
    exact ⟨a, vs, h1, .inl (S.seqL h2), h3⟩
  | tup es =>
    cases e
    obtain ⟨a, vs, h1, h2, h3⟩ := r.tup
    exact ⟨a, vs, h1, .inr (S.seqT h2), h3⟩
  | loc k =>
    have e : (match mu[k]? with
      | some (.lst ds) => some ds
      | _ => none) = some ds := e
    obtain ⟨a, h1, h2⟩ := r.loc
    split at e
    · rename_i es hm
      cases e
      obtain ⟨_, vs, h3, h4⟩ := S.cell k a _ h1 hm
      exact ⟨a, vs, h2, .inl (SqL.of h3), h4⟩
    · cases e
  | _ => cases e

/-! ### two-place operations -/
def bin2 (q : Mem → D → D → Option D) (f1 f2 : SE) : SE := fun de mu => (f1 de mu).bind fun a => (f2 de a.2).bind fun b => (q b.2 a.1 b.1).map fun d => (d, b.2)
def rD (g : Gx) (q : Mem → D → D → Option D) : R2 := fun v u H Q => ∃ W mu x y d, SR g W H mu ∧ Rep g.K W x v ∧ Rep g.K W y u ∧ q mu x y = some d ∧ ∀ z H' W', Ext W W' → SR g W' H' mu → Rep g.K W' d z → Q z H'
def OpD (X : Cx) (f : Value → Value → Sem Value) (q : Mem → D → D → Option D) : Prop := OpR X f (rD (gx X) q)
section
variable {X : Cx} {a b : Expr} {pos : Pos} {f1 f2 : SE} {q : Mem → D → D → Option D}
theorem opd_read {g : Gx} {σ : L2.St} {H : Hp} {Q : VK} (h : tD g (bin2 q f1 f2) σ H Q) : tOp (rD g q) (tD g f1) (tD g f2) σ H Q := by
  obtain ⟨de, W, mu, d, mu', hE, S, e, k⟩ := h
  unfold bin2 at e
  obtain ⟨⟨x, m1⟩, e1, e⟩ := Option.bind_eq_some_iff.mp e
  obtain ⟨⟨y, m2⟩, e2, e⟩ := Option.bind_eq_some_iff.mp e
  obtain ⟨d', e3, e⟩ := Option.map_eq_some_iff.mp e
  cases e
  refine ⟨de, W, mu, x, m1, hE, S, e1, fun v H1 W1 x1 S1 r1 => ?_⟩
  refine ⟨de, W1, m1, y, m2, hE.mono x1, S1, e2, fun u H2 W2 x2 S2 r2 => ?_⟩
  exact ⟨W2, m2, x, y, d, S2, r1.mono x2, r2, e3, fun z H' W' x3 S3 r3 => k z H' W' ((x1.trans x2).trans x3) S3 r3⟩
theorem de_op {op : Operator} (ho : OpD X (binaryOp op) q) (ha : DE X a f1) (hb : DE X b f2) : DE X (.BinOp a op b pos) (bin2 q f1 f2) := de_weak (pe_op ho ha hb) fun _ _ _ h => opd_read h
theorem de_cmp {op : CmpOp} (ho : OpD X (compareOp op) q) (ha : DE X a f1) (hb : DE X b f2) (hm : behindInMarks op b = false) : DE X (.Compare a [op] [b] pos) (bin2 q f1 f2) := de_weak (pe_cmpR ho ha hb hm) fun _ _ _ h => opd_read h
end
theorem opd_intro {X : Cx} {f : Value → Value → Sem Value} {q : Mem → D → D → Option D} {r : R2} (h : OpR X f r)
    (w : ∀ (W : Wd) (H : Hp) (mu : Mem) (x y d : D) (v u : V) (Q : VK), SR (gx X) W H mu → Rep X.K W x v → Rep X.K W y u → q mu x y = some d → (∀ z H' W', Ext W W' → SR (gx X) W' H' mu → Rep X.K W' d z → Q z H') → r v u H Q) : OpD X f q :=
  OpR.weak h fun v u H Q ⟨W, mu, x, y, d, S, hx, hy, e, k⟩ => w W H mu x y d v u Q S hx hy e k
theorem opd_or {X : Cx} {f : Value → Value → Sem Value} {q1 q2 : Mem → D → D → Option D} (h1 : OpD X f q1) (h2 : OpD X f q2) : OpD X f (fun mu x y => (q1 mu x y).or (q2 mu x y)) :=
  OpR.weak (OpR.or h1 h2) fun v u H Q ⟨W, mu, x, y, d, S, hx, hy, e, k⟩ => by
    have e : (q1 mu x y).or (q2 mu x y) = some d := e
    cases e1 : q1 mu x y with
    | some d' =>
      rw [e1] at e
      exact .inl ⟨W, mu, x, y, d, S, hx, hy, by rw [e1]; exact e, k⟩
    | none =>
      rw [e1] at e
      exact .inr ⟨W, mu, x, y, d, S, hx, hy, by simpa using e, k⟩

/-- ints in, a value out, under a test -/
def iiQ (c : Int → Int → Bool) (f : Int → Int → D) : Mem → D → D → Option D := fun _ x y => match x, y with
  | .int i, .int j => if c i j then some (f i j) else none
  | _, _ => none
theorem iiQ_inv {c : Int → Int → Bool} {f : Int → Int → D} {mu : Mem} {x y d : D} (e : iiQ c f mu x y = some d) : ∃ i j, x = .int i ∧ y = .int j ∧ c i j = true ∧ d = f i j := by
  unfold iiQ at e
  split at e
  · rename_i i j
    split at e
    · rename_i h
      cases e
      exact ⟨i, j, rfl, rfl, h, rfl⟩
    · cases e
  · cases e
theorem opd_ii {X : Cx} {f : Value → Value → Sem Value} {C : Int → Int → Prop} {c : Int → Int → Bool} {gv : Int → Int → V} {gd : Int → Int → D} (h : OpR X f (rI C gv)) (hc : ∀ i j, c i j = true → C i j) (hr : ∀ B i j, RepP X.K B (gd i j) (gv i j)) : OpD X f (iiQ c gd) :=
  opd_intro h fun W H mu x y d v u Q S hx hy e k => by
    obtain ⟨i, j, rfl, rfl, hcc, rfl⟩ := iiQ_inv e
    exact ⟨i, j, hx.int, hy.int, hc i j hcc, k _ H W (Ext.refl W) S (Rep.of (hr _ i j))⟩
theorem opd_ii0 {X : Cx} {f : Value → Value → Sem Value} {gv : Int → Int → V} {gd : Int → Int → D} (h : OpR X f (rI0 gv)) (hr : ∀ B i j, RepP X.K B (gd i j) (gv i j)) : OpD X f (iiQ (fun _ _ => true) gd) :=
  opd_intro h fun W H mu x y d v u Q S hx hy e k => by
    obtain ⟨i, j, rfl, rfl, hcc, rfl⟩ := iiQ_inv e
    exact ⟨i, j, hx.int, hy.int, k _ H W (Ext.refl W) S (Rep.of (hr _ i j))⟩
def tt2 : Int → Int → Bool := fun _ _ => true
def subQ := iiQ tt2 fun i j => .int (i - j)
def mulQ := iiQ (fun i j => decide ((-18446744073709551616 < i ∧ i < 18446744073709551616) ∨ (-18446744073709551616 < j ∧ j < 18446744073709551616))) fun i j => .int (i * j)
def divQ := iiQ (fun _ j => decide (0 < j ∧ j < 1152921504606846976)) fun i j => .int (i / j)
def modQ := iiQ (fun _ j => decide (0 < j)) fun i j => .int (i % j)
def powQ := iiQ (fun i j => decide (0 ≤ j ∧ j ≤ 1000 ∧ 0 ≤ i ∧ i ≤ 1000)) fun i j => .int (i ^ j.toNat)
def ltQ := iiQ tt2 fun i j => .bl (decide (i < j))
def leQ := iiQ tt2 fun i j => .bl (decide (i ≤ j))
def gtQ := iiQ tt2 fun i j => .bl (decide (j < i))
def geQ := iiQ tt2 fun i j => .bl (decide (j ≤ i))
section
variable {X : Cx}
theorem opd_sub : OpD X (binaryOp .Sub) subQ := opd_ii0 op_sub fun _ _ _ => rp_int
theorem opd_mul : OpD X (binaryOp .Mult) mulQ := opd_ii op_mul (fun i j h => by
  have h' := of_decide_eq_true h
  unfold CMul
  have e : (2 : Int) ^ 64 = 18446744073709551616 := by decide
  rw [e]
  exact h') fun _ _ _ => rp_int
theorem opd_div : OpD X (binaryOp .FloorDiv) divQ := opd_ii op_fdivW (fun i j h => by
  obtain ⟨h1, h2⟩ := of_decide_eq_true h
  exact wide_div (b := 60) h1 (by omega) (by decide) (by decide)) fun _ _ _ => rp_int
theorem opd_mod : OpD X (binaryOp .Mod) modQ := opd_ii op_mod (fun i j h => of_decide_eq_true h) fun _ _ _ => rp_int
theorem opd_pow : OpD X (binaryOp .Pow) powQ := opd_ii op_pow (fun i j h => by
  obtain ⟨h1, h2, h3, h4⟩ := of_decide_eq_true h
  exact ⟨h1, by omega, by omega⟩) fun _ _ _ => rp_int
theorem opd_lt : OpD X (compareOp .Lt) ltQ := opd_ii0 op_lt fun _ _ _ => rp_bl
theorem opd_le : OpD X (compareOp .LtE) leQ := opd_ii0 op_le fun _ _ _ => rp_bl
theorem opd_gt : OpD X (compareOp .Gt) gtQ := opd_ii0 op_gt fun _ _ _ => rp_bl
theorem opd_ge : OpD X (compareOp .GtE) geQ := opd_ii0 op_ge fun _ _ _ => rp_bl
/-- + of ints, texts, tuples -/
def addQ : Mem → D → D → Option D := fun _ x y => match x, y with
  | .int i, .int j => some (.int (i + j))
  | .str a, .str b => if a.length + b.length ≤ 1000 then some (.str (a ++ b)) else none
  | .tup a, .tup b => if a.length + b.length ≤ 1000 then some (.tup (a ++ b)) else none
  | _, _ => none
theorem opd_add : OpD X (binaryOp .Add) addQ := by
  have u := OpR.or (op_add (X := X)) (OpR.or op_add_str op_catA)
  refine opd_intro u fun W H mu x y d v u Q S hx hy e k => ?_
  unfold addQ at e
  split at e
  · cases e
    exact .inl ⟨_, _, hx.int, hy.int, k _ H W (Ext.refl W) S r_int⟩
  · split at e
    · rename_i hl
      cases e
      exact .inr (.inl ⟨_, _, hx.str, hy.str, Nat.le_trans hl (by rw [sizeLine_eq]; decide), k _ H W (Ext.refl W) S r_str⟩)
    · cases e
  · rename_i ds es
    split at e
    · rename_i hl
      cases e
      obtain ⟨p, vs, rfl, h1, h2⟩ := hx.tup
      obtain ⟨p2, us, rfl, h3, h4⟩ := hy.tup
      have l1 := h2.length
      have l2 := h4.length
      refine .inr (.inr ⟨p, p2, vs, us, rfl, rfl, S.seqT h1, S.seqT h3, Nat.le_trans (by omega) (show 1000 ≤ sizeLine by rw [sizeLine_eq]; decide), fun ev => ?_, fun nv eu => ?_, fun nv nu q nq => ?_⟩)
      · subst ev
        have ed : ds = [] := List.length_eq_zero_iff.mp (by simpa using l1)
        subst ed
        exact k _ H W (Ext.refl W) S (by simpa using hy)
      · subst eu
        have ed : es = [] := List.length_eq_zero_iff.mp (by simpa using l2)
        subst ed
        exact k _ H W (Ext.refl W) S (by simpa using hx)
      · obtain ⟨S2, x2⟩ := S.grow (o := .tup (vs ++ us)) nq
        refine k _ _ _ x2 S2 (Rep.of ?_)
        simp only [RepP]
        exact ⟨q, vs ++ us, rfl, .inl (.inl upd_same), RepA.append (h2.mono x2.2) (h4.mono x2.2)⟩
    · cases e
  · cases e
/-- the scalars' == -/
def eqS : D → D → Option Bool
  | .str a, .str b => some (decide (a = b))
  | .int a, .int b => some (decide (a = b))
  | .bl a, .bl b => some (decide (a = b))
  | .non, .non => some true
  | .non, .str _ => some false
  | .non, .int _ => some false
  | .non, .bl _ => some false
  | .str _, .non => some false
  | .int _, .non => some false
  | .bl _, .non => some false
  | .int _, .str _ => some false
  | .str _, .int _ => some false
  | .bl _, .str _ => some false
  | .str _, .bl _ => some false
  | _, _ => none
theorem eqS_ok {K : PySem.W.Frag} {W : Wd} {x y : D} {v u : V} {b : Bool} (hx : Rep K W x v) (hy : Rep K W y u) (e : eqS x y = some b) : scal v u = true ∧ decide (v = u) = b := by
  cases x <;> first
    | (cases e; done)
    | (cases y <;> first
        | (cases e; done)
        | (simp only [Rep, RepP] at hx hy
           subst hx hy
           simp only [eqS, Option.some.injEq] at e
           subst e
           refine ⟨rfl, ?_⟩
           simp))
def eqQ : Mem → D → D → Option D := fun _ x y => (eqS x y).map .bl
def neQ : Mem → D → D → Option D := fun _ x y => (eqS x y).map fun b => .bl (!b)
theorem opd_eq : OpD X (compareOp .Eq) eqQ := opd_intro op_eq fun W H mu x y d v u Q S hx hy e k => by
  obtain ⟨b, e1, e2⟩ := Option.map_eq_some_iff.mp e
  obtain ⟨h1, h2⟩ := eqS_ok hx hy e1
  refine ⟨h1, ?_⟩
  rw [h2]
  subst e2
  exact k _ H W (Ext.refl W) S r_bl
theorem opd_ne : OpD X (compareOp .NotEq) neQ := opd_intro op_ne fun W H mu x y d v u Q S hx hy e k => by
  obtain ⟨b, e1, e2⟩ := Option.map_eq_some_iff.mp e
  obtain ⟨h1, h2⟩ := eqS_ok hx hy e1
  refine ⟨h1, ?_⟩
  rw [h2]
  subst e2
  exact k _ H W (Ext.refl W) S r_bl
mutual
def toPy : D → Option PyData
  | .non => some .none
  | .bl b => some (.bool b)
  | .int i => some (.int i)
  | .str x => some (.str x)
  | .tup ds => (toPys ds).map .tuple
  | .lst ds => (toPys ds).map .list
  | _ => none
def toPys : List D → Option (List PyData)
  | [] => some []
  | d :: ds => match toPy d, toPys ds with
    | some k, some ks => some (k :: ks)
    | _, _ => none
end
mutual
theorem toPy_ok {K : PySem.W.Frag} {B H : Hp} (e : Same B H) : ∀ (d : D) (v : V) (p : PyData), RepP K B d v → toPy d = some p → Dp K H v p
  | .non, _, _, h, q => by simp only [RepP] at h; simp only [toPy] at q; cases q; subst h; exact .non
  | .bl b, _, _, h, q => by simp only [RepP] at h; simp only [toPy] at q; cases q; subst h; exact .bl b
  | .int b, _, _, h, q => by simp only [RepP] at h; simp only [toPy] at q; cases q; subst h; exact .int b
  | .str b, _, _, h, q => by simp only [RepP] at h; simp only [toPy] at q; cases q; subst h; exact .str b
  | .tup ds, _, _, h, q => by
    simp only [RepP] at h
    simp only [toPy] at q
    obtain ⟨ps, q1, q2⟩ := Option.map_eq_some_iff.mp q
    subst q2
    obtain ⟨a, vs, rfl, h1, h2⟩ := h
    exact .tup (sameT e h1) (toPys_ok e ds vs ps h2 q1)
  | .lst ds, _, _, h, q => by
    simp only [RepP] at h
    simp only [toPy] at q
    obtain ⟨ps, q1, q2⟩ := Option.map_eq_some_iff.mp q
    subst q2
    obtain ⟨a, vs, rfl, h1, h2⟩ := h
    exact .lst (Same.seq e h1) (toPys_ok e ds vs ps h2 q1)
  | .ins _ _, _, _, _, q => by simp only [toPy] at q; cases q
  | .loc _, _, _, _, q => by simp only [toPy] at q; cases q
theorem toPys_ok {K : PySem.W.Frag} {B H : Hp} (e : Same B H) : ∀ (ds : List D) (vs : List V) (ps : List PyData), RepA K B ds vs → toPys ds = some ps → DpAll K H vs ps
  | [], _, _, h, q => by simp only [RepA] at h; simp only [toPys] at q; cases q; subst h; exact .nil
  | d :: ds, _, _, h, q => by
    simp only [RepA] at h
    obtain ⟨v, r, rfl, h1, h2⟩ := h
    simp only [toPys] at q
    split at q
    · rename_i k ks hk hks
      cases q
      exact .cons (toPy_ok e d v k h1 hk) (toPys_ok e ds r ks h2 hks)
    · cases q
end
theorem toPy_nomut {d : D} {p : PyData} (h : toPy d = some p) : isMut d = false := by
  cases d with
  | loc k => simp only [toPy] at h; cases h
  | _ => rfl
def eqData (x y : D) : Option Bool := match toPy x, toPy y with
  | some p, some q => if SeqAt.shaped p && SeqAt.shaped q then some (PyData.eqv p q) else none
  | _, _ => none
theorem eqData_ok {K : PySem.W.Frag} {W : Wd} {H : Hp} (hs : Same W.B H) {x y : D} {v u : V} {b : Bool} (hx : Rep K W x v) (hy : Rep K W y u) (e : eqData x y = some b) : ∃ p q, Dp K H v p ∧ Dp K H u q ∧ SeqAt.shaped p = true ∧ SeqAt.shaped q = true ∧ PyData.eqv p q = b := by
  unfold eqData at e
  split at e
  · rename_i p q hp hq
    split at e
    · rename_i h
      cases e
      rw [Bool.and_eq_true] at h
      exact ⟨p, q, toPy_ok hs x v p (hx.pure (toPy_nomut hp)) hp, toPy_ok hs y u q (hy.pure (toPy_nomut hq)) hq, h.1, h.2, rfl⟩
    · cases e
  · cases e
def eqDQ : Mem → D → D → Option D := fun _ x y => (eqData x y).map .bl
def neDQ : Mem → D → D → Option D := fun _ x y => (eqData x y).map fun b => .bl (!b)
theorem opd_eqD (hu : X.A.units + 64 < cLine) : OpD X (compareOp .Eq) eqDQ := opd_intro (op_eqD hu) fun W H mu x y d v u Q S hx hy e k => by
  obtain ⟨b, e1, e2⟩ := Option.map_eq_some_iff.mp e
  obtain ⟨p, q, h1, h2, h3, h4, h5⟩ := eqData_ok S.ext hx hy e1
  refine ⟨p, q, h1, h2, h3, h4, ?_⟩
  rw [h5]
  subst e2
  exact k _ H W (Ext.refl W) S r_bl
theorem opd_neD (hu : X.A.units + 64 < cLine) : OpD X (compareOp .NotEq) neDQ := opd_intro (op_neD hu) fun W H mu x y d v u Q S hx hy e k => by
  obtain ⟨b, e1, e2⟩ := Option.map_eq_some_iff.mp e
  obtain ⟨p, q, h1, h2, h3, h4, h5⟩ := eqData_ok S.ext hx hy e1
  refine ⟨p, q, h1, h2, h3, h4, ?_⟩
  rw [h5]
  subst e2
  exact k _ H W (Ext.refl W) S r_bl
/-- is None; is True -/
def isN : D → Option Bool
  | .non => some true
  | .loc _ => none
  | _ => some false
theorem isN_ok {K : PySem.W.Frag} {W : Wd} {x : D} {v : V} {b : Bool} (hx : Rep K W x v) (e : isN x = some b) : decide (v = .non) = b := by
  cases x with
  | non => cases e; rw [hx.non]; rfl
  | loc k => cases e
  | bl _ => cases e; rw [hx.bl]; rfl
  | int _ => cases e; rw [hx.int]; rfl
  | str _ => cases e; rw [hx.str]; rfl
  | tup _ => cases e; obtain ⟨a, vs, h, _⟩ := hx.tup; rw [h]; rfl
  | lst _ => cases e; obtain ⟨a, vs, h, _⟩ := hx.lst; rw [h]; rfl
  | ins _ _ => cases e; obtain ⟨a, dx, vs, h, _⟩ := hx.ins; rw [h]; rfl
def isNQ : Mem → D → D → Option D := fun _ x y => match y with
  | .non => (isN x).map .bl
  | .bl b => match x with
    | .bl a => some (.bl (decide (a = b)))
    | _ => none
  | _ => none
def isnNQ : Mem → D → D → Option D := fun _ x y => match y with
  | .non => (isN x).map fun b => .bl (!b)
  | .bl b => match x with
    | .bl a => some (.bl (!decide (a = b)))
    | _ => none
  | _ => none
theorem opd_is : OpD X (compareOp .Is) isNQ := opd_intro (OpR.or op_isN op_isBl) fun W H mu x y d v u Q S hx hy e k => by
  unfold isNQ at e
  split at e
  · obtain ⟨b, e1, e2⟩ := Option.map_eq_some_iff.mp e
    refine .inl ⟨hy.non, ?_⟩
    rw [isN_ok hx e1]
    subst e2
    exact k _ H W (Ext.refl W) S r_bl
  · split at e
    · cases e
      exact .inr ⟨_, _, hx.bl, hy.bl, k _ H W (Ext.refl W) S r_bl⟩
    · cases e
  · cases e
theorem opd_isnot : OpD X (compareOp .IsNot) isnNQ := opd_intro (OpR.or op_notN op_notBl) fun W H mu x y d v u Q S hx hy e k => by
  unfold isnNQ at e
  split at e
  · obtain ⟨b, e1, e2⟩ := Option.map_eq_some_iff.mp e
    refine .inl ⟨hy.non, ?_⟩
    rw [isN_ok hx e1]
    subst e2
    exact k _ H W (Ext.refl W) S r_bl
  · split at e
    · cases e
      exact .inr ⟨_, _, hx.bl, hy.bl, k _ H W (Ext.refl W) S r_bl⟩
    · cases e
  · cases e
/-- in, not in: flat items of a list or tuple; one sign of a text -/
def flatD : D → Bool
  | .non => true
  | .bl _ => true
  | .int _ => true
  | .str _ => true
  | _ => false
def eqF : D → D → Bool
  | .non, .non => true
  | .bl a, .bl b => a == b
  | .bl a, .int b => (if a then 1 else 0) == b
  | .int a, .bl b => a == (if b then 1 else 0)
  | .int a, .int b => a == b
  | .str a, .str b => a == b
  | _, _ => false
theorem flat_rep {K : PySem.W.Frag} {B : Hp} {d : D} {v : V} (h : RepP K B d v) (f : flatD d = true) : flatV v = true := by
  cases d <;> first
    | (cases f; done)
    | (simp only [RepP] at h; subst h; rfl)
theorem eqF_rep {K : PySem.W.Frag} {B : Hp} {x y : D} {v u : V} (hx : RepP K B x v) (hy : RepP K B y u) (fx : flatD x = true) (fy : flatD y = true) : eqV v u = eqF x y := by
  cases x <;> first
    | (cases fx; done)
    | (cases y <;> first
        | (cases fy; done)
        | (simp only [RepP] at hx hy; subst hx hy; rfl))
theorem flats_rep {K : PySem.W.Frag} {B : Hp} : ∀ {ds : List D} {vs : List V}, RepA K B ds vs → ds.all flatD = true → vs.all flatV = true
  | [], _, h, _ => by simp only [RepA] at h; subst h; rfl
  | d :: ds, _, h, f => by
    simp only [RepA] at h
    obtain ⟨v, r, rfl, h1, h2⟩ := h
    rw [List.all_cons, Bool.and_eq_true] at f ⊢
    exact ⟨flat_rep h1 f.1, flats_rep h2 f.2⟩
theorem inF_rep {K : PySem.W.Frag} {B : Hp} {x : D} {v : V} (hx : RepP K B x v) (fx : flatD x = true) : ∀ {ds : List D} {vs : List V}, RepA K B ds vs → ds.all flatD = true → inV v vs = ds.any fun y => eqF y x
  | [], _, h, _ => by simp only [RepA] at h; subst h; rfl
  | d :: ds, _, h, f => by
    simp only [RepA] at h
    obtain ⟨u, r, rfl, h1, h2⟩ := h
    rw [List.all_cons, Bool.and_eq_true] at f
    have ih := inF_rep hx fx h2 f.2
    unfold inV at ih ⊢
    rw [List.any_cons, List.any_cons, ih, eqF_rep h1 hx f.1 fx]
def inSeq (mu : Mem) (x y : D) : Option Bool := match itemsOf mu y with
  | some ds => if flatD x && ds.all flatD then some (ds.any fun z => eqF z x) else none
  | none => match x, y with
    | .str a, .str z => match a.cps.toList with
      | [c] => some (decide (c ∈ z.cps.toList))
      | _ => none
    | _, _ => none
def inQ : Mem → D → D → Option D := fun mu x y => (inSeq mu x y).map .bl
def ninQ : Mem → D → D → Option D := fun mu x y => (inSeq mu x y).map fun b => .bl (!b)
theorem inSeq_ok {g : Gx} {W : Wd} {H : Hp} {mu : Mem} (S : SR g W H mu) {x y : D} {v u : V} {b : Bool} (hx : Rep g.K W x v) (hy : Rep g.K W y u) (e : inSeq mu x y = some b) :
    (∃ p xs, u = .ref p ∧ (SqL g.K H p xs ∨ SqT g.K H p xs) ∧ flatV v = true ∧ xs.all flatV = true ∧ inV v xs = b) ∨ ∃ (c : Nat) (z : Str), v = .str ⟨#[c]⟩ ∧ u = .str z ∧ decide (c ∈ z.cps.toList) = b := by
  unfold inSeq at e
  split at e
  · rename_i ds hi
    split at e
    · rename_i hf
      cases e
      rw [Bool.and_eq_true] at hf
      obtain ⟨a, vs, rfl, hs, hr⟩ := items_ok S hy hi
      have nm : isMut x = false := by
        cases x with
        | loc k => exact absurd hf.1 (by simp [flatD])
        | _ => rfl
      have hx' := hx.pure nm
      exact .inl ⟨a, vs, rfl, hs, flat_rep hx' hf.1, flats_rep hr hf.2, inF_rep hx' hf.1 hr hf.2⟩
    · cases e
  · split at e
    · rename_i a z _hn
      split at e
      · rename_i c hc
        cases e
        refine .inr ⟨c, z, ?_, hy.str, rfl⟩
        rw [hx.str]
        have : a = ⟨#[c]⟩ := by
          cases a with
          | mk cps =>
            have : cps = #[c] := Array.toList_inj.mp hc
            rw [this]
        rw [this]
      · cases e
    · cases e
theorem opd_in : OpD X (compareOp .In) inQ := opd_intro (OpR.or op_in_seq op_in_sign) fun W H mu x y d v u Q S hx hy e k => by
  obtain ⟨b, e1, e2⟩ := Option.map_eq_some_iff.mp e
  subst e2
  rcases inSeq_ok S hx hy e1 with ⟨p, xs, rfl, hs, f1, f2, hb⟩ | ⟨c, z, rfl, rfl, hb⟩
  · refine .inl ⟨p, xs, rfl, hs, f1, f2, ?_⟩
    show Q (.bl (inV v xs)) H
    rw [hb]
    exact k _ H W (Ext.refl W) S r_bl
  · refine .inr ⟨c, z, rfl, rfl, ?_⟩
    rw [hb]
    exact k _ H W (Ext.refl W) S r_bl
theorem opd_notin : OpD X (compareOp .NotIn) ninQ := opd_intro (OpR.or op_notIn_seq op_notIn_sign) fun W H mu x y d v u Q S hx hy e k => by
  obtain ⟨b, e1, e2⟩ := Option.map_eq_some_iff.mp e
  subst e2
  rcases inSeq_ok S hx hy e1 with ⟨p, xs, rfl, hs, f1, f2, hb⟩ | ⟨c, z, rfl, rfl, hb⟩
  · refine .inl ⟨p, xs, rfl, hs, f1, f2, ?_⟩
    show Q (.bl (!inV v xs)) H
    rw [hb]
    exact k _ H W (Ext.refl W) S r_bl
  · refine .inr ⟨c, z, rfl, rfl, ?_⟩
    rw [hb]
    exact k _ H W (Ext.refl W) S r_bl
/-- an item -/
def ixQ : Mem → D → D → Option D := fun mu x y => match y with
  | .int i => match itemsOf mu x with
    | some ds => atI ds i
    | none => match x with
      | .str z => if z.length ≤ 1000 then (atI z.cps.toList i).map fun c => .str ⟨#[c]⟩ else none
      | _ => none
  | _ => none
theorem ixd {X : Cx} : IxR X (rD (gx X) ixQ) := fun vl sl pins s σ H xv yv v u Q I rx ry h hsub => by
  obtain ⟨W, mu, x, y, d, S, hx, hy, e, k⟩ := h
  refine ix_seq vl sl pins s σ H xv yv v u Q I rx ry ?_ hsub
  unfold ixQ at e
  split at e
  · rename_i i
    have ey := hy.int
    subst ey
    split at e
    · rename_i ds hi
      obtain ⟨a, vs, rfl, hs, hr⟩ := items_ok S hx hi
      obtain ⟨w, h1, h2⟩ := hr.atI e
      rcases hs with hs | hs
      · exact .inl ⟨a, vs, i, w, rfl, rfl, hs, h1, k _ H W (Ext.refl W) S (Rep.of h2)⟩
      · exact .inr (.inl ⟨a, vs, i, w, rfl, rfl, hs, h1, k _ H W (Ext.refl W) S (Rep.of h2)⟩)
    · split at e
      · rename_i z _hn
        split at e
        · rename_i hl
          obtain ⟨c, e1, e2⟩ := Option.map_eq_some_iff.mp e
          subst e2
          exact .inr (.inr ⟨z, i, c, hx.str, rfl, Nat.le_trans hl (by rw [sizeLine_eq]; decide), e1, k _ H W (Ext.refl W) S r_str⟩)
        · cases e
      · cases e
  · cases e
theorem de_ix {a b : Expr} {pos : Pos} {f1 f2 : SE} (ha : DE X a f1) (hb : DE X b f2) (hs : PlainIx b) : DE X (.Subscript a b pos) (bin2 ixQ f1 f2) := de_weak (pe_ix ixd ha hb hs) fun _ _ _ h => opd_read h
/-- -n -/
def negS (f : SE) : SE := fun de mu => (f de mu).bind fun a => match a.1 with
  | .int i => some (.int (-i), a.2)
  | _ => none
theorem de_neg {a : Expr} {pos : Pos} {f : SE} (ha : DE X a f) : DE X (.UnaryOp .USub a pos) (negS f) := de_weak (pe_un un_neg ha) fun σ H Q h => by
  obtain ⟨de, W, mu, d, mu', hE, S, e, k⟩ := h
  unfold negS at e
  obtain ⟨⟨x, m1⟩, e1, e⟩ := Option.bind_eq_some_iff.mp e
  refine ⟨de, W, mu, x, m1, hE, S, e1, fun v H1 W1 x1 S1 r1 => ?_⟩
  cases x with
  | int i =>
    cases e
    exact ⟨i, r1.int, k _ H1 W1 x1 S1 r_int⟩
  | _ => cases e
end
end Dm
/-! Dm3: tests, displays, arguments, built-in calls by data. -/
namespace Dm
open PySem PySem.Spec PyProof.Rows L2

section
variable {X : Cx} {a b c : Expr} {pos : Pos} {f f1 f2 f3 : SE} {t u : ST}
/-! ### tests -/
theorem dt_weak {e : Expr} {tt : TT} {f : ST} (h : PT X e tt) (w : ∀ σ H Q, tDT (gx X) f σ H Q → tt σ H Q) : DT X e f := PT.weak h w
/-- a value that is True or False -/
def bS (f : SE) : ST := fun de mu => (f de mu).bind fun a => match a.1 with
  | .bl b => some (b, a.2)
  | _ => none
theorem bS_inv {de : Env} {mu mu' : Mem} {b : Bool} (e : bS f de mu = some (b, mu')) : f de mu = some (.bl b, mu') := by
  unfold bS at e
  obtain ⟨⟨x, m1⟩, e1, e⟩ := Option.bind_eq_some_iff.mp e
  cases x with
  | bl k => cases e; exact e1
  | _ => cases e
theorem b_read {g : Gx} {σ : L2.St} {H : Hp} {Q : Bool → Hp → Prop} (h : tDT g (bS f) σ H Q) : tD g f σ H fun x H' => ∃ k, x = .bl k ∧ Q k H' := by
  obtain ⟨de, W, mu, d, mu', hE, S, e, k⟩ := h
  exact ⟨de, W, mu, _, mu', hE, S, bS_inv e, fun v H' W' x S' r => ⟨d, r.bl, k H' W' x S'⟩⟩
theorem dt_cmp {op : CmpOp} {q : Mem → D → D → Option D} (ho : OpD X (compareOp op) q) (ha : DE X a f1) (hb : DE X b f2) (hm : behindInMarks op b = false) : DT X (.Compare a [op] [b] pos) (bS (bin2 q f1 f2)) :=
  dt_weak (pt_cmpR ho ha hb hm) fun σ H Q h => by
    have h2 := b_read h
    exact opd_read h2
def chS (q1 q2 : Mem → D → D → Option D) (f1 f2 f3 : SE) : SE := fun de mu => (f1 de mu).bind fun a => (f2 de a.2).bind fun b => (q1 b.2 a.1 b.1).bind fun d => match d with
  | .bl true => (f3 de b.2).bind fun c => (q2 c.2 b.1 c.1).map fun d => (d, c.2)
  | .bl false => some (.bl false, b.2)
  | _ => none
theorem ch_read {g : Gx} {q1 q2 : Mem → D → D → Option D} {σ : L2.St} {H : Hp} {Q : VK} (h : tD g (chS q1 q2 f1 f2 f3) σ H Q) : tChain (rD g q1) (rD g q2) (tD g f1) (tD g f2) (tD g f3) σ H Q := by
  obtain ⟨de, W, mu, d, mu', hE, S, e, k⟩ := h
  unfold chS at e
  obtain ⟨⟨x, m1⟩, e1, e⟩ := Option.bind_eq_some_iff.mp e
  obtain ⟨⟨y, m2⟩, e2, e⟩ := Option.bind_eq_some_iff.mp e
  obtain ⟨d', e3, e⟩ := Option.bind_eq_some_iff.mp e
  refine ⟨de, W, mu, x, m1, hE, S, e1, fun v H1 W1 x1 S1 r1 => ?_⟩
  refine ⟨de, W1, m1, y, m2, hE.mono x1, S1, e2, fun u H2 W2 x2 S2 r2 => ?_⟩
  refine ⟨W2, m2, x, y, d', S2, r1.mono x2, r2, e3, fun z H3 W3 x3 S3 r3 => ?_⟩
  cases d' with
  | bl kk =>
    refine ⟨kk, r3.bl, ?_⟩
    cases kk with
    | true =>
      obtain ⟨⟨z', m3⟩, e4, e⟩ := Option.bind_eq_some_iff.mp e
      obtain ⟨d2, e5, e⟩ := Option.map_eq_some_iff.mp e
      cases e
      show tD g f3 σ H3 fun z H4 => _
      refine ⟨de, W3, m2, z', m3, hE.mono ((x1.trans x2).trans x3), S3, e4, fun w H4 W4 x4 S4 r4 => ?_⟩
      exact ⟨W4, m3, y, z', d, S4, (r2.mono x3).mono x4, r4, e5, fun z H5 W5 x5 S5 r5 => k z H5 W5 (((x1.trans x2).trans x3).trans (x4.trans x5)) S5 r5⟩
    | false =>
      cases e
      exact k _ H3 W3 ((x1.trans x2).trans x3) S3 r_bl
  | _ => cases e
theorem de_chain {op op' : CmpOp} {q1 q2 : Mem → D → D → Option D} (ho : OpD X (compareOp op) q1) (ho' : OpD X (compareOp op') q2) (ha : DE X a f1) (hb : DE X b f2) (hc : DE X c f3)
    (h : PE X (.Compare a [op, op'] [b, c] pos) (tChain (rD (gx X) q1) (rD (gx X) q2) (tD (gx X) f1) (tD (gx X) f2) (tD (gx X) f3))) : DE X (.Compare a [op, op'] [b, c] pos) (chS q1 q2 f1 f2 f3) := de_weak h fun _ _ _ q => ch_read q
/-- a value's truth -/
def truD (mu : Mem) : D → Option Bool
  | .non => some false
  | .bl b => some b
  | .int i => some (i != 0)
  | .lst ds => some (!ds.isEmpty)
  | .tup ds => some (!ds.isEmpty)
  | _ => none
def trS (f : SE) : ST := fun de mu => (f de mu).bind fun a => (truD a.2 a.1).map fun b => (b, a.2)
theorem RepA.isEmpty {K : PySem.W.Frag} {B : Hp} {ds : List D} {vs : List V} (h : RepA K B ds vs) : ds.isEmpty = vs.isEmpty := by
  have l := h.length
  cases ds <;> cases vs <;> first | rfl | simp at l
theorem dt_truth (ha : DE X a f) (he : ∀ whole, isTrue a X.env whole = (do let v ← whole; standAt a.pos; holding [v] (truthy v))) : DT X a (trS f) := dt_weak (pt_truth ha he) fun σ H Q h => by
  obtain ⟨de, W, mu, d, mu', hE, S, e, k⟩ := h
  unfold trS at e
  obtain ⟨⟨x, m1⟩, e1, e⟩ := Option.bind_eq_some_iff.mp e
  obtain ⟨bb, e2, e⟩ := Option.map_eq_some_iff.mp e
  cases e
  refine ⟨de, W, mu, x, m1, hE, S, e1, fun v H1 W1 x1 S1 r1 => ⟨d, ?_, k H1 W1 x1 S1⟩⟩
  cases x with
  | non => cases e2; rw [r1.non]; rfl
  | bl i => cases e2; rw [r1.bl]; rfl
  | int i => cases e2; rw [r1.int]; rfl
  | lst ds =>
    cases e2
    obtain ⟨p, vs, rfl, h1, h2⟩ := r1.lst
    exact .inl ⟨vs, S1.seqL h1, by rw [h2.isEmpty]⟩
  | tup ds =>
    cases e2
    obtain ⟨p, vs, rfl, h1, h2⟩ := r1.tup
    exact .inr (.inl ⟨vs, S1.seqT h1, by rw [h2.isEmpty]⟩)
  | _ => cases e2
def notT (t : ST) : ST := fun de mu => (t de mu).map fun r => (!r.1, r.2)
theorem dt_not (ha : DT X a t) : DT X (.UnaryOp .Not a pos) (notT t) := dt_weak (pt_not ha) fun σ H Q h => by
  obtain ⟨de, W, mu, d, mu', hE, S, e, k⟩ := h
  obtain ⟨⟨x, m1⟩, e1, e⟩ := Option.map_eq_some_iff.mp e
  cases e
  exact ⟨de, W, mu, x, m1, hE, S, e1, fun H1 W1 x1 S1 => k H1 W1 x1 S1⟩
def andT (t u : ST) : ST := fun de mu => (t de mu).bind fun r => match r.1 with
  | true => u de r.2
  | false => some (false, r.2)
def orT (t u : ST) : ST := fun de mu => (t de mu).bind fun r => match r.1 with
  | true => some (true, r.2)
  | false => u de r.2
variable {rest : List Expr}
theorem dw_and1 (ha : DT X a t) : DW X (.BoolOp .And [a] pos) t := pw_and1 ha
theorem dw_or1 (ha : DT X a t) : DW X (.BoolOp .Or [a] pos) t := pw_or1 ha
theorem dw_and (ha : DT X a t) (hb : DW X (.BoolOp .And (b :: rest) pos) u) : DW X (.BoolOp .And (a :: b :: rest) pos) (andT t u) := PW.weak (pw_and ha hb) fun σ H Q h => by
  obtain ⟨de, W, mu, d, mu', hE, S, e, k⟩ := h
  unfold andT at e
  obtain ⟨⟨x, m1⟩, e1, e⟩ := Option.bind_eq_some_iff.mp e
  refine ⟨de, W, mu, x, m1, hE, S, e1, fun H1 W1 x1 S1 => ?_⟩
  cases x with
  | true => exact ⟨de, W1, m1, d, mu', hE.mono x1, S1, e, fun H2 W2 x2 S2 => k H2 W2 (x1.trans x2) S2⟩
  | false =>
    cases e
    exact k H1 W1 x1 S1
theorem dw_or (ha : DT X a t) (hb : DW X (.BoolOp .Or (b :: rest) pos) u) : DW X (.BoolOp .Or (a :: b :: rest) pos) (orT t u) := PW.weak (pw_or ha hb) fun σ H Q h => by
  obtain ⟨de, W, mu, d, mu', hE, S, e, k⟩ := h
  unfold orT at e
  obtain ⟨⟨x, m1⟩, e1, e⟩ := Option.bind_eq_some_iff.mp e
  refine ⟨de, W, mu, x, m1, hE, S, e1, fun H1 W1 x1 S1 => ?_⟩
  cases x with
  | true =>
    cases e
    exact k H1 W1 x1 S1
  | false => exact ⟨de, W1, m1, d, mu', hE.mono x1, S1, e, fun H2 W2 x2 S2 => k H2 W2 (x1.trans x2) S2⟩
theorem dw_t {e : Expr} (h : DW X e t) : DT X e t := PW.pt h
/-! ### and, or, not as values -/
def andV (f g : SE) : SE := fun de mu => (f de mu).bind fun r => match r.1 with
  | .bl true => g de r.2
  | .bl false => some (.bl false, r.2)
  | _ => none
def orV (f g : SE) : SE := fun de mu => (f de mu).bind fun r => match r.1 with
  | .bl true => some (.bl true, r.2)
  | .bl false => g de r.2
  | _ => none
def notV (f : SE) : SE := fun de mu => (f de mu).bind fun r => match r.1 with
  | .bl b => some (.bl (!b), r.2)
  | _ => none
theorem de_one {op} (h : DE X a f) : DE X (.BoolOp op [a] pos) f := pe_one h
theorem de_and (ha : DE X a f1) (hb : DE X (.BoolOp .And (b :: rest) pos) f2) : DE X (.BoolOp .And (a :: b :: rest) pos) (andV f1 f2) := de_weak (pe_and ha hb) fun σ H Q h => by
  obtain ⟨de, W, mu, d, mu', hE, S, e, k⟩ := h
  unfold andV at e
  obtain ⟨⟨x, m1⟩, e1, e⟩ := Option.bind_eq_some_iff.mp e
  refine ⟨de, W, mu, x, m1, hE, S, e1, fun v H1 W1 x1 S1 r1 => ?_⟩
  cases x with
  | bl kk =>
    refine ⟨kk, r1.bl, ?_⟩
    cases kk with
    | true => exact ⟨de, W1, m1, d, mu', hE.mono x1, S1, e, fun v H2 W2 x2 S2 r2 => k v H2 W2 (x1.trans x2) S2 r2⟩
    | false =>
      cases e
      exact k _ H1 W1 x1 S1 r_bl
  | _ => cases e
theorem de_or (ha : DE X a f1) (hb : DE X (.BoolOp .Or (b :: rest) pos) f2) : DE X (.BoolOp .Or (a :: b :: rest) pos) (orV f1 f2) := de_weak (pe_or ha hb) fun σ H Q h => by
  obtain ⟨de, W, mu, d, mu', hE, S, e, k⟩ := h
  unfold orV at e
  obtain ⟨⟨x, m1⟩, e1, e⟩ := Option.bind_eq_some_iff.mp e
  refine ⟨de, W, mu, x, m1, hE, S, e1, fun v H1 W1 x1 S1 r1 => ?_⟩
  cases x with
  | bl kk =>
    refine ⟨kk, r1.bl, ?_⟩
    cases kk with
    | true =>
      cases e
      exact k _ H1 W1 x1 S1 r_bl
    | false => exact ⟨de, W1, m1, d, mu', hE.mono x1, S1, e, fun v H2 W2 x2 S2 r2 => k v H2 W2 (x1.trans x2) S2 r2⟩
  | _ => cases e
theorem de_not (ha : DE X a f) : DE X (.UnaryOp .Not a pos) (notV f) := de_weak (pe_not ha) fun σ H Q h => by
  obtain ⟨de, W, mu, d, mu', hE, S, e, k⟩ := h
  unfold notV at e
  obtain ⟨⟨x, m1⟩, e1, e⟩ := Option.bind_eq_some_iff.mp e
  refine ⟨de, W, mu, x, m1, hE, S, e1, fun v H1 W1 x1 S1 r1 => ?_⟩
  cases x with
  | bl kk =>
    cases e
    exact ⟨kk, r1.bl, k _ H1 W1 x1 S1 r_bl⟩
  | _ => cases e
def ifS (t : ST) (f g : SE) : SE := fun de mu => (t de mu).bind fun r => match r.1 with
  | true => f de r.2
  | false => g de r.2
theorem de_if (hc : DT X c t) (ha : DE X a f1) (hb : DE X b f2) : DE X (.IfExp c a b pos) (ifS t f1 f2) := de_weak (pe_ifExp hc ha hb) fun σ H Q h => by
  obtain ⟨de, W, mu, d, mu', hE, S, e, k⟩ := h
  unfold ifS at e
  obtain ⟨⟨x, m1⟩, e1, e⟩ := Option.bind_eq_some_iff.mp e
  refine ⟨de, W, mu, x, m1, hE, S, e1, fun H1 W1 x1 S1 => ?_⟩
  cases x with
  | true => exact ⟨de, W1, m1, d, mu', hE.mono x1, S1, e, fun v H2 W2 x2 S2 r2 => k v H2 W2 (x1.trans x2) S2 r2⟩
  | false => exact ⟨de, W1, m1, d, mu', hE.mono x1, S1, e, fun v H2 W2 x2 S2 r2 => k v H2 W2 (x1.trans x2) S2 r2⟩

/-! ### arguments, displays -/
def nilA : SA := fun _ mu => some ([], mu)
def consA (f : SE) (g : SA) : SA := fun de mu => (f de mu).bind fun r => (g de r.2).map fun q => (r.1 :: q.1, q.2)
variable {es : List Expr} {ga : SA}
theorem da_nil : DA X [] nilA := PA.weak pa_nil fun σ H Q h => by
  obtain ⟨de, W, mu, d, mu', hE, S, e, k⟩ := h
  cases e
  exact k [] H W (Ext.refl W) S .nil
theorem da_cons (ha : DE X a f) (hr : DA X es ga) (hs : starEach (a :: es) X.env = (false, eval a X.env) :: starEach es X.env := by rfl) : DA X (a :: es) (consA f ga) := PA.weak (pa_cons ha hr hs) fun σ H Q h => by
  obtain ⟨de, W, mu, d, mu', hE, S, e, k⟩ := h
  unfold consA at e
  obtain ⟨⟨x, m1⟩, e1, e⟩ := Option.bind_eq_some_iff.mp e
  obtain ⟨⟨xs, m2⟩, e2, e⟩ := Option.map_eq_some_iff.mp e
  cases e
  refine ⟨de, W, mu, x, m1, hE, S, e1, fun v H1 W1 x1 S1 r1 => ?_⟩
  exact ⟨de, W1, m1, xs, m2, hE.mono x1, S1, e2, fun vs H2 W2 x2 S2 r2 => k _ H2 W2 (x1.trans x2) S2 (.cons (r1.mono x2) r2)⟩
def okItems (ds : List D) : Bool := ds.all (fun d => !isMut d) && Nat.ble ds.length 1000
theorem okItems_len {ds : List D} (h : okItems ds = true) : ds.length ≤ sizeLine := by
  unfold okItems at h
  rw [Bool.and_eq_true] at h
  have := Nat.le_of_ble_eq_true h.2
  rw [sizeLine_eq]
  omega
theorem RepL.length {K : PySem.W.Frag} {W : Wd} {ds : List D} {vs : List V} (h : RepL K W ds vs) : ds.length = vs.length := Paired.length h
def tupS (g : SA) : SE := fun de mu => (g de mu).bind fun r => if okItems r.1 then some (.tup r.1, r.2) else none
def lstS (g : SA) : SE := fun de mu => (g de mu).bind fun r => if okItems r.1 then some (.lst r.1, r.2) else none
/-- a list that will change -/
def lstM (g : SA) : SE := fun de mu => (g de mu).bind fun r => if okItems r.1 then some (.loc r.2.length, r.2 ++ [.lst r.1]) else none
theorem de_tup {k} (h : DA X es ga) : DE X (.Tuple es k pos) (tupS ga) := de_weak (pe_tup h) fun σ H Q h => by
  obtain ⟨de, W, mu, d, mu', hE, S, e, k⟩ := h
  unfold tupS at e
  obtain ⟨⟨xs, m1⟩, e1, e⟩ := Option.bind_eq_some_iff.mp e
  split at e
  · rename_i ok
    cases e
    refine ⟨de, W, mu, xs, m1, hE, S, e1, fun vs H1 W1 x1 S1 r1 => ⟨by rw [← r1.length]; exact okItems_len ok, fun p np => ?_⟩⟩
    obtain ⟨S2, x2⟩ := S1.grow (o := .tup vs) np
    unfold okItems at ok
    rw [Bool.and_eq_true] at ok
    refine k _ _ _ (x1.trans x2) S2 (Rep.of ?_)
    simp only [RepP]
    exact ⟨p, vs, rfl, .inl (.inl upd_same), (r1.pure ok.1).mono x2.2⟩
  · cases e
theorem de_lst (h : DA X es ga) : DE X (.List es pos) (lstS ga) := de_weak (pe_lst h) fun σ H Q h => by
  obtain ⟨de, W, mu, d, mu', hE, S, e, k⟩ := h
  unfold lstS at e
  obtain ⟨⟨xs, m1⟩, e1, e⟩ := Option.bind_eq_some_iff.mp e
  split at e
  · rename_i ok
    cases e
    refine ⟨de, W, mu, xs, m1, hE, S, e1, fun vs H1 W1 x1 S1 r1 => ⟨by rw [← r1.length]; exact okItems_len ok, fun p np => ?_⟩⟩
    obtain ⟨S2, x2⟩ := S1.grow (o := .lst vs) np
    unfold okItems at ok
    rw [Bool.and_eq_true] at ok
    refine k _ _ _ (x1.trans x2) S2 (Rep.of ?_)
    simp only [RepP]
    exact ⟨p, vs, rfl, .inl (.inl upd_same), (r1.pure ok.1).mono x2.2⟩
  · cases e
theorem de_lstM (h : DA X es ga) : DE X (.List es pos) (lstM ga) := de_weak (pe_lst h) fun σ H Q h => by
  obtain ⟨de, W, mu, d, mu', hE, S, e, k⟩ := h
  unfold lstM at e
  obtain ⟨⟨xs, m1⟩, e1, e⟩ := Option.bind_eq_some_iff.mp e
  split at e
  · rename_i ok
    cases e
    refine ⟨de, W, mu, xs, m1, hE, S, e1, fun vs H1 W1 x1 S1 r1 => ⟨by rw [← r1.length]; exact okItems_len ok, fun p np => ?_⟩⟩
    unfold okItems at ok
    rw [Bool.and_eq_true] at ok
    obtain ⟨S2, x2⟩ := S1.growM (o := .lst vs) (m := .lst xs) np ⟨S1.ext.free np, vs, upd_same, r1.pure ok.1⟩
    refine k _ _ _ (x1.trans x2) S2 ⟨p, ?_, rfl⟩
    show (W1.rho ++ [p])[m1.length]? = some p
    rw [← S1.len]
    simp
  · cases e
/-- {} -/
def dicIM : SE := fun _ mu => some (.loc mu.length, mu ++ [.dicI []])
theorem de_dicI (h : PE X a (fun _ H Q => ∀ p, H p = none → Q (.ref p) (upd H p (.dK [])))) : DE X a dicIM := de_weak h fun σ H Q h p np => by
  obtain ⟨de, W, mu, d, mu', hE, S, e, k⟩ := h
  cases e
  obtain ⟨S2, x2⟩ := S.growM (o := .dK []) (m := .dicI []) np ⟨S.ext.free np, [], upd_same, .nil⟩
  refine k _ _ _ x2 S2 ⟨p, ?_, rfl⟩
  show (W.rho ++ [p])[mu.length]? = some p
  rw [← S.len]
  simp

/-! ### built-in calls by values -/
def callQ (q : Mem → List D → Option D) (g : SA) : SE := fun de mu => (g de mu).bind fun r => (q r.2 r.1).map fun d => (d, r.2)
def rC (g : Gx) (q : Mem → List D → Option D) : List V → Hp → VK → Prop := fun vs H Q => ∃ W mu ds d, SR g W H mu ∧ RepL g.K W ds vs ∧ q mu ds = some d ∧ ∀ z H' W', Ext W W' → SR g W' H' mu → Rep g.K W' d z → Q z H'
def CallD (X : Cx) (f : Value) (q : Mem → List D → Option D) : Prop := CallR X f (rC (gx X) q)
variable {q : Mem → List D → Option D}
theorem c_read {g : Gx} {σ : L2.St} {H : Hp} {Q : VK} (h : tD g (callQ q ga) σ H Q) : tCB (rC g q) (tDA g ga) σ H Q := by
  obtain ⟨de, W, mu, d, mu', hE, S, e, k⟩ := h
  unfold callQ at e
  obtain ⟨⟨xs, m1⟩, e1, e⟩ := Option.bind_eq_some_iff.mp e
  obtain ⟨d', e2, e⟩ := Option.map_eq_some_iff.mp e
  cases e
  exact ⟨de, W, mu, xs, m1, hE, S, e1, fun vs H1 W1 x1 S1 r1 => ⟨W1, m1, xs, d, S1, r1, e2, fun z H2 W2 x2 S2 r2 => k z H2 W2 (x1.trans x2) S2 r2⟩⟩
theorem de_callP (h : PE X a (tCB (rC (gx X) q) (tDA (gx X) ga))) : DE X a (callQ q ga) := de_weak h fun _ _ _ z => c_read z
theorem calld_intro {f : Value} {r : List V → Hp → VK → Prop} (h : CallR X f r)
    (w : ∀ (W : Wd) (H : Hp) (mu : Mem) (ds : List D) (d : D) (vs : List V) (Q : VK), SR (gx X) W H mu → RepL X.K W ds vs → q mu ds = some d → (∀ z H' W', Ext W W' → SR (gx X) W' H' mu → Rep X.K W' d z → Q z H') → r vs H Q) : CallD X f q :=
  fun pins s σ H xs us Q I rx h' => by
    obtain ⟨W, mu, ds, d, S, r1, e, k⟩ := h'
    exact h pins s σ H xs us Q I rx (w W H mu ds d xs Q S r1 e k)
end
theorem RepL.one {K : PySem.W.Frag} {W : Wd} {d : D} {vs : List V} (h : RepL K W [d] vs) : ∃ v, vs = [v] ∧ Rep K W d v := by
  cases h with
  | cons r t => cases t; exact ⟨_, rfl, r⟩
theorem RepL.two {K : PySem.W.Frag} {W : Wd} {d e : D} {vs : List V} (h : RepL K W [d, e] vs) : ∃ v u, vs = [v, u] ∧ Rep K W d v ∧ Rep K W e u := by
  cases h with
  | cons r t =>
    cases t with
    | cons r' t' => cases t'; exact ⟨_, _, rfl, r, r'⟩
def lenQ : Mem → List D → Option D := fun mu ds => match ds with
  | [x] => match itemsOf mu x with
    | some es => some (.int es.length)
    | none => match x with
      | .str z => if z.length ≤ 1000 then some (.int z.length) else none
      | _ => none
  | _ => none
def intQ : Mem → List D → Option D := fun mu ds => match ds with
  | [.int i] => some (.int i)
  | _ => none
def tupQ : Mem → List D → Option D := fun mu ds => match ds with
  | [x] => (itemsOf mu x).map .tup
  | _ => none
def lisQ : Mem → List D → Option D := fun mu ds => match ds with
  | [x] => (itemsOf mu x).map .lst
  | _ => none
def maxQ : Mem → List D → Option D := fun mu ds => match ds with
  | [.int i, .int j] => some (.int (if j > i then j else i))
  | _ => none
def minQ : Mem → List D → Option D := fun mu ds => match ds with
  | [.int i, .int j] => some (.int (if j < i then j else i))
  | _ => none
def boolsOf : List D → Option (List Bool)
  | [] => some []
  | .bl b :: ds => (boolsOf ds).map (b :: ·)
  | _ => none
def allQ : Mem → List D → Option D := fun mu ds => match ds with
  | [.lst es] => (boolsOf es).map fun bs => .bl (bs.all id)
  | _ => none
section
variable {X : Cx}
theorem cd_len : CallD X (.builtin "len") lenQ := calld_intro call_len fun W H mu ds d vs Q S r e k => by
  unfold lenQ at e
  split at e
  · rename_i x
    obtain ⟨v, rfl, rv⟩ := r.one
    split at e
    · rename_i es hi
      cases e
      obtain ⟨a, vs, rfl, hs, hr⟩ := items_ok S rv hi
      refine ⟨_, es.length, rfl, ?_, k _ H W (Ext.refl W) S r_int⟩
      rcases hs with hs | hs
      · exact .inl ⟨_, hs, by rw [hr.length]⟩
      · exact .inr ⟨_, hs, by rw [hr.length]⟩
    · split at e
      · rename_i z _hn
        split at e
        · rename_i hl
          cases e
          exact ⟨_, z.length, rfl, by rw [rv.str]; exact ⟨Nat.le_trans hl (by rw [sizeLine_eq]; decide), rfl⟩, k _ H W (Ext.refl W) S r_int⟩
        · cases e
      · cases e
  · cases e
theorem cd_int : CallD X (.type "int") intQ := calld_intro call_int1 fun W H mu ds d vs Q S r e k => by
  unfold intQ at e
  split at e
  · cases e
    obtain ⟨v, rfl, rv⟩ := r.one
    exact .inl ⟨_, by rw [rv.int], k _ H W (Ext.refl W) S r_int⟩
  · cases e
theorem items_ok2 {g : Gx} {W : Wd} {H : Hp} {mu : Mem} (S : SR g W H mu) {d : D} {v : V} {ds : List D} (r : Rep g.K W d v) (e : itemsOf mu d = some ds) : ∃ a vs, v = .ref a ∧ (SqL g.K H a vs ∨ (d = .tup ds ∧ SqT g.K H a vs)) ∧ RepA g.K W.B ds vs := by
  cases d with
  | tup es =>
    cases e
    obtain ⟨a, vs, h1, h2, h3⟩ := r.tup
    exact ⟨a, vs, h1, .inr ⟨rfl, S.seqT h2⟩, h3⟩
  | lst es =>
    cases e
    obtain ⟨a, vs, h1, h2, h3⟩ := r.lst
    exact ⟨a, vs, h1, .inl (S.seqL h2), h3⟩
  | loc k =>
    have e : (match mu[k]? with
      | some (.lst ds) => some ds
      | _ => none) = some ds := e
    obtain ⟨a, h1, h2⟩ := r.loc
    split at e
    · rename_i es hm
      cases e
      obtain ⟨_, vs, h3, h4⟩ := S.cell k a _ h1 hm
      exact ⟨a, vs, h2, .inl (SqL.of h3), h4⟩
    · cases e
  | _ => cases e
theorem cd_tuple : CallD X (.type "tuple") tupQ := calld_intro call_tuple_of fun W H mu ds d vs Q S r e k => by
  unfold tupQ at e
  split at e
  · rename_i x
    obtain ⟨v, rfl, rv⟩ := r.one
    obtain ⟨es, hi, rfl⟩ := Option.map_eq_some_iff.mp e
    obtain ⟨a, us, rfl, hs, hr⟩ := items_ok2 S rv hi
    refine ⟨a, us, rfl, ?_⟩
    rcases hs with hs | ⟨ex, hs⟩
    · refine .inl ⟨hs, fun l hl => ?_⟩
      obtain ⟨S2, x2⟩ := S.grow (o := .tup us) hl
      refine k _ _ _ x2 S2 (Rep.of ?_)
      simp only [RepP]
      exact ⟨l, us, rfl, .inl (.inl upd_same), hr.mono x2.2⟩
    · subst ex
      exact .inr ⟨hs, k _ H W (Ext.refl W) S rv⟩
  · cases e
theorem cd_list : CallD X (.type "list") lisQ := calld_intro call_list_of fun W H mu ds d vs Q S r e k => by
  unfold lisQ at e
  split at e
  · rename_i x
    obtain ⟨v, rfl, rv⟩ := r.one
    obtain ⟨es, hi, rfl⟩ := Option.map_eq_some_iff.mp e
    obtain ⟨a, us, rfl, hs, hr⟩ := items_ok S rv hi
    refine ⟨a, us, rfl, hs, fun l hl => ?_⟩
    obtain ⟨S2, x2⟩ := S.grow (o := .lst us) hl
    refine k _ _ _ x2 S2 (Rep.of ?_)
    simp only [RepP]
    exact ⟨l, us, rfl, .inl (.inl upd_same), hr.mono x2.2⟩
  · cases e
theorem cd_max (hc : X.calm = true) : CallD X (.builtin "max") maxQ := calld_intro (call_max2 hc) fun W H mu ds d vs Q S r e k => by
  unfold maxQ at e
  split at e
  · rename_i i j
    cases e
    obtain ⟨v, u, rfl, rv, ru⟩ := r.two
    exact ⟨i, j, by rw [rv.int, ru.int], k _ H W (Ext.refl W) S r_int⟩
  · cases e
theorem cd_min (hc : X.calm = true) : CallD X (.builtin "min") minQ := calld_intro (call_min2 hc) fun W H mu ds d vs Q S r e k => by
  unfold minQ at e
  split at e
  · rename_i i j
    cases e
    obtain ⟨v, u, rfl, rv, ru⟩ := r.two
    exact ⟨i, j, by rw [rv.int, ru.int], k _ H W (Ext.refl W) S r_int⟩
  · cases e
theorem bools_rep {K : PySem.W.Frag} {B : Hp} : ∀ {ds : List D} {vs : List V} {bs : List Bool}, RepA K B ds vs → boolsOf ds = some bs → vs = bs.map V.bl
  | [], _, _, h, e => by
    simp only [RepA] at h
    cases e
    exact h
  | .bl b :: ds, _, bs, h, e => by
    simp only [RepA] at h
    obtain ⟨v, r, rfl, h1, h2⟩ := h
    simp only [boolsOf] at e
    obtain ⟨bs', e1, rfl⟩ := Option.map_eq_some_iff.mp e
    simp only [RepP] at h1
    rw [List.map_cons, bools_rep h2 e1, h1]
  | .non :: _, _, _, _, e => by simp only [boolsOf] at e; cases e
  | .int _ :: _, _, _, _, e => by simp only [boolsOf] at e; cases e
  | .str _ :: _, _, _, _, e => by simp only [boolsOf] at e; cases e
  | .tup _ :: _, _, _, _, e => by simp only [boolsOf] at e; cases e
  | .lst _ :: _, _, _, _, e => by simp only [boolsOf] at e; cases e
  | .ins _ _ :: _, _, _, _, e => by simp only [boolsOf] at e; cases e
  | .loc _ :: _, _, _, _, e => by simp only [boolsOf] at e; cases e
theorem cd_all (hc : X.calm = true) : CallD X (.builtin "all") allQ := calld_intro (cr_all hc) fun W H mu ds d vs Q S r e k => by
  unfold allQ at e
  split at e
  · obtain ⟨v, rfl, rv⟩ := r.one
    obtain ⟨bs, e1, rfl⟩ := Option.map_eq_some_iff.mp e
    obtain ⟨a, us, rfl, h1, h2⟩ := rv.lst
    have e2 := bools_rep h2 e1
    subst e2
    exact ⟨a, bs, rfl, S.seqL h1, k _ H W (Ext.refl W) S r_bl⟩
  · cases e

/-! ### isinstance -/
inductive Ty where
  | int | str | bool | tuple | list | own (c : Nat)
def Ty.nm : Ty → String
  | .int => "int" | .str => "str" | .bool => "bool" | .tuple => "tuple" | .list => "list" | .own _ => ""
def isTy : D → Ty → Option Bool
  | .int _, .int => some true | .bl _, .int => some true | .bl _, .bool => some true | .str _, .str => some true | .tup _, .tuple => some true | .lst _, .list => some true
  | .ins c _, .own c' => if c < 6 ∧ c' < 6 then some (decide (c = c')) else none
  | .ins _ _, _ => none
  | .loc _, _ => none
  | _, .own _ => none
  | _, _ => some false
def Ty.v (K : PySem.W.Frag) : Ty → V
  | .own c => .ref (clsA K c)
  | t => .ty t.nm
def Ty.u (K : PySem.W.Frag) : Ty → Value
  | .own c => .ref (clsA K c)
  | t => .type t.nm
theorem Ty.cls (K : PySem.W.Frag) (t : Ty) : ClsV (t.v K) (t.u K) := by cases t <;> first | exact .ty _ | exact .own _
/-- what the top tells of the classes -/
structure ClsAll (K : PySem.W.Frag) : Prop where
  cl : ∀ c, c < 6 → Cls K (clsA K c)
  no : ∀ c, c < 6 → ∀ f ∈ clsF c, NoAttr K (clsA K c) f
  ca : ∀ c, c < 6 → PySem.W.findIn K (.ref (clsA K c)) "__class__" = some (some (.builtin "object.__class__"))
  mo : ∀ c, c < 6 → PySem.W.mroIn K (clsA K c) (.type "object") = some true
  cn : PySem.W.specialIn K (.builtin "object.__class__") "__get__" = some (some (.builtin "getset_descriptor.__get__"))
  ct : PySem.W.takesIn K (.builtin "object.__class__") = some true
  own : ∀ c c' : Nat, c < 6 → c' < 6 → PySem.W.kitOne K (.ref (clsA K c)) (.ref (clsA K c')) = some (decide (c = c'))
def tyD (K : PySem.W.Frag) : D → Value
  | .non => .type "NoneType" | .bl _ => .type "bool" | .int _ => .type "int" | .str _ => .type "str" | .tup _ => .type "tuple" | .lst _ => .type "list" | .ins c _ => .ref (clsA K c) | .loc _ => .none
theorem kit_D {pins : List (Addr × Obj)} {σ : L2.St} {H : Hp} {s : Shared} (I : Inv X pins σ H s) (O : ClsAll X.K) {W : Wd} {mu : Mem} (S : SR (gx X) W H mu) {d : D} {v : V} {u : Value} (r : Rep X.K W d v) (rx : RelV v u) {t : Ty} {b : Bool} (e : isTy d t = some b) :
    ∃ P : Heap → Prop, PySem.W.KitX X.K u (tyD X.K d) P ∧ P s.heap ∧ u ≠ .builtin "__main__.__loader__#opaque" := by
  cases d with
  | non => have e := r.non; subst e; exact kit_of I rx (.base .non)
  | bl b => have e := r.bl; subst e; exact kit_of I rx (.base (.bl b))
  | int i => have e := r.int; subst e; exact kit_of I rx (.base (.int i))
  | str z => have e := r.str; subst e; exact kit_of I rx (.base (.str z))
  | tup ds =>
    obtain ⟨a, vs, rfl, h1, h2⟩ := r.tup
    cases rx
    obtain ⟨its, rv, ⟨o, ho, hc, n, hd⟩, _⟩ := I.tuple (S.seqT h1)
    exact ⟨_, PySem.W.kitx_tuple, ⟨o, ho, hc⟩, fun z => nomatch z⟩
  | lst ds =>
    obtain ⟨a, vs, rfl, h1, h2⟩ := r.lst
    cases rx
    obtain ⟨its, rv, ⟨o, n, ho, hc, _, hd⟩, _⟩ := I.list (S.seqL h1)
    exact ⟨_, PySem.W.kitx_list, ⟨o, ho, hc⟩, fun z => nomatch z⟩
  | ins c ds =>
    obtain ⟨a, dx, vs, rfl, h1, h2⟩ := r.ins
    have hc : c < 6 := by
      cases t <;> first
        | (cases e; done)
        | (rename_i c'
           have e : (if c < 6 ∧ c' < 6 then some (decide (c = c')) else none) = some b := e
           split at e
           · rename_i h; exact h.1
           · cases e)
    exact kit_of I rx (.base (.ins (S.ext _ _ h1) (O.cl c hc) (O.ca c hc) O.cn O.ct (O.mo c hc)))
  | loc k => cases t <;> cases e
theorem kit_pair {K : PySem.W.Frag} (O : ClsAll K) {d : D} {t : Ty} {b : Bool} (e : isTy d t = some b) : PySem.W.kitOne K (tyD K d) (t.u K) = some b := by
  cases d <;> cases t <;> first
    | (cases e; done)
    | (cases e; exact kit_ty (by decide +kernel))
    | (rename_i c _ c'
       have e : (if c < 6 ∧ c' < 6 then some (decide (c = c')) else none) = some b := e
       split at e
       · rename_i h
         cases e
         exact O.own _ _ h.1 h.2
       · cases e)
def isTys (d : D) (t1 t2 : Ty) : Option Bool := match isTy d t1, isTy d t2 with
  | some a, some b => some (a || b)
  | _, _ => none
def rIsiD (g : Gx) (t : Ty) : List V → Hp → VK → Prop := fun xs H Q => ∃ W mu d x b, xs = [x, t.v g.K] ∧ SR g W H mu ∧ Rep g.K W d x ∧ isTy d t = some b ∧ Q (.bl b) H
def rIsiD2 (g : Gx) (t1 t2 : Ty) : List V → Hp → VK → Prop := fun xs H Q => ∃ W mu d x b tp, xs = [x, .ref tp] ∧ H tp = some (.tup [t1.v g.K, t2.v g.K]) ∧ SR g W H mu ∧ Rep g.K W d x ∧ isTys d t1 t2 = some b ∧ Q (.bl b) H
theorem call_isiD (O : ClsAll X.K) (t : Ty) : CallR X (.builtin "isinstance") (rIsiD (gx X) t) := by
  intro pins s σ H xs us Q I r h
  obtain ⟨W, mu, d, x, b, rfl, S, rd, e, q⟩ := h
  obtain ⟨u1, u2, rfl, r1, r2⟩ := vals2 r
  have e2 := (Ty.cls X.K t).eq r2
  subst e2
  obtain ⟨P, Z, p, hx⟩ := kit_D I O S rd r1 e
  exact PySem.W.kia_one Z I.kIn p (kit_pair O e) hx fun tk => ⟨.bl b, H, I.tok tk, rfl, q⟩
theorem call_isiD2 (O : ClsAll X.K) (t1 t2 : Ty) : CallR X (.builtin "isinstance") (rIsiD2 (gx X) t1 t2) := by
  intro pins s σ H xs us Q I r h
  obtain ⟨W, mu, d, x, b, tp, rfl, hT, S, rd, e, q⟩ := h
  obtain ⟨u1, u2, rfl, r1, r2⟩ := vals2 r
  cases (show u2 = Value.ref tp from r2)
  unfold isTys at e
  split at e
  · rename_i a1 a2 h1 h2
    cases e
    obtain ⟨P, Z, p, hx⟩ := kit_D I O S rd r1 h1
    obtain ⟨_, its, rv, o, h3, h4, n, h5⟩ := (show ObjOk X.prog X.w H s.heap tp (.tup [t1.v X.K, t2.v X.K]) from I.hok tp _ hT)
    have e3 := ClsV.all (.cons (Ty.cls X.K t1) (.cons (Ty.cls X.K t2) .nil)) rv
    subst e3
    obtain ⟨oc, od, dt, sl⟩ := o
    simp only at h4 h5
    subst h4 h5
    have k1 := kit_pair O h1
    have k2 := kit_pair O h2
    have ka : PySem.W.kitAny X.K (tyD X.K d) [t1.u X.K, t2.u X.K] = some (a1 || a2) := by
      cases a1 with
      | true => exact kitAny_cons k1 (fun z => by cases z) fun _ => rfl
      | false => exact kitAny_cons k1 (fun _ => by
          cases a2 with
          | true => exact kitAny_cons k2 (fun z => by cases z) fun _ => rfl
          | false => exact kitAny_cons k2 (fun _ => kitAny_nil) fun z => by cases z) fun z => by cases z
    exact PySem.W.kia_tup Z I.kIn p h3 ka hx fun tk => ⟨.bl _, H, I.tok tk, rfl, q⟩
  · cases e
def isiS (t : Ty) (f : SE) : SE := fun de mu => (f de mu).bind fun r => (isTy r.1 t).map fun b => (.bl b, r.2)
def isiS2 (t1 t2 : Ty) (f : SE) : SE := fun de mu => (f de mu).bind fun r => (isTys r.1 t1 t2).map fun b => (.bl b, r.2)
variable {a : Expr} {f : SE}
theorem de_isi {t : Ty} (h : PE X a (tCB (rIsiD (gx X) t) (tCons (tD (gx X) f) (tCons (tC (t.v X.K)) tNil)))) : DE X a (isiS t f) := de_weak h fun σ H Q h => by
  obtain ⟨de, W, mu, d, mu', hE, S, e, k⟩ := h
  unfold isiS at e
  obtain ⟨⟨x, m1⟩, e1, e⟩ := Option.bind_eq_some_iff.mp e
  obtain ⟨b, e2, e⟩ := Option.map_eq_some_iff.mp e
  cases e
  exact ⟨de, W, mu, x, m1, hE, S, e1, fun v H1 W1 x1 S1 r1 => ⟨W1, m1, x, v, b, rfl, S1, r1, e2, k _ H1 W1 x1 S1 r_bl⟩⟩
theorem de_isi2 {t1 t2 : Ty} (h : PE X a (tCB (rIsiD2 (gx X) t1 t2) (tCons (tD (gx X) f) (tCons (tTup (tCons (tC (t1.v X.K)) (tCons (tC (t2.v X.K)) tNil))) tNil)))) : DE X a (isiS2 t1 t2 f) := de_weak h fun σ H Q h => by
  obtain ⟨de, W, mu, d, mu', hE, S, e, k⟩ := h
  unfold isiS2 at e
  obtain ⟨⟨x, m1⟩, e1, e⟩ := Option.bind_eq_some_iff.mp e
  obtain ⟨b, e2, e⟩ := Option.map_eq_some_iff.mp e
  cases e
  refine ⟨de, W, mu, x, m1, hE, S, e1, fun v H1 W1 x1 S1 r1 => ⟨by show 2 ≤ sizeLine; rw [sizeLine_eq]; decide, fun p np => ?_⟩⟩
  obtain ⟨S2, x2⟩ := S1.grow (o := .tup [t1.v X.K, t2.v X.K]) np
  exact ⟨_, m1, x, v, b, p, rfl, upd_same, S2, r1.mono x2, e2, k _ _ _ (x1.trans x2) S2 r_bl⟩

/-! ### attributes -/
def fldIx (c : Nat) (x : Str) : Option Nat := if c < 6 then (clsF c).findIdx? (fun y => decide (y = x)) else none
def fldD (mu : Mem) (x : Str) : D → Option D
  | .ins c ds => (fldIx c x).bind fun i => ds[i]?
  | .loc k => match mu[k]? with
    | some (.ob c fs) => if c < 6 ∧ x ∈ clsF c then fs.lookup x else none
    | _ => none
  | _ => none
def fldS (x : Str) (f : SE) : SE := fun de mu => (f de mu).bind fun r => (fldD r.2 x r.1).map fun d => (d, r.2)
theorem zip_look {x : Str} : ∀ {l : List Str} {vs : List V} {i : Nat}, l.findIdx? (fun y => decide (y = x)) = some i → vs.length = l.length → (l.zip vs).lookup x = vs[i]?
  | [], _, _, h, _ => by simp at h
  | y :: l, [], _, _, hl => by simp at hl
  | y :: l, v :: vs, i, h, hl => by
    rw [List.findIdx?_cons] at h
    by_cases e : y = x
    · subst e
      simp at h
      subst h
      simp [List.zip_cons_cons, List.lookup_cons]
    · have e' : ¬ (decide (y = x)) = true := by simpa using e
      rw [if_neg e'] at h
      obtain ⟨j, h1, rfl⟩ := Option.map_eq_some_iff.mp h
      have ne : (x == y) = false := by simpa using fun z => e z.symm
      rw [List.zip_cons_cons, List.lookup_cons, ne]
      simpa using zip_look h1 (by simpa using hl)
theorem paired_look {g : Gx} {B : Hp} {x : Str} : ∀ {fs : List (Str × D)} {fv : List (Str × V)} {d : D}, Paired (fun (p : Str × D) (q : Str × V) => p.1 = q.1 ∧ RepP g.K B p.2 q.2) fs fv → fs.lookup x = some d → ∃ v, fv.lookup x = some v ∧ RepP g.K B d v
  | [], _, _, _, h => by simp at h
  | p :: fs, _, d, h, e => by
    cases h with
    | @cons _ q _ r h1 h2 =>
      obtain ⟨p1, p2⟩ := p
      obtain ⟨q1, q2⟩ := q
      obtain ⟨e1, e2⟩ := h1
      have e1 : p1 = q1 := e1
      subst e1
      rw [List.lookup_cons] at e ⊢
      cases hx : (x == p1) with
      | true =>
        rw [hx] at e
        have e3 : p2 = d := by simpa using e
        subst e3
        exact ⟨q2, rfl, e2⟩
      | false =>
        rw [hx] at e
        exact paired_look h2 e
theorem fldIx_lt {c : Nat} {x : Str} {i : Nat} (h : fldIx c x = some i) : c < 6 ∧ x ∈ clsF c ∧ (clsF c).findIdx? (fun y => decide (y = x)) = some i := by
  unfold fldIx at h
  split at h
  · rename_i hc
    refine ⟨hc, ?_, h⟩
    obtain ⟨hi, h2, _⟩ := List.findIdx?_eq_some_iff_getElem.mp h
    have e := of_decide_eq_true h2
    rw [← e]
    exact List.getElem_mem hi
  · cases h
theorem de_fld {e : Expr} {x : Str} {pos : Pos} (O : ClsAll X.K) (he : DE X e f) (hb : attributeBase e x X.env (eval e X.env) = eval e X.env) : DE X (.Attribute e x pos) (fldS x f) := de_weak (pe_fld he hb) fun σ H Q h => by
  obtain ⟨de, W, mu, d, mu', hE, S, e, k⟩ := h
  unfold fldS at e
  obtain ⟨⟨y, m1⟩, e1, e⟩ := Option.bind_eq_some_iff.mp e
  obtain ⟨d', e2, e⟩ := Option.map_eq_some_iff.mp e
  cases e
  refine ⟨de, W, mu, y, m1, hE, S, e1, fun v H1 W1 x1 S1 r1 => ?_⟩
  cases y with
  | ins c ds =>
    obtain ⟨a, dx, vs, rfl, h1, h2, h3⟩ := r1.ins
    have e2 : ((fldIx c x).bind fun i => ds[i]?) = some d := e2
    obtain ⟨i, h4, h5⟩ := Option.bind_eq_some_iff.mp e2
    obtain ⟨hc, hm, h6⟩ := fldIx_lt h4
    obtain ⟨w, h7, h8⟩ := h3.get h5
    exact ⟨a, _, dx, _, w, rfl, S1.ext _ _ h1, O.cl c hc, O.no c hc x hm, by rw [zip_look h6 h2]; exact h7, k _ H1 W1 x1 S1 (Rep.of h8)⟩
  | loc j =>
    have e2 : (match m1[j]? with
      | some (.ob c fs) => if c < 6 ∧ x ∈ clsF c then fs.lookup x else none
      | _ => none) = some d := e2
    obtain ⟨a, h1, rfl⟩ := r1.loc
    split at e2
    · rename_i c fs hm
      split at e2
      · rename_i hc
        obtain ⟨_, dx, fv, h3, h4⟩ := S1.cell j a _ h1 hm
        obtain ⟨w, h5, h6⟩ := paired_look h4 e2
        exact ⟨a, _, dx, _, w, rfl, h3, O.cl c hc.1, O.no c hc.1 x hc.2, h5, k _ H1 W1 x1 S1 (Rep.of h6)⟩
      · cases e2
    · cases e2
  | _ => cases e2
end
end Dm
/-! Dm4: slices, targets, statements, loops by data. -/
namespace Dm
open PySem PySem.Spec PyProof.Rows L2

section
variable {X : Cx} {a b c e : Expr} {pos : Pos} {f f1 f2 f3 : SE} {t : ST}
/-! ### t[n:], xs[::-1] -/
def cutS1 (n : Nat) (f : SE) : SE := fun de mu => (f de mu).bind fun r => match r.1 with
  | .tup ds => some (.tup (ds.drop n), r.2)
  | _ => none
theorem cut_drop {α : Type} (n : Nat) (xs : List α) : (xs.drop (min n xs.length)).take (xs.length - min n xs.length) = xs.drop n := by
  by_cases h : n ≤ xs.length
  · rw [Nat.min_eq_left h]
    exact List.take_of_length_le (by rw [List.length_drop]; exact Nat.le_refl _)
  · rw [Nat.min_eq_right (by omega), List.drop_of_length_le (i := n) (by omega)]
    simp
theorem de_cut1 {n : Nat} (h : PE X a (tSl (rSlA X.K) (tD (gx X) f) (tPart (tC (.int (n : Int)))) tNoPart)) : DE X a (cutS1 n f) := de_weak h fun σ H Q h => by
  obtain ⟨de, W, mu, d, mu', hE, S, e, k⟩ := h
  unfold cutS1 at e
  obtain ⟨⟨x, m1⟩, e1, e⟩ := Option.bind_eq_some_iff.mp e
  refine ⟨de, W, mu, x, m1, hE, S, e1, fun v H1 W1 x1 S1 r1 => ⟨(n : Int), rfl, ?_⟩⟩
  cases x with
  | tup ds =>
    cases e
    obtain ⟨p, vs, rfl, h1, h2⟩ := r1.tup
    have hl := h2.length
    refine ⟨p, vs, rfl, S1.seqT h1, fun hw => ?_, fun hw q nq => ?_⟩
    · have z : ds.drop n = ds := by
        have h0 : min n vs.length = 0 := by
          have := hw.1
          rwa [HT.sIx_nat] at this
        by_cases hn : n = 0
        · subst hn; rfl
        · have : vs.length = 0 := by omega
          have : ds.length = 0 := by omega
          rw [List.length_eq_zero_iff.mp this]
          simp
      rw [z] at k
      exact k _ H1 W1 x1 S1 r1
    · obtain ⟨S2, x2⟩ := S1.grow (o := .tup (cutV vs (some (n : Int)) none)) nq
      refine k _ _ _ (x1.trans x2) S2 (Rep.of ?_)
      simp only [RepP]
      refine ⟨q, _, rfl, .inl (.inl upd_same), ?_⟩
      have ec : cutV vs (some (n : Int)) none = vs.drop n := by
        unfold cutV
        rw [HT.sIx_nat, HT.sIx_none, cut_drop]
      have q2 := (h2.mono x2.2).drop n
      rw [← ec] at q2
      exact q2
  | _ => cases e
def revS (f : SE) : SE := fun de mu => (f de mu).bind fun r => match r.1 with
  | .tup ds => none
  | d => (itemsOf r.2 d).map fun ds => (.lst ds.reverse, r.2)
theorem de_rev (h : PE X a (tRevL X.K (tD (gx X) f))) : DE X a (revS f) := de_weak h fun σ H Q h => by
  obtain ⟨de, W, mu, d, mu', hE, S, e, k⟩ := h
  unfold revS at e
  obtain ⟨⟨x, m1⟩, e1, e⟩ := Option.bind_eq_some_iff.mp e
  refine ⟨de, W, mu, x, m1, hE, S, e1, fun v H1 W1 x1 S1 r1 => ?_⟩
  have e' : ∃ ds, itemsOf m1 x = some ds ∧ d = .lst ds.reverse ∧ mu' = m1 ∧ x ≠ .tup ds := by
    cases x <;> first
      | (cases e; done)
      | (obtain ⟨ds, h1, h2⟩ := Option.map_eq_some_iff.mp e
         cases h2
         exact ⟨ds, h1, rfl, rfl, fun z => by cases z⟩)
  obtain ⟨ds, hi, rfl, rfl, nt⟩ := e'
  obtain ⟨p, vs, rfl, hs, hr⟩ := items_ok2 S1 r1 hi
  rcases hs with hs | ⟨z, _⟩
  · refine ⟨p, vs, rfl, hs, fun q nq => ?_⟩
    obtain ⟨S2, x2⟩ := S1.grow (o := .lst vs.reverse) nq
    refine k _ _ _ (x1.trans x2) S2 (Rep.of ?_)
    simp only [RepP]
    exact ⟨q, _, rfl, .inl (.inl upd_same), (hr.mono x2.2).reverse⟩
  · exact absurd z nt

/-! ### targets -/
def nmG (i : Nat) : SG := fun d de => some (de.set i (some d))
theorem dg_name {i : Nat} {x : Str} (h : PG X (.Name x pos) (gName i)) : DG X (.Name x pos) (nmG i) := PG.weak h fun v σ H Q h => by
  obtain ⟨d, de, W, mu, de', r, hE, S, e, k⟩ := h
  cases e
  exact k _ (hE.set i r)
/-- several targets -/
abbrev SGs := List D → Env → Option Env
def nilG : SGs := fun ds de => match ds with
  | [] => some de
  | _ => none
def consG (g : SG) (h : SGs) : SGs := fun ds de => match ds with
  | [] => none
  | d :: r => (g d de).bind fun de' => h r de'
def tDGs (g : Gx) (f : SGs) : TGs := fun vs σ H Q => ∃ ds de W mu de', RepL g.K W ds vs ∧ EnvR g.K W σ de ∧ SR g W H mu ∧ f ds de = some de' ∧ ∀ σ', EnvR g.K W σ' de' → Q σ' H
def DGs (X : Cx) (es : List Expr) (f : SGs) : Prop := PGs X es (tDGs (gx X) f)
theorem PGs.weak {es : List Expr} {t t' : TGs} (h : PGs X es t) (w : ∀ v σ H Q, t' v σ H Q → t v σ H Q) : PGs X es t' := ⟨fun pins s σ H v u Q I r q => h.run pins s σ H v u Q I r (w v σ H Q q)⟩
theorem dgs_nil : DGs X [] nilG := PGs.weak pgs_nil fun vs σ H Q h => by
  obtain ⟨ds, de, W, mu, de', r, hE, S, e, k⟩ := h
  cases r with
  | nil =>
    cases e
    exact ⟨rfl, k σ hE⟩
  | cons _ _ => cases e
variable {es : List Expr} {g : SG} {gs : SGs}
theorem dgs_cons (h1 : DG X e g) (h2 : DGs X es gs) (hs : (assignEach (e :: es) X.env).map (·.2) = assign e X.env :: (assignEach es X.env).map (·.2) := by rfl) : DGs X (e :: es) (consG g gs) := PGs.weak (pgs_cons h1 h2 hs) fun vs σ H Q h => by
  obtain ⟨ds, de, W, mu, de', r, hE, S, e, k⟩ := h
  cases r with
  | nil => cases e
  | @cons d v ds vs r rr =>
    obtain ⟨de1, e1, e2⟩ := Option.bind_eq_some_iff.mp e
    exact ⟨v, vs, rfl, d, de, W, mu, de1, r, hE, S, e1, fun σ1 hE1 => ⟨ds, de1, W, mu, de', rr, hE1, S, e2, k⟩⟩
theorem RepA.repL {K : PySem.W.Frag} {W : Wd} : ∀ {ds : List D} {vs : List V}, RepA K W.B ds vs → RepL K W ds vs
  | [], _, h => by simp only [RepA] at h; subst h; exact .nil
  | d :: ds, _, h => by
    simp only [RepA] at h
    obtain ⟨v, r, rfl, h1, h2⟩ := h
    exact .cons (Rep.of h1) (RepA.repL h2)
/-- (a, b, ..) = a tuple | a list of n items -/
def tupG (n : Nat) (gs : SGs) : SG := fun d de => match d with
  | .tup ds => if ds.length = n then gs ds de else none
  | _ => none
def unlG (n : Nat) (gs : SGs) : SG := fun d de => match d with
  | .lst ds => if ds.length = n then gs ds de else none
  | _ => none
theorem dg_tup {n : Nat} {tg : Expr} (h : PG X tg (gTup X.K n (tDGs (gx X) gs))) : DG X tg (tupG n gs) := PG.weak h fun v σ H Q h => by
  obtain ⟨d, de, W, mu, de', r, hE, S, e, k⟩ := h
  cases d with
  | tup ds =>
    have e : (if ds.length = n then gs ds de else none) = some de' := e
    split at e
    · rename_i hl
      obtain ⟨p, vs, rfl, h1, h2⟩ := r.tup
      exact ⟨p, vs, rfl, S.seqT h1, by rw [← h2.length]; exact hl, ds, de, W, mu, de', h2.repL, hE, S, e, k⟩
    · cases e
  | _ => cases e
theorem dg_unl {n : Nat} {tg : Expr} (h : PG X tg (gUnl X.K n (tDGs (gx X) gs))) : DG X tg (unlG n gs) := PG.weak h fun v σ H Q h => by
  obtain ⟨d, de, W, mu, de', r, hE, S, e, k⟩ := h
  cases d with
  | lst ds =>
    have e : (if ds.length = n then gs ds de else none) = some de' := e
    split at e
    · rename_i hl
      obtain ⟨p, vs, rfl, h1, h2⟩ := r.lst
      exact ⟨p, vs, rfl, S.seqL h1, by rw [← h2.length]; exact hl, ds, de, W, mu, de', h2.repL, hE, S, e, k⟩
    · cases e
  | _ => cases e

/-! ### statements -/
variable {st : Stmt} {sts : List Stmt} {s1 s2 : SS}
theorem ds_weak {tt : TS} {f : SS} (h : PS X st tt) (w : ∀ D σ H, tDS (gx X) f D σ H → tt D σ H) : DS X st f := PS.weak h w
def nxS : SS := fun de mu => some (.nx, de, mu)
def seqS (f g : SS) : SS := fun de mu => (f de mu).bind fun r => match r.1 with
  | .nx => g r.2.1 r.2.2
  | o => some (o, r.2.1, r.2.2)
theorem dss_nil : DSs X [] nxS := PSs.weak pss_nil fun E σ H h => by
  obtain ⟨de, W, mu, o, de', mu', hE, S, e, k⟩ := h
  cases e
  exact k σ H W (Ext.refl W) S hE
theorem endsAs_of {gg : Gx} {E E' : Ends} {W : Wd} {σ : L2.St} {H : Hp} {o : Out} (h : endsAs gg E W σ H o) (h1 : o ≠ .nx) (e2 : E'.rt = E.rt) (e3 : E'.bk = E.bk) (e4 : E'.ct = E.ct) : endsAs gg E' W σ H o := by
  cases o with
  | nx => exact absurd rfl h1
  | bk =>
    show E'.bk σ H
    rw [e3]; exact h
  | ct =>
    show E'.ct σ H
    rw [e4]; exact h
  | rt d =>
    show ∀ v, Rep gg.K W d v → E'.rt v H
    rw [e2]; exact h
theorem endsAs_ext {gg : Gx} {E : Ends} {W W' : Wd} {σ : L2.St} {H : Hp} {o : Out} (h : endsAs gg E W' σ H o) (hW : W = W') : endsAs gg E W σ H o := by rw [hW]; exact h
theorem dss_cons (h1 : DS X st s1) (h2 : DSs X sts s2) : DSs X (st :: sts) (seqS s1 s2) := PSs.weak (pss_cons h1 h2) fun E σ H h => by
  obtain ⟨de, W, mu, o, de', mu', hE, S, e, k⟩ := h
  unfold seqS at e
  obtain ⟨⟨o1, de1, m1⟩, e1, e⟩ := Option.bind_eq_some_iff.mp e
  refine ⟨de, W, mu, o1, de1, m1, hE, S, e1, fun σ1 H1 W1 x1 S1 hE1 => ?_⟩
  cases o1 with
  | nx => exact ⟨de1, W1, m1, o, de', mu', hE1, S1, e, fun σ2 H2 W2 x2 S2 hE2 => k σ2 H2 W2 (x1.trans x2) S2 hE2⟩
  | bk => cases e; exact endsAs_of (k σ1 H1 W1 x1 S1 hE1) (fun z => by cases z) rfl rfl rfl
  | ct => cases e; exact endsAs_of (k σ1 H1 W1 x1 S1 hE1) (fun z => by cases z) rfl rfl rfl
  | rt d => cases e; exact endsAs_of (k σ1 H1 W1 x1 S1 hE1) (fun z => by cases z) rfl rfl rfl
theorem dss_one (h1 : DS X st s1) : DSs X [st] s1 := pss_one h1
def nevSS : SS := fun _ _ => none
theorem ds_nev : DS X st nevSS := ds_weak ps_never fun E σ H h => by
  obtain ⟨de, W, mu, o, de', mu', hE, S, e, k⟩ := h
  cases e
theorem dss_nev : DSs X sts nevSS := PSs.weak pss_never fun E σ H h => by
  obtain ⟨de, W, mu, o, de', mu', hE, S, e, k⟩ := h
  cases e
def bkS : SS := fun de mu => some (.bk, de, mu)
theorem ds_break : DS X (.Break pos) bkS := ds_weak ps_break fun E σ H h => by
  obtain ⟨de, W, mu, o, de', mu', hE, S, e, k⟩ := h
  cases e
  exact k σ H W (Ext.refl W) S hE
def retS (f : SE) : SS := fun de mu => (f de mu).map fun r => (.rt r.1, de, r.2)
theorem ds_ret (h : DE X e f) : DS X (.Return (some e) pos) (retS f) := ds_weak (ps_ret h) fun E σ H h => by
  obtain ⟨de, W, mu, o, de', mu', hE, S, e, k⟩ := h
  obtain ⟨⟨x, m1⟩, e1, e⟩ := Option.map_eq_some_iff.mp e
  cases e
  exact ⟨de, W, mu, x, m1, hE, S, e1, fun v H1 W1 x1 S1 r1 => k σ H1 W1 x1 S1 (hE.mono x1) v r1⟩
def asgS (f : SE) (g : SG) : SS := fun de mu => (f de mu).bind fun r => (g r.1 de).map fun de' => (.nx, de', r.2)
theorem asg_read {gg : Gx} {E : Ends} {σ : L2.St} {H : Hp} (h : tDS gg (asgS f g) E σ H) : tAsg (tD gg f) (tDG gg g) E σ H := by
  obtain ⟨de, W, mu, o, de', mu', hE, S, e, k⟩ := h
  unfold asgS at e
  obtain ⟨⟨x, m1⟩, e1, e⟩ := Option.bind_eq_some_iff.mp e
  obtain ⟨de1, e2, e⟩ := Option.map_eq_some_iff.mp e
  cases e
  exact ⟨de, W, mu, x, m1, hE, S, e1, fun v H1 W1 x1 S1 r1 => ⟨x, de, W1, m1, de', r1, hE.mono x1, S1, e2, fun σ' hE' => k σ' H1 W1 x1 S1 hE'⟩⟩
theorem ds_asg {tg : Expr} (he : DE X e f) (hg : DG X tg g) (hs : swapsWithSole [tg] e pos.line X.env = pure false := by rfl) (hw : swappedStores [tg] e X.env = pure none := by rfl)
    (h1 : (assignEach [tg] X.env).map (·.2) = [assign tg X.env] := by rfl) : DS X (.Assign [tg] e pos) (asgS f g) := ds_weak (ps_asg he hg hs hw h1) fun _ _ _ h => asg_read h
def setS (i : Nat) (f : SE) : SS := asgS f (nmG i)
theorem ds_set {i : Nat} {x : Str} {pos' : Pos} (h : PS X (.Assign [.Name x pos'] e pos) (tAsg (tD (gx X) f) (gName i))) : DS X (.Assign [.Name x pos'] e pos) (setS i f) := ds_weak h fun E σ H h => by
  have q := asg_read h
  obtain ⟨de, W, mu, x, m1, hE, S, e1, k⟩ := q
  refine ⟨de, W, mu, x, m1, hE, S, e1, fun v H1 W1 x1 S1 r1 => ?_⟩
  obtain ⟨d, de2, W2, mu2, de', r, hE2, S2, e, k2⟩ := k v H1 W1 x1 S1 r1
  cases e
  exact k2 _ (hE2.set i r)
def dropS (f : SE) : SS := fun de mu => (f de mu).map fun r => (.nx, de, r.2)
theorem ds_expr (he : DE X e f) (hs : swapsWith e none pos.line X.env = pure false := by rfl) : DS X (.Expr e pos) (dropS f) := ds_weak (ps_expr he hs) fun E σ H h => by
  obtain ⟨de, W, mu, o, de', mu', hE, S, e, k⟩ := h
  obtain ⟨⟨x, m1⟩, e1, e⟩ := Option.map_eq_some_iff.mp e
  cases e
  exact ⟨de, W, mu, x, m1, hE, S, e1, fun v H1 W1 x1 S1 r1 => k σ H1 W1 x1 S1 (hE.mono x1)⟩
def iffS (t : ST) (f g : SS) : SS := fun de mu => (t de mu).bind fun r => match r.1 with
  | true => f de r.2
  | false => g de r.2
theorem ds_if {x y : List Stmt} (hc : DT X c t) (ha : DSs X x s1) (hb : DSs X y s2) : DS X (.If c x y pos) (iffS t s1 s2) := ds_weak (ps_if hc ha hb) fun E σ H h => by
  obtain ⟨de, W, mu, o, de', mu', hE, S, e, k⟩ := h
  unfold iffS at e
  obtain ⟨⟨x, m1⟩, e1, e⟩ := Option.bind_eq_some_iff.mp e
  refine ⟨de, W, mu, x, m1, hE, S, e1, fun H1 W1 x1 S1 => ?_⟩
  cases x with
  | true => exact ⟨de, W1, m1, o, de', mu', hE.mono x1, S1, e, fun σ2 H2 W2 x2 S2 hE2 => k σ2 H2 W2 (x1.trans x2) S2 hE2⟩
  | false => exact ⟨de, W1, m1, o, de', mu', hE.mono x1, S1, e, fun σ2 H2 W2 x2 S2 hE2 => k σ2 H2 W2 (x1.trans x2) S2 hE2⟩
/-- n += e, ints -/
def augS (i : Nat) (f : SE) : SS := fun de mu => match de[i]? with
  | some (some (.int a)) => (f de mu).bind fun r => match r.1 with
    | .int b => some (.nx, de.set i (some (.int (a + b))), r.2)
    | _ => none
  | _ => none
theorem ds_aug {i : Nat} (h : PS X st (tAug i (tD (gx X) f) (ipI fun i j => i + j))) : DS X st (augS i f) := ds_weak h fun E σ H h => by
  obtain ⟨de, W, mu, o, de', mu', hE, S, e, k⟩ := h
  unfold augS at e
  split at e
  · rename_i n hd
    obtain ⟨⟨x, m1⟩, e1, e⟩ := Option.bind_eq_some_iff.mp e
    obtain ⟨v, h1, h2⟩ := hE.at_ i _ hd
    refine ⟨v, h1, de, W, mu, x, m1, hE, S, e1, fun u H1 W1 x1 S1 r1 => ?_⟩
    cases x with
    | int j =>
      cases e
      exact ⟨n, j, h2.int, r1.int, k _ H1 W1 x1 S1 ((hE.mono x1).set i r_int)⟩
    | _ => cases e
  · cases e

/-! ### stores to mutable objects -/
/-- xs[i] = e -/
def stoS (fo fi fv : SE) : SS := fun de mu => (fv de mu).bind fun v => (fo de v.2).bind fun o => (fi de o.2).bind fun i => match o.1, i.1 with
  | .loc k, .int n => match i.2[k]? with
    | some (.lst ds) => (ixN ds.length n).bind fun j => if isMut v.1 then none else some (.nx, de, i.2.set k (.lst (ds.set j v.1)))
    | _ => none
  | _, _ => none
theorem ds_sto (h : PS X st (tAsg (tD (gx X) f3) (gSub (tD (gx X) f1) (tD (gx X) f2) rSetL))) : DS X st (stoS f1 f2 f3) := ds_weak h fun E σ H h => by
  obtain ⟨de, W, mu, o, de', mu', hE, S, e, k⟩ := h
  unfold stoS at e
  obtain ⟨⟨dv, m1⟩, e1, e⟩ := Option.bind_eq_some_iff.mp e
  obtain ⟨⟨do_, m2⟩, e2, e⟩ := Option.bind_eq_some_iff.mp e
  obtain ⟨⟨di, m3⟩, e3, e⟩ := Option.bind_eq_some_iff.mp e
  refine ⟨de, W, mu, dv, m1, hE, S, e1, fun v H1 W1 x1 S1 r1 => ?_⟩
  refine ⟨de, W1, m1, do_, m2, hE.mono x1, S1, e2, fun o H2 W2 x2 S2 r2 => ?_⟩
  refine ⟨de, W2, m2, di, m3, hE.mono (x1.trans x2), S2, e3, fun i H3 W3 x3 S3 r3 => ?_⟩
  cases do_ with
  | loc kk =>
    cases di with
    | int n =>
      have e : (match m3[kk]? with
        | some (.lst ds) => (ixN ds.length n).bind fun j => if isMut dv then none else some (Out.nx, de, m3.set kk (.lst (ds.set j dv)))
        | _ => none) = some (_, _, _) := e
      split at e
      · rename_i ds hm
        obtain ⟨j, e4, e⟩ := Option.bind_eq_some_iff.mp e
        split at e
        · cases e
        · rename_i nm
          cases e
          obtain ⟨a, h1, h2⟩ := (r2.mono x3).loc
          obtain ⟨hB, vs, h3, h4⟩ := S3.cell kk a _ h1 hm
          have rv := ((r1.mono x2).mono x3).pure (by simpa using nm)
          have S4 := S3.write (o := .lst (vs.set j v)) (m' := .lst (ds.set j dv)) h1 hm hB ⟨hB, _, upd_same, h4.set j rv⟩
          exact ⟨a, vs, n, j, h2, r3.int, h3, by rw [← h4.length]; exact e4, k σ _ W3 ((x1.trans x2).trans x3) S4 (hE.mono ((x1.trans x2).trans x3))⟩
      · cases e
    | _ => cases e
  | _ => cases e
/-- xs.append(e) -/
def appS (fo fv : SE) : SE := fun de mu => (fo de mu).bind fun o => (fv de o.2).bind fun v => match o.1 with
  | .loc k => match o.2[k]?, v.2[k]? with
    | some (.lst _), some (.lst ds) => if isMut v.1 || Nat.ble 100000 ds.length then none else some (.non, v.2.set k (.lst (ds ++ [v.1])))
    | _, _ => none
  | _ => none
theorem de_app (h : PE X a (tBM X.K "list" rAppend (tD (gx X) f1) (tCons (tD (gx X) f2) tNil))) : DE X a (appS f1 f2) := de_weak h fun σ H Q h => by
  obtain ⟨de, W, mu, d, mu', hE, S, e, k⟩ := h
  unfold appS at e
  obtain ⟨⟨do_, m1⟩, e1, e⟩ := Option.bind_eq_some_iff.mp e
  obtain ⟨⟨dv, m2⟩, e2, e⟩ := Option.bind_eq_some_iff.mp e
  refine ⟨de, W, mu, do_, m1, hE, S, e1, fun o H1 W1 x1 S1 r1 => ?_⟩
  cases do_ with
  | loc kk =>
    have e : (match m1[kk]?, m2[kk]? with
      | some (.lst _), some (.lst ds) => if isMut dv || Nat.ble 100000 ds.length then none else some (D.non, m2.set kk (.lst (ds ++ [dv])))
      | _, _ => none) = some (_, _) := e
    obtain ⟨a, h1, rfl⟩ := r1.loc
    split at e
    · rename_i es ds hm0 hm
      split at e
      · cases e
      · rename_i nm
        cases e
        have nm' : isMut dv = false ∧ ¬ 100000 ≤ ds.length := by
          rw [Bool.not_eq_true, Bool.or_eq_false_iff] at nm
          exact ⟨nm.1, fun h => by
            have := Nat.ble_eq_true_of_le h
            rw [nm.2] at this
            cases this⟩
        refine ⟨?_, de, W1, m1, dv, m2, hE.mono x1, S1, e2, fun v H2 W2 x2 S2 r2 => ?_⟩
        · obtain ⟨_, vs, h3, _⟩ := S1.cell kk a _ h1 hm0
          exact .inl ⟨rfl, _, SqL.of h3⟩
        · obtain ⟨hB, vs, h3, h4⟩ := S2.cell kk a _ (x2.at h1) hm
          have rv := r2.pure nm'.1
          have S3 := S2.write (o := .lst (vs ++ [v])) (m' := .lst (ds ++ [dv])) (x2.at h1) hm hB ⟨hB, _, upd_same, h4.append (RepA.cons rv RepA.nil)⟩
          exact ⟨a, vs, v, rfl, rfl, h3, by rw [← h4.length, sizeLine_eq]; omega, k _ _ W2 (x1.trans x2) S3 r_non⟩
    · cases e
  | _ => cases e
/-- self.x = e, self being made -/
def putD (x : Str) (d : D) : List (Str × D) → List (Str × D)
  | [] => [(x, d)]
  | (y, c) :: r => if y = x then (y, d) :: r else (y, c) :: putD x d r
def atrS (x : Str) (fo fv : SE) : SS := fun de mu => (fv de mu).bind fun v => (fo de v.2).bind fun o => match o.1 with
  | .loc k => match o.2[k]? with
    | some (.ob c fs) => if c < 6 ∧ x ∈ clsF c ∧ isMut v.1 = false ∧ fs.length < 100 then some (.nx, de, o.2.set k (.ob c (putD x v.1 fs))) else none
    | _ => none
  | _ => none
theorem putD_rep {g : Gx} {B : Hp} {x : Str} {d : D} {v : V} (r : RepP g.K B d v) : ∀ {fs : List (Str × D)} {fv : List (Str × V)}, Paired (fun (p : Str × D) (q : Str × V) => p.1 = q.1 ∧ RepP g.K B p.2 q.2) fs fv →
    Paired (fun (p : Str × D) (q : Str × V) => p.1 = q.1 ∧ RepP g.K B p.2 q.2) (putD x d fs) (putF x v fv)
  | [], _, h => by cases h; exact .cons ⟨rfl, r⟩ .nil
  | (y, c) :: fs, _, h => by
    cases h with
    | @cons _ q _ rr h1 h2 =>
      obtain ⟨q1, q2⟩ := q
      obtain ⟨e1, e2⟩ := h1
      have e1 : y = q1 := e1
      subst e1
      show Paired _ (if y = x then (y, d) :: fs else (y, c) :: putD x d fs) (if y = x then (y, v) :: rr else (y, q2) :: putF x v rr)
      by_cases hy : y = x
      · rw [if_pos hy, if_pos hy]
        exact .cons ⟨rfl, r⟩ h2
      · rw [if_neg hy, if_neg hy]
        exact .cons ⟨rfl, e2⟩ (putD_rep r h2)
theorem ds_atr {x : Str} (O : ClsAll X.K) (h : PS X st (sFld X.K (tD (gx X) f1) (tD (gx X) f2) x)) : DS X st (atrS x f1 f2) := ds_weak h fun E σ H h => by
  obtain ⟨de, W, mu, o, de', mu', hE, S, e, k⟩ := h
  unfold atrS at e
  obtain ⟨⟨dv, m1⟩, e1, e⟩ := Option.bind_eq_some_iff.mp e
  obtain ⟨⟨do_, m2⟩, e2, e⟩ := Option.bind_eq_some_iff.mp e
  refine ⟨de, W, mu, dv, m1, hE, S, e1, fun v H1 W1 x1 S1 r1 => ?_⟩
  refine ⟨de, W1, m1, do_, m2, hE.mono x1, S1, e2, fun o H2 W2 x2 S2 r2 => ?_⟩
  cases do_ with
  | loc kk =>
    have e : (match m2[kk]? with
      | some (.ob c fs) => if c < 6 ∧ x ∈ clsF c ∧ isMut dv = false ∧ fs.length < 100 then some (Out.nx, de, m2.set kk (.ob c (putD x dv fs))) else none
      | _ => none) = some (_, _, _) := e
    obtain ⟨a, h1, rfl⟩ := r2.loc
    split at e
    · rename_i c fs hm
      split at e
      · rename_i hc
        cases e
        obtain ⟨hB, dx, fv, h3, h4⟩ := S2.cell kk a _ h1 hm
        have rv := (r1.mono x2).pure hc.2.2.1
        have hl : fv.length < 1000 := by
          have := Paired.length h4
          omega
        have S3 := S2.write (o := .ins (clsA X.K c) dx (putF x v fv)) (m' := .ob c (putD x dv fs)) h1 hm hB ⟨hB, dx, _, upd_same, putD_rep (g := gx X) rv h4⟩
        exact ⟨a, _, dx, fv, rfl, h3, O.cl c hc.1, O.no c hc.1 x hc.2.1, hl, k σ _ W2 (x1.trans x2) S3 (hE.mono (x1.trans x2))⟩
      · cases e
    · cases e
  | _ => cases e
/-- a list that will not change any more -/
def frzS (f : SE) : SE := fun de mu => (f de mu).bind fun r => match r.1 with
  | .loc k => match r.2[k]? with
    | some (.lst ds) => some (.lst ds, r.2.set k .gone)
    | _ => none
  | _ => none
theorem de_frz (h : DE X a f) : DE X a (frzS f) := de_weak h fun σ H Q h => by
  obtain ⟨de, W, mu, d, mu', hE, S, e, k⟩ := h
  unfold frzS at e
  obtain ⟨⟨x, m1⟩, e1, e⟩ := Option.bind_eq_some_iff.mp e
  refine ⟨de, W, mu, x, m1, hE, S, e1, fun v H1 W1 x1 S1 r1 => ?_⟩
  cases x with
  | loc kk =>
    have e : (match m1[kk]? with
      | some (.lst ds) => some (D.lst ds, m1.set kk .gone)
      | _ => none) = some (_, _) := e
    obtain ⟨p, h1, rfl⟩ := r1.loc
    split at e
    · rename_i ds hm
      cases e
      obtain ⟨hB, vs, h3, h4⟩ := S1.cell kk p _ h1 hm
      obtain ⟨S2, x2⟩ := S1.freeze h1 hm hB h3
      refine k _ _ _ (x1.trans x2) S2 (Rep.of ?_)
      simp only [RepP]
      exact ⟨p, vs, rfl, .inl (.inl upd_same), h4.mono x2.2⟩
    · cases e
  | _ => cases e
end
end Dm
/-! Dm5a: enumerate of a tuple. -/
namespace Dm
open PySem PySem.Spec PyProof.Rows L2
open AutoSeq1 (wpAny_loadPart')
theorem meets_enumT (l : Addr) (items : Array Value) (n : Nat) (dct : Option Addr) (sl : Array (Option Value)) :
    Meets (Builtin.«enumerate.__new__» ⟨[.type "enumerate", .ref l], []⟩) (fun _ R s => s.heap.get? l = some { cls := .type "tuple", dict := dct, data := .seq items n, slots := sl } ∧
      R (.ok (.ret (.ref (s.heap.push { cls := .type "tuple_iterator", data := .fields #[.ref l, .int 0 0] }).objs.size)))
        { s with heap := (s.heap.push { cls := .type "tuple_iterator", data := .fields #[.ref l, .int 0 0] }).push { cls := .type "enumerate", data := .fields #[.none, .bool false, .ref s.heap.objs.size, rawInt 0, .none, .none] } }) :=
  .of_wp fun prog w A R s h => by
    obtain ⟨hp, g, d, tk, os⟩ := s; obtain ⟨hl, h⟩ := h
    have hsub := sub_enumerate
    have hL : Heap.IsTuple (Shared.heap ⟨hp, g, d, tk, os⟩) l items := ⟨_, hl, rfl, n, rfl⟩
    wp_walk using wpAny_loadPart' hl
    refine wpAny_stack_any fun st => wpAny_pure ?_
    split
    · rename_i c _ _ _ _ _
      cases (c == Value.type "enumerate")
      · wp_walk using wpAny_loadPart' hl, wpAny_pyIter_tuple hL
        exact ⟨_, rfl, h⟩
      · wp_walk using wpAny_loadPart' hl, wpAny_pyIter_tuple hL
        exact ⟨_, rfl, h⟩
    · wp_walk using wpAny_loadPart' hl, wpAny_pyIter_tuple hL
      exact ⟨_, rfl, h⟩
section
variable {prog : Program} {w : World} {A : Around} {E : Value → Shared → Prop} {s : Shared}
theorem call_enumT {l : Addr} {items : Array Value} {Q : Value → Shared → Prop} (hL : s.heap.IsTuple l items)
    (h : ∀ h', IsEnum h' (s.heap.objs.size + 1) s.heap.objs.size 0 .none → h'.IsTupleIter s.heap.objs.size l 0 → h'.objs.size = s.heap.objs.size + 2 →
      (∀ b o, s.heap.get? b = some o → h'.get? b = some o) → Q (.ref (s.heap.objs.size + 1)) { s with heap := h' }) :
    wpAny (model prog w) A (call (.type "enumerate") [.ref l]) Q E s := by
  obtain ⟨⟨c, dct, dt, sl⟩, hl, hc, n, hd⟩ := hL
  replace hc : c = .type "tuple" := hc
  replace hd : dt = .seq items n := hd
  subst hc hd
  refine callType_new F.called_enumerate (by decide) (F.typeCall_enumerate_1 _) (F.newCall_enumerate_1 _) (fun obj => F.args_object_init_2 obj _) F.entry_enumerate_new
    (meets_enumT l items n dct sl) ⟨hl, ?_⟩
  have hz : (s.heap.push { cls := .type "tuple_iterator", data := .fields #[.ref l, .int 0 0] }).objs.size = s.heap.objs.size + 1 := Heap.size_push ..
  show _ ∧ _
  rw [hz]
  have he : IsEnum ((s.heap.push { cls := .type "tuple_iterator", data := .fields #[.ref l, .int 0 0] }).push
      { cls := .type "enumerate", data := .fields #[.none, .bool false, .ref s.heap.objs.size, rawInt 0, .none, .none] }) (s.heap.objs.size + 1) s.heap.objs.size 0 .none := by
    have := Heap.get?_push_size (s.heap.push { cls := .type "tuple_iterator", data := .fields #[.ref l, .int 0 0] })
      (o := { cls := .type "enumerate", data := .fields #[.none, .bool false, .ref s.heap.objs.size, rawInt 0, .none, .none] }) rfl
    rw [hz] at this; exact this
  refine ⟨⟨_, he, rfl⟩, h _ he ⟨_, Heap.get?_push_of_some _ (Heap.get?_push_size _ rfl), rfl, rfl⟩ (by rw [Heap.size_push, hz]) fun b o x => Heap.get?_push_of_some _ (Heap.get?_push_of_some _ x)⟩
end
/-- the tuple at a, each item in a new pair -/
def IteT (K : PySem.W.Frag) (a : Addr) : It :=
  ⟨fun i H => ∃ (xs : List V) (x : V), SqT K H a xs ∧ xs[i]? = some x, fun i H v H' => ∃ T x, v = .ref T ∧ H T = none ∧ H' = upd H T (.tup [.int (i : Nat), x]) ∧ ∀ xs, SqT K H a xs → xs[i]? = some x, fun i H => ∃ xs : List V, SqT K H a xs ∧ xs.length = i⟩
theorem turn_enumT {P : Program} {w : World} {K : PySem.W.Frag} {elts : List Expr} {kk : Nat} {tpos : Pos} (a e it : Addr) :
    Turn P w K (.Tuple elts kk tpos) (IteT K a) [e, it] e (fun i h => (∃ old, IsEnum h e it ((i : Nat) : Int) old) ∧ h.IsTupleIter it a i ∧ e ≠ it ∧ a ≠ it) where
  mem := by simp
  obj := fun i h st b hb => by
    obtain ⟨⟨old, he⟩, ⟨o, ho, hc, hd⟩, _⟩ := st
    have e' : b = e ∨ b = it := by simpa using hb
    rcases e' with z | z
    · rw [z]; exact ⟨_, he, fun v q => nomatch q⟩
    · rw [z]; exact ⟨o, ho, fun v q => by rw [hd] at q; cases q⟩
  keep := fun i h h' st k => let ⟨⟨old, he⟩, hi, hne⟩ := st; ⟨⟨old, k e (by simp) _ he⟩, (by obtain ⟨o, ho, hc, hd⟩ := hi; exact ⟨o, k it (by simp) o ho, hc, hd⟩), hne⟩
  item := by
    intro X hP hw hK hc i pins s σ H E I hf st hg
    subst hP hw hK
    obtain ⟨⟨old, he⟩, hit, hne, hai⟩ := st
    obtain ⟨xs, x, hq, hx⟩ := hg
    obtain ⟨its, rv, p, hz⟩ := I.tuple hq
    obtain ⟨u, hu, ru⟩ := rv.get hx
    have hel : e < s.heap.objs.size := Heap.lt_size he
    have hil : it < s.heap.objs.size := by obtain ⟨_, q, _⟩ := hit; exact Heap.lt_size q
    have hlt : i < its.toArray.size := by
      have := (List.getElem?_eq_some_iff.mp hu).1
      simpa using this
    have hae : a ≠ e := fun z => by
      obtain ⟨o, ho, hc', n, hd⟩ := p
      have he2 : s.heap.get? e = some _ := he
      rw [← z, ho] at he2
      cases he2
      cases hd
    refine wpAny_pyNext_enum_itemD (n := its.toArray.size) (Draws.tuple (A := X.A.in1) (show X.A.in1.handled = none from I.ok.hd hc) it a hai its.toArray) he ⟨hit, p⟩ hlt hne (by simpa using ⟨hne, hae.symm⟩) fun x' h' tk hPx ho hst' hT hsz hk => ?_
    obtain ⟨hit', p'⟩ := hst'
    have ex : x' = u := by
      have hPx' : its.toArray[i]? = some x' := hPx
      have hu' : its.toArray[i]? = some u := by simpa using hu
      rw [hu'] at hPx'
      exact (Option.some.inj hPx').symm
    subst ex
    refine ⟨_, rfl, wpAny_letOwnedTupleGo_enum (s := { s with heap := h', toks := tk + 1 }) ho fun h'' he' sb => ?_⟩
    have hT2 : h''.get? s.heap.objs.size = some { cls := .type "tuple", data := .seq #[.int i tk, x'] } := (sb.2 _ (Nat.ne_of_gt hel)).trans hT
    have new : ObjOk X.prog X.w (upd H s.heap.objs.size (.tup [.int (i : Nat), x])) h'' s.heap.objs.size (.tup [.int (i : Nat), x]) :=
      ⟨by show 2 ≤ sizeLine; decide, [.int i tk, x'], .cons ⟨_, rfl⟩ (.cons ru .nil), ⟨_, hT2, rfl, _, rfl⟩⟩
    have I1 : Inv X pins σ (upd H s.heap.objs.size (.tup [.int (i : Nat), x])) { s with heap := h'', toks := tk + 1 } :=
      I.turnedNew (ch := [e, it]) (fun b ob hb q => (sb.2 b (fun z => hb (by simp [z]))).trans (hk b ob (fun z => hb (by simp [z])) (fun z => hb (by simp [z])) q)) hf (Nat.le_refl _) new
    refine ⟨.ref s.heap.objs.size, _, I1, rfl, ⟨_, x, rfl, I.hok.fresh (Nat.le_refl _), rfl, fun ys hy => by rw [I.tuple_inj hy hq]; exact hx⟩, ⟨⟨x', ?_⟩, ?_, hne, hai⟩, fun b hb => ?_⟩
    · have e1 : ((i + 1 : Nat) : Int) = (i : Int) + 1 := by omega
      rw [e1]; exact he'
    · obtain ⟨o, ho', hc', hd'⟩ := hit'
      exact ⟨o, (sb.2 it (Ne.symm hne)).trans ho', hc', hd'⟩
    · have hb' : b < s.heap.objs.size := by
        have e' : b = e ∨ b = it := by simpa using hb
        rcases e' with z | z
        · rw [z]; exact hel
        · rw [z]; exact hil
      rw [upd_ne (Nat.ne_of_lt hb')]
      exact (hf b hb).1
  done := by
    intro X hP hw hK hc i pins s σ H E I hf st hg
    subst hP hw hK
    obtain ⟨⟨old, he⟩, hit, hne, hai⟩ := st
    obtain ⟨xs, hq, hx⟩ := hg
    obtain ⟨its, rv, p, hz⟩ := I.tuple hq
    obtain ⟨f0, f1, f2, f3, f4, f5⟩ := hf it (by simp)
    have hl := rv.length
    have hi : i = its.toArray.size := by
      rw [List.size_toArray, ← hl, hx]
    subst hi
    exact wpAny_pyNext_enum_endD (Draws.tuple (A := X.A.in1) (show X.A.in1.handled = none from I.ok.hd hc) it a hai its.toArray) he ⟨hit, p⟩ fun h' eb => ⟨rfl, I.turned (t' := s.toks) (fun b o hb q => eb b o hb q) f0 f1 f3 f4 f5⟩
  self := fun A i s Q E st h => let ⟨⟨_, he⟩, _⟩ := st; wpAny_pyIter_enum he h
/-- enumerate of a list or of a tuple -/
def iEnumA (K : PySem.W.Frag) (ta : TA) : TI := fun σ H R => ta σ H fun vs H1 => ∃ a xs, vs = [.ref a] ∧ ((SqL K H1 a xs ∧ R (Ite K a) H1) ∨ (SqT K H1 a xs ∧ R (IteT K a) H1))
theorem pi_enumA {X : Cx} {e : Expr} {ta : TA} {p pos tpos : Pos} {elts : List Expr} {kk : Nat} (hg : Gl X "enumerate") (hm : X.mg "enumerate" = none) (ha : PA X [e] ta) (hs : starEach [e] X.env = [(false, eval e X.env)] := by rfl) :
    PI X (.Tuple elts kk tpos) (.Call (.Name "enumerate" p) [e] [] pos) (iEnumA X.K ta) := by
  refine ⟨fun pins s σ H R I h => ?_⟩
  refine Call_ (ld_blt I hg hm boot_enumerate (PyProof.Rows.callWith_type1 (thn (ha.run pos pins s σ H _ I h) fun us s1 ⟨vs, H1, I1, r1, q1⟩ => ?_) hs rfl))
  obtain ⟨a, xs, ex, hq⟩ := q1
  subst ex
  cases r1 with
  | cons r rr =>
    cases rr
    cases r
    have hle : ∀ b ∈ [s1.heap.objs.size + 1, s1.heap.objs.size], s1.heap.objs.size ≤ b := fun b hb => by
      have e' : b = s1.heap.objs.size + 1 ∨ b = s1.heap.objs.size := by simpa using hb
      rcases e' with z | z
      · rw [z]; exact Nat.le_add_right _ _
      · rw [z]; exact Nat.le_refl _
    rcases hq with ⟨hq, q⟩ | ⟨hq, q⟩
    · obtain ⟨its, rv, p', hz⟩ := I1.list hq
      refine call_enumerate_list p'.isList fun h' he hit hsz hk => wpAny_pyIter_enum he ?_
      have I2 : Inv X pins σ H1 { s1 with heap := h' } := I1.kept (t' := s1.toks) hk
      exact ⟨s1.heap.objs.size + 1, [s1.heap.objs.size + 1, s1.heap.objs.size], _, _, H1, rfl, I2, turn_enum a (s1.heap.objs.size + 1) s1.heap.objs.size, ⟨⟨.none, he⟩, hit, Nat.succ_ne_self _⟩,
        fun b hb => I1.fpOk (hle b hb) (I1.hok.fresh (hle b hb)), q⟩
    · obtain ⟨its, rv, p', hz⟩ := I1.tuple hq
      have hal : a ≠ s1.heap.objs.size := Nat.ne_of_lt (by obtain ⟨o, ho, _⟩ := p'; exact Heap.lt_size ho)
      refine call_enumT p' fun h' he hit hsz hk => wpAny_pyIter_enum he ?_
      have I2 : Inv X pins σ H1 { s1 with heap := h' } := I1.kept (t' := s1.toks) hk
      exact ⟨s1.heap.objs.size + 1, [s1.heap.objs.size + 1, s1.heap.objs.size], _, _, H1, rfl, I2, turn_enumT a (s1.heap.objs.size + 1) s1.heap.objs.size, ⟨⟨.none, he⟩, hit, Nat.succ_ne_self _, hal⟩,
        fun b hb => I1.fpOk (hle b hb) (I1.hok.fresh (hle b hb)), q⟩
theorem walk_enumT {K : PySem.W.Frag} {a : Addr} {xs : List V} : Walk (IteT K a) xs.length (fun H => SqT K H a xs) (YPair (fun i => some (.int (i : Nat))) (fun i => xs[i]?)) := by
  refine ⟨fun i _ hi q => ⟨xs, xs[i], q, by simp [hi]⟩, fun _ q => ⟨xs, q, rfl⟩, fun i H v H' _ q y => ?_⟩
  obtain ⟨T, x, h1, h2, h3, h4⟩ := y
  exact ⟨T, .int (i : Nat), x, h1, h2, h3, rfl, h4 xs q⟩
end Dm
/-! Dm5: loops and comprehensions by data. -/
namespace Dm
open PySem PySem.Spec PyProof.Rows L2

/-- an iterator that gives these items -/
structure WalkD (g : Gx) (J : It) (items : List D) (W0 : Wd) : Prop where
  goes : ∀ (i : Nat) (W : Wd) (H : Hp) (mu : Mem), i < items.length → Ext W0 W → SR g W H mu → J.go i H
  stops : ∀ (W : Wd) (H : Hp) (mu : Mem), Ext W0 W → SR g W H mu → J.stop items.length H
  yields : ∀ (i : Nat) (W : Wd) (H : Hp) (mu : Mem) (x : V) (H' : Hp), i < items.length → Ext W0 W → SR g W H mu → J.yld i H x H' → ∃ W' d, Ext W W' ∧ SR g W' H' mu ∧ items[i]? = some d ∧ Rep g.K W' d x
def tDI (g : Gx) (f : SA) : TI := fun σ H R => ∃ de W mu items mu', EnvR g.K W σ de ∧ SR g W H mu ∧ f de mu = some (items, mu') ∧ ∀ J H' W', Ext W W' → SR g W' H' mu' → WalkD g J items W' → R J H'
def DI (X : Cx) (tg iter : Expr) (f : SA) : Prop := PI X tg iter (tDI (gx X) f)
theorem PI.weak {X : Cx} {tg iter : Expr} {t t' : TI} (h : PI X tg iter t) (w : ∀ σ H R, t' σ H R → t σ H R) : PI X tg iter t' := ⟨fun pins s σ H R I q => h.run pins s σ H R I (w σ H R q)⟩

section
variable {X : Cx} {tg e : Expr} {pos : Pos} {f : SE} {ga : SA} {g : Gx}
theorem walkD_same {J : It} {vs : List V} {G : Hp → Prop} {items : List D} {W0 : Wd} (w : Walk J vs.length G (YAt vs)) (hG : ∀ W H mu, Ext W0 W → SR g W H mu → G H) (r : RepA g.K W0.B items vs) : WalkD g J items W0 where
  goes := fun i W H mu hi x S => w.goes i H (by rw [← r.length]; exact hi) (hG W H mu x S)
  stops := fun W H mu x S => by rw [r.length]; exact w.stops H (hG W H mu x S)
  yields := fun i W H mu v H' hi x S y => by
    obtain ⟨rfl, hv⟩ := w.yields i H v H' (by rw [← r.length]; exact hi) (hG W H mu x S) y
    obtain ⟨u, h1, h2⟩ := r.get (i := i) (d := items[i]) (List.getElem?_eq_getElem hi)
    rw [hv] at h1
    cases h1
    exact ⟨W, items[i], Ext.refl W, S, List.getElem?_eq_getElem hi, Rep.of (RepP.mono x.2 _ _ h2)⟩
def itLS (f : SE) : SA := fun de mu => (f de mu).bind fun r => match r.1 with
  | .lst ds => some (ds, r.2)
  | _ => none
def itTS (f : SE) : SA := fun de mu => (f de mu).bind fun r => match r.1 with
  | .tup ds => some (ds, r.2)
  | _ => none
theorem di_list (h : DE X e f) : DI X tg e (itLS f) := PI.weak (pi_list h) fun σ H R q => by
  obtain ⟨de, W, mu, items, mu', hE, S, e, k⟩ := q
  unfold itLS at e
  obtain ⟨⟨x, m1⟩, e1, e⟩ := Option.bind_eq_some_iff.mp e
  refine ⟨de, W, mu, x, m1, hE, S, e1, fun v H1 W1 x1 S1 r1 => ?_⟩
  cases x with
  | lst ds =>
    cases e
    obtain ⟨a, vs, rfl, h1, h2⟩ := r1.lst
    exact ⟨a, rfl, ⟨vs, S1.seqL h1⟩, k _ H1 W1 x1 S1 (walkD_same walk_list (fun W' H' mu' x' S' => S'.seqL (Same.seq x'.2 h1)) h2)⟩
  | _ => cases e
theorem di_tup (h : DE X e f) : DI X tg e (itTS f) := PI.weak (pi_tup h) fun σ H R q => by
  obtain ⟨de, W, mu, items, mu', hE, S, e, k⟩ := q
  unfold itTS at e
  obtain ⟨⟨x, m1⟩, e1, e⟩ := Option.bind_eq_some_iff.mp e
  refine ⟨de, W, mu, x, m1, hE, S, e1, fun v H1 W1 x1 S1 r1 => ?_⟩
  cases x with
  | tup ds =>
    cases e
    obtain ⟨a, vs, rfl, h1, h2⟩ := r1.tup
    exact ⟨a, rfl, ⟨vs, S1.seqT h1⟩, k _ H1 W1 x1 S1 (walkD_same walk_tup (fun W' H' mu' x' S' => S'.seqT (sameT x'.2 h1)) h2)⟩
  | _ => cases e
/-- range -/
def rngD (lo : Int) (n : Nat) : List D := (List.range n).map fun i => .int (lo + (i : Nat))
theorem walkD_range {lo : Int} {n : Nat} {W0 : Wd} : WalkD g (Itr lo n) (rngD lo n) W0 where
  goes := fun i W H mu hi x S => walk_range.goes i H (by simpa [rngD] using hi) trivial
  stops := fun W H mu x S => by
    have : (rngD lo n).length = n := by simp [rngD]
    rw [this]
    exact walk_range.stops H trivial
  yields := fun i W H mu v H' hi x S y => by
    have hi' : i < n := by simpa [rngD] using hi
    obtain ⟨rfl, rfl⟩ := walk_range.yields i H v H' hi' trivial y
    exact ⟨W, .int (lo + (i : Nat)), Ext.refl W, S, by simp [rngD, hi'], r_int⟩
def it1S (ga : SA) : SA := fun de mu => (ga de mu).bind fun r => match r.1 with
  | [.int j] => if -1000000 ≤ j ∧ j ≤ 1000000 then some (rngD 0 j.toNat, r.2) else none
  | _ => none
def it2S (ga : SA) : SA := fun de mu => (ga de mu).bind fun r => match r.1 with
  | [.int i, .int j] => if -1000000 ≤ i ∧ i ≤ 1000000 ∧ -1000000 ≤ j ∧ j ≤ 1000000 then some (rngD i (j - i).toNat, r.2) else none
  | _ => none
theorem di_range1 (h : PI X tg e (iRng1 (tDA (gx X) ga))) : DI X tg e (it1S ga) := PI.weak h fun σ H R q => by
  obtain ⟨de, W, mu, items, mu', hE, S, e, k⟩ := q
  unfold it1S at e
  obtain ⟨⟨xs, m1⟩, e1, e⟩ := Option.bind_eq_some_iff.mp e
  refine ⟨de, W, mu, xs, m1, hE, S, e1, fun vs H1 W1 x1 S1 r1 => ?_⟩
  dsimp only at e
  split at e
  · rename_i j
    split at e
    · rename_i hj
      cases e
      obtain ⟨v, rfl, rv⟩ := r1.one
      exact ⟨j, by rw [rv.int], by omega, by omega, k _ H1 W1 x1 S1 walkD_range⟩
    · cases e
  · cases e
theorem di_range2 (h : PI X tg e (iRng2 (tDA (gx X) ga))) : DI X tg e (it2S ga) := PI.weak h fun σ H R q => by
  obtain ⟨de, W, mu, items, mu', hE, S, e, k⟩ := q
  unfold it2S at e
  obtain ⟨⟨xs, m1⟩, e1, e⟩ := Option.bind_eq_some_iff.mp e
  refine ⟨de, W, mu, xs, m1, hE, S, e1, fun vs H1 W1 x1 S1 r1 => ?_⟩
  dsimp only at e
  split at e
  · rename_i i j
    split at e
    · rename_i hj
      cases e
      obtain ⟨v, u, rfl, rv, ru⟩ := r1.two
      exact ⟨i, j, by rw [rv.int, ru.int], ⟨by omega, by omega, by omega, by omega⟩, k _ H1 W1 x1 S1 walkD_range⟩
    · cases e
  · cases e
/-- a text's signs -/
def sgnD (z : Str) : List D := z.cps.toList.map fun c => .str ⟨#[c]⟩
def itSS (f : SE) : SA := fun de mu => (f de mu).bind fun r => match r.1 with
  | .str z => some (sgnD z, r.2)
  | _ => none
theorem di_str (h : PI X tg e (fun σ H R => tD (gx X) f σ H fun x H1 => ∃ z, x = .str z ∧ R (Its z) H1)) : DI X tg e (itSS f) := PI.weak h fun σ H R q => by
  obtain ⟨de, W, mu, items, mu', hE, S, e, k⟩ := q
  unfold itSS at e
  obtain ⟨⟨x, m1⟩, e1, e⟩ := Option.bind_eq_some_iff.mp e
  refine ⟨de, W, mu, x, m1, hE, S, e1, fun v H1 W1 x1 S1 r1 => ?_⟩
  cases x with
  | str z =>
    cases e
    refine ⟨z, r1.str, k _ H1 W1 x1 S1 ?_⟩
    have hl : (sgnD z).length = z.cps.size := by simp [sgnD]
    exact ⟨fun i W' H' mu' hi x' S' => walk_str.goes i H' (by rw [← hl]; exact hi) trivial, fun W' H' mu' x' S' => by rw [hl]; exact walk_str.stops H' trivial, fun i W' H' mu' u H'' hi x' S' y => by
      obtain ⟨rfl, c, hc, rfl⟩ := walk_str.yields i H' u H'' (by rw [← hl]; exact hi) trivial y
      refine ⟨W', .str ⟨#[c]⟩, Ext.refl W', S', ?_, r_str⟩
      have hc' : z.cps.toList[i]? = some c := by simpa using hc
      simp [sgnD, hc']⟩
  | _ => cases e
/-- enumerate -/
def enuD : Nat → List D → List D
  | _, [] => []
  | n, d :: ds => .tup [.int (n : Nat), d] :: enuD (n + 1) ds
theorem enuD_len : ∀ (n : Nat) (ds : List D), (enuD n ds).length = ds.length
  | _, [] => rfl
  | n, d :: ds => by rw [enuD, List.length_cons, List.length_cons, enuD_len]
theorem enuD_get : ∀ (n : Nat) (ds : List D) (i : Nat), (enuD n ds)[i]? = ds[i]?.map fun d => .tup [.int ((n + i : Nat) : Nat), d]
  | _, [], i => by simp [enuD]
  | n, d :: ds, 0 => by simp [enuD]
  | n, d :: ds, i + 1 => by
    rw [enuD, List.getElem?_cons_succ, List.getElem?_cons_succ, enuD_get]
    have : n + 1 + i = n + (i + 1) := by omega
    rw [this]
theorem walkD_enum {J : It} {vs : List V} {G : Hp → Prop} {items : List D} {W0 : Wd} (w : Walk J vs.length G (YPair (fun i => some (.int (i : Nat))) (fun i => vs[i]?))) (hG : ∀ W H mu, Ext W0 W → SR g W H mu → G H) (r : RepA g.K W0.B items vs) : WalkD g J (enuD 0 items) W0 where
  goes := fun i W H mu hi x S => w.goes i H (by rw [← r.length]; rwa [enuD_len] at hi) (hG W H mu x S)
  stops := fun W H mu x S => by rw [enuD_len, r.length]; exact w.stops H (hG W H mu x S)
  yields := fun i W H mu v H' hi x S y => by
    rw [enuD_len] at hi
    obtain ⟨T, y1, y2, rfl, nT, rfl, e1, e2⟩ := w.yields i H v H' (by rw [← r.length]; exact hi) (hG W H mu x S) y
    obtain ⟨u, h1, h2⟩ := r.get (i := i) (d := items[i]) (List.getElem?_eq_getElem hi)
    have e2 : vs[i]? = some y2 := e2
    rw [e2] at h1
    cases h1
    cases e1
    obtain ⟨S2, x2⟩ := S.grow (o := .tup [.int (i : Nat), y2]) nT
    refine ⟨_, _, x2, S2, by rw [enuD_get, List.getElem?_eq_getElem hi]; rfl, Rep.of ?_⟩
    simp only [RepP, Nat.zero_add]
    exact ⟨T, _, rfl, .inl (.inl upd_same), RepA.cons rp_int (RepA.cons (RepP.mono (x.trans x2).2 _ _ h2) RepA.nil)⟩
def itES (ga : SA) : SA := fun de mu => (ga de mu).bind fun r => match r.1 with
  | [.lst ds] => some (enuD 0 ds, r.2)
  | [.tup ds] => some (enuD 0 ds, r.2)
  | _ => none
theorem di_enum (h : PI X tg e (iEnumA X.K (tDA (gx X) ga))) : DI X tg e (itES ga) := PI.weak h fun σ H R q => by
  obtain ⟨de, W, mu, items, mu', hE, S, e, k⟩ := q
  unfold itES at e
  obtain ⟨⟨xs, m1⟩, e1, e⟩ := Option.bind_eq_some_iff.mp e
  refine ⟨de, W, mu, xs, m1, hE, S, e1, fun vs H1 W1 x1 S1 r1 => ?_⟩
  dsimp only at e
  split at e
  · cases e
    obtain ⟨v, rfl, rv⟩ := r1.one
    obtain ⟨a, us, rfl, h1, h2⟩ := rv.lst
    exact ⟨a, us, rfl, .inl ⟨S1.seqL h1, k _ H1 W1 x1 S1 (walkD_enum walk_enum (fun W' H' mu' x' S' => S'.seqL (Same.seq x'.2 h1)) h2)⟩⟩
  · cases e
    obtain ⟨v, rfl, rv⟩ := r1.one
    obtain ⟨a, us, rfl, h1, h2⟩ := rv.tup
    exact ⟨a, us, rfl, .inr ⟨S1.seqT h1, k _ H1 W1 x1 S1 (walkD_enum walk_enumT (fun W' H' mu' x' S' => S'.seqT (sameT x'.2 h1)) h2)⟩⟩
  · cases e

/-! ### for -/
def forL (gt : SG) (body : SS) : List D → Env → Mem → Option (Out × Env × Mem)
  | [], de, mu => some (.nx, de, mu)
  | d :: ds, de, mu => (gt d de).bind fun de1 => (body de1 mu).bind fun r => match r.1 with
    | .nx => forL gt body ds r.2.1 r.2.2
    | .ct => forL gt body ds r.2.1 r.2.2
    | .bk => some (.nx, r.2.1, r.2.2)
    | .rt d => some (.rt d, r.2.1, r.2.2)
def forS (it : SA) (gt : SG) (body : SS) : SS := fun de mu => (it de mu).bind fun r => forL gt body r.1 de r.2
theorem tDG_imp {g : Gx} {f : SG} {d : D} {v : V} {σ : L2.St} {H : Hp} {W : Wd} {mu : Mem} {de de' : Env} {Q : L2.St → Hp → Prop} (r : Rep g.K W d v) (hE : EnvR g.K W σ de) (S : SR g W H mu) (e : f d de = some de') (k : ∀ σ', EnvR g.K W σ' de' → Q σ' H) : tDG g f v σ H Q := ⟨d, de, W, mu, de', r, hE, S, e, k⟩
theorem drop_cons {α : Type} {l : List α} {i : Nat} {d : α} (h : l[i]? = some d) : l.drop i = d :: l.drop (i + 1) := by
  obtain ⟨hi, e⟩ := List.getElem?_eq_some_iff.mp h
  rw [List.drop_eq_getElem_cons hi, e]
theorem for_read {it : SA} {gt : SG} {body : SS} {E : Ends} {σ : L2.St} {H : Hp} (h : tDS g (forS it gt body) E σ H) : tFor (tDI g it) (tDG g gt) (tDS g body) E σ H := by
  obtain ⟨de, W, mu, o, de', mu', hE, S, e, k⟩ := h
  unfold forS at e
  obtain ⟨⟨items, m1⟩, e1, e⟩ := Option.bind_eq_some_iff.mp e
  refine ⟨de, W, mu, items, m1, hE, S, e1, fun J H1 W1 x1 S1 wk => ?_⟩
  refine ⟨fun i m σ2 H2 => ∃ de2 W2 mu2, m = items.length - i ∧ i ≤ items.length ∧ Ext W1 W2 ∧ EnvR g.K W2 σ2 de2 ∧ SR g W2 H2 mu2 ∧ forL gt body (items.drop i) de2 mu2 = some (o, de', mu'), ⟨items.length, de, W1, m1, by simp, Nat.zero_le _, Ext.refl W1, hE.mono x1, S1, by simpa using e⟩, ?_⟩
  rintro i m σ2 H2 ⟨de2, W2, mu2, rfl, hi, x2, hE2, S2, e2⟩
  by_cases hlt : i < items.length
  · refine .inr ⟨wk.goes i W2 H2 mu2 hlt x2 S2, fun σ3 H3 => ∃ de3 W3 mu3, Ext W1 W3 ∧ EnvR g.K W3 σ3 de3 ∧ SR g W3 H3 mu3 ∧ forL gt body (items.drop (i + 1)) de3 mu3 = some (o, de', mu'), fun σ3 H3 ⟨de3, W3, mu3, x3, hE3, S3, e3⟩ => ⟨items.length - (i + 1), by omega, de3, W3, mu3, rfl, hlt, x3, hE3, S3, e3⟩, fun v H3 y => ?_⟩
    obtain ⟨W3, d, x3, S3, hd, rd⟩ := wk.yields i W2 H2 mu2 v H3 hlt x2 S2 y
    rw [drop_cons hd] at e2
    unfold forL at e2
    obtain ⟨de3, e3, e2⟩ := Option.bind_eq_some_iff.mp e2
    obtain ⟨⟨ob, de4, mu4⟩, e4, e2⟩ := Option.bind_eq_some_iff.mp e2
    refine tDG_imp rd (hE2.mono x3) S3 e3 fun σ3 hE3 => ?_
    refine ⟨de3, W3, mu2, ob, de4, mu4, hE3, S3, e4, fun σ4 H4 W4 x4 S4 hE4 => ?_⟩
    cases ob with
    | nx => exact ⟨de4, W4, mu4, x2.trans (x3.trans x4), hE4, S4, e2⟩
    | ct => exact ⟨de4, W4, mu4, x2.trans (x3.trans x4), hE4, S4, e2⟩
    | bk =>
      cases e2
      exact k σ4 H4 W4 (x1.trans (x2.trans (x3.trans x4))) S4 hE4
    | rt d =>
      cases e2
      exact k σ4 H4 W4 (x1.trans (x2.trans (x3.trans x4))) S4 hE4
  · have ei : i = items.length := by omega
    subst ei
    refine .inl ⟨wk.stops W2 H2 mu2 x2 S2, ?_⟩
    rw [List.drop_length] at e2
    cases e2
    exact k σ2 H2 W2 (x1.trans x2) S2 hE2
theorem ds_for {iter : Expr} {body : List Stmt} {it : SA} {gt : SG} {sb : SS} (hp : PassesOwn (model X.prog X.w) X.A X.env X.xe) (hc : X.calm = true) (hi : DI X tg iter it) (hg : DG X tg gt) (hb : DSs X body sb)
    (hs : ∀ x, foldedSetIterable iter X.env x = pure x := by intro _; rfl) : DS X (.For tg iter body [] pos) (forS it gt sb) := ds_weak (ps_for hp hc hi hg hb hs) fun _ _ _ h => for_read h

/-! ### while, by fuel -/
def whL (t : ST) (body : SS) : Nat → Env → Mem → Option (Out × Env × Mem)
  | 0, _, _ => none
  | n + 1, de, mu => (t de mu).bind fun b => match b.1 with
    | false => some (.nx, de, b.2)
    | true => (body de b.2).bind fun r => match r.1 with
      | .nx => whL t body n r.2.1 r.2.2
      | .ct => whL t body n r.2.1 r.2.2
      | .bk => some (.nx, r.2.1, r.2.2)
      | .rt d => some (.rt d, r.2.1, r.2.2)
def whS (fuel : Nat) (t : ST) (body : SS) : SS := fun de mu => whL t body fuel de mu
theorem wh_read {n : Nat} {t : ST} {body : SS} {E : Ends} {σ : L2.St} {H : Hp} (h : tDS g (whS n t body) E σ H) : tWhile (tDT g t) (tDS g body) E σ H := by
  obtain ⟨de, W, mu, o, de', mu', hE, S, e, k⟩ := h
  unfold whS at e
  refine ⟨fun m σ2 H2 => ∃ de2 W2 mu2, Ext W W2 ∧ EnvR g.K W2 σ2 de2 ∧ SR g W2 H2 mu2 ∧ whL t body m de2 mu2 = some (o, de', mu'), ⟨n, de, W, mu, Ext.refl W, hE, S, e⟩, ?_⟩
  rintro m σ2 H2 ⟨de2, W2, mu2, x2, hE2, S2, e2⟩
  cases m with
  | zero => cases e2
  | succ m =>
    unfold whL at e2
    obtain ⟨⟨b, mb⟩, e3, e2⟩ := Option.bind_eq_some_iff.mp e2
    refine ⟨de2, W2, mu2, b, mb, hE2, S2, e3, fun H3 W3 x3 S3 => ?_⟩
    cases b with
    | false =>
      cases e2
      rw [if_neg Bool.false_ne_true]
      exact k σ2 H3 W3 (x2.trans x3) S3 (hE2.mono x3)
    | true =>
      obtain ⟨⟨ob, de4, mu4⟩, e4, e2⟩ := Option.bind_eq_some_iff.mp e2
      rw [if_pos rfl]
      refine ⟨fun σ3 H3 => ∃ de3 W3 mu3, Ext W W3 ∧ EnvR g.K W3 σ3 de3 ∧ SR g W3 H3 mu3 ∧ whL t body m de3 mu3 = some (o, de', mu'), fun σ3 H3 h => ⟨m, Nat.lt_succ_self m, h⟩, ?_⟩
      refine ⟨de2, W3, mb, ob, de4, mu4, hE2.mono x3, S3, e4, fun σ4 H4 W4 x4 S4 hE4 => ?_⟩
      cases ob with
      | nx => exact ⟨de4, W4, mu4, x2.trans (x3.trans x4), hE4, S4, e2⟩
      | ct => exact ⟨de4, W4, mu4, x2.trans (x3.trans x4), hE4, S4, e2⟩
      | bk =>
        cases e2
        exact k σ4 H4 W4 (x2.trans (x3.trans x4)) S4 hE4
      | rt d =>
        cases e2
        exact k σ4 H4 W4 (x2.trans (x3.trans x4)) S4 hE4
theorem ds_while {c : Expr} {body : List Stmt} {t : ST} {sb : SS} (n : Nat) (hp : PassesOwn (model X.prog X.w) X.A X.env X.xe) (hc : DT X c t) (hb : DSs X body sb) : DS X (.While c body [] pos) (whS n t sb) := ds_weak (ps_while hp hc hb) fun _ _ _ h => wh_read h

/-! ### comprehensions -/
/-- the new list is the mutable object n -/
def lcL (n : Nat) (dw : Env) (gt : SG) (tt : ST) (te : SE) : List D → Mem → Option Mem
  | [], mu => some mu
  | d :: ds, mu => (gt d dw).bind fun de1 => (tt de1 mu).bind fun b => match b.1 with
    | false => lcL n dw gt tt te ds b.2
    | true => (te de1 b.2).bind fun r => match r.2[n]? with
      | some (.lst acc) => if isMut r.1 || Nat.ble 100000 acc.length then none else lcL n dw gt tt te ds (r.2.set n (.lst (acc ++ [r.1])))
      | _ => none
def endL (n : Nat) (mu : Mem) : Option (D × Mem) := match mu[n]? with
  | some (.lst acc) => some (.lst acc, mu.take n)
  | _ => none
def lcS (vs : List Nat) (it : SA) (gt : SG) (tt : ST) (te : SE) : SE := fun de mu => (it de mu).bind fun r => (lcL r.2.length (wipeD de vs) gt tt te r.1 (r.2 ++ [.lst []])).bind fun q => endL r.2.length q
def yesT : ST := fun _ mu => some (true, mu)
def Tgt (g : Gx) (gt : SG) (tgt : TG) (vs : List Nat) : Prop := ∀ (v : V) (σ : L2.St) (H : Hp) (Q : L2.St → Hp → Prop), tDG g gt v (wipe σ vs) H Q → tgt v (wipe σ vs) H fun σ' H' => wipe σ' vs = wipe σ vs ∧ Q σ' H'
theorem end_lc {W0 W : Wd} {H : Hp} {mu : Mem} {n : Nat} {Dl : Addr} {d : D} {mu' : Mem} (hn : W0.rho.length = n) (x : Ext ⟨W0.rho ++ [Dl], W0.B⟩ W) (S : SR g W H mu) (e : endL n mu = some (d, mu')) : ∃ W', Ext W0 W' ∧ SR g W' H mu' ∧ Rep g.K W' d (.ref Dl) := by
  unfold endL at e
  split at e
  · rename_i acc hm
    cases e
    have h1 : W.rho[n]? = some Dl := x.at (by rw [← hn]; simp)
    obtain ⟨hB, vs, h3, h4⟩ := S.cell n Dl _ h1 hm
    obtain ⟨S2, x2⟩ := S.freeze h1 hm hB h3
    have S3 := S2.cut n
    rw [show (mu.set n .gone).take n = mu.take n by rw [List.take_set_of_le (Nat.le_refl n)]] at S3
    obtain ⟨⟨t, et⟩, xs⟩ := x
    have er : W.rho.take n = W0.rho := by
      rw [et, List.append_assoc, List.take_append_of_le_length (by omega), ← hn]
      exact List.take_length
    refine ⟨⟨W.rho.take n, upd W.B Dl (.lst vs)⟩, ⟨⟨[], by rw [er]; simp⟩, fun b u hb => x2.2 b u (xs b u hb)⟩, S3, Rep.of ?_⟩
    simp only [RepP]
    exact ⟨Dl, vs, rfl, .inl (.inl upd_same), h4.mono x2.2⟩
  · cases e
theorem lc_turn {W : Wd} {n : Nat} {Dl : Addr} {dw : Env} {gt : SG} {tt : ST} {te : SE} {vs : List Nat} {tgt : TG} {σ : L2.St} {H : Hp} {mu mu' : Mem} {d : D} {ds : List D} {v : V} {Nx : Hp → Prop}
    (hg : Tgt g gt tgt vs) (hn : W.rho[n]? = some Dl) (hE : EnvR g.K W (wipe σ vs) dw) (S : SR g W H mu) (rd : Rep g.K W d v) (e : lcL n dw gt tt te (d :: ds) mu = some mu')
    (k : ∀ (W2 : Wd) (H2 : Hp) (mu2 : Mem), Ext W W2 → SR g W2 H2 mu2 → lcL n dw gt tt te ds mu2 = some mu' → Nx H2) :
    tgt v (wipe σ vs) H fun σ2 H2 => wipe σ2 vs = wipe σ vs ∧ tDT g tt σ2 H2 fun b H3 => if b = true then tD g te σ2 H3 fun y H4 => ∃ acc, H4 Dl = some (.lst acc) ∧ acc.length < sizeLine ∧ Nx (upd H4 Dl (.lst (acc ++ [y]))) else Nx H3 := by
  unfold lcL at e
  obtain ⟨de1, e1, e⟩ := Option.bind_eq_some_iff.mp e
  obtain ⟨⟨b, m2⟩, e2, e⟩ := Option.bind_eq_some_iff.mp e
  refine hg v σ H _ (tDG_imp rd hE S e1 fun σ' hE' => ?_)
  refine ⟨de1, W, mu, b, m2, hE', S, e2, fun H2 W2 x2 S2 => ?_⟩
  cases b with
  | false =>
    rw [if_neg Bool.false_ne_true]
    exact k W2 H2 m2 x2 S2 e
  | true =>
    rw [if_pos rfl]
    obtain ⟨⟨y, m3⟩, e3, e⟩ := Option.bind_eq_some_iff.mp e
    refine ⟨de1, W2, m2, y, m3, hE'.mono x2, S2, e3, fun u H3 W3 x3 S3 r3 => ?_⟩
    have e : (match m3[n]? with
      | some (.lst acc) => if isMut y || Nat.ble 100000 acc.length then none else lcL n dw gt tt te ds (m3.set n (.lst (acc ++ [y])))
      | _ => none) = some mu' := e
    split at e
    · rename_i acc hm
      split at e
      · cases e
      · rename_i nm
        rw [Bool.not_eq_true, Bool.or_eq_false_iff] at nm
        have h1 : W3.rho[n]? = some Dl := x3.at (x2.at hn)
        obtain ⟨hB, us, h3, h4⟩ := S3.cell n Dl _ h1 hm
        have rv := r3.pure nm.1
        have hl : ¬ 100000 ≤ acc.length := fun h => by
          have := Nat.ble_eq_true_of_le h
          rw [nm.2] at this
          cases this
        have S4 := S3.write (o := .lst (us ++ [u])) (m' := .lst (acc ++ [y])) h1 hm hB ⟨hB, _, upd_same, h4.append (RepA.cons rv RepA.nil)⟩
        exact ⟨us, h3, by rw [← h4.length, sizeLine_eq]; omega, k W3 _ _ (x2.trans x3) S4 e⟩
    · cases e
theorem lc_read {it : SA} {gt : SG} {tt : ST} {te : SE} {vs : List Nat} {tgt : TG} {σ : L2.St} {H : Hp} {Q : VK} (hg : Tgt g gt tgt vs)
    (h : tD g (lcS vs it gt tt te) σ H Q) : tLc (tDI g it) tgt (tDT g tt) (tD g te) vs σ H Q := by
  obtain ⟨de, W, mu, d, mu', hE, S, e, k⟩ := h
  unfold lcS at e
  obtain ⟨⟨items, m1⟩, e1, e⟩ := Option.bind_eq_some_iff.mp e
  obtain ⟨m2, e2, e⟩ := Option.bind_eq_some_iff.mp e
  refine ⟨de, W, mu, items, m1, hE, S, e1, fun J H1 W1 x1 S1 wk Dl nD => ?_⟩
  have hl : W1.rho.length = m1.length := S1.len
  obtain ⟨S1', x1'⟩ := S1.growM (o := .lst []) (m := .lst []) nD ⟨S1.ext.free nD, [], upd_same, RepA.nil⟩
  have hD0 : (W1.rho ++ [Dl])[m1.length]? = some Dl := by rw [← hl]; simp
  refine ⟨fun i m H2 => ∃ W2 mu2, m = items.length - i ∧ i ≤ items.length ∧ Ext ⟨W1.rho ++ [Dl], W1.B⟩ W2 ∧ SR g W2 H2 mu2 ∧ lcL m1.length (wipeD de vs) gt tt te (items.drop i) mu2 = some m2,
    ⟨items.length, _, _, by simp, Nat.zero_le _, Ext.refl _, S1', by simpa using e2⟩, ?_⟩
  rintro i m H2 ⟨W2, mu2, rfl, hi, x2, S2, e3⟩
  by_cases hlt : i < items.length
  · refine .inr ⟨wk.goes i W2 H2 mu2 hlt (x1'.trans x2) S2, fun H3 => ∃ W3 mu3, Ext ⟨W1.rho ++ [Dl], W1.B⟩ W3 ∧ SR g W3 H3 mu3 ∧ lcL m1.length (wipeD de vs) gt tt te (items.drop (i + 1)) mu3 = some m2, fun H3 ⟨W3, mu3, x3, S3, e4⟩ => ⟨items.length - (i + 1), by omega, W3, mu3, rfl, hlt, x3, S3, e4⟩, fun v H3 y => ?_⟩
    obtain ⟨W3, d', x3, S3, hd, rd⟩ := wk.yields i W2 H2 mu2 v H3 hlt (x1'.trans x2) S2 y
    rw [drop_cons hd] at e3
    exact lc_turn hg ((x2.trans x3).at hD0) ((hE.mono (x1.trans (x1'.trans (x2.trans x3)))).wipe vs) S3 rd e3 fun W4 H4 mu4 x4 S4 e4 => ⟨W4, mu4, x2.trans (x3.trans x4), S4, e4⟩
  · have ei : i = items.length := by omega
    subst ei
    refine .inl ⟨wk.stops W2 H2 mu2 (x1'.trans x2) S2, ?_⟩
    rw [List.drop_length] at e3
    cases e3
    obtain ⟨W3, x3, S3, r3⟩ := end_lc hl x2 S2 e
    exact k _ H2 W3 (x1.trans x3) S3 r3
/-! the targets of a comprehension -/
theorem wipe_at {σ : L2.St} (j : Nat) : ∀ vs : List Nat, (wipe σ vs)[j]? = if j ∈ vs then σ[j]?.map (fun _ => none) else σ[j]?
  | [] => by simp [wipe]
  | v :: vs => by
    unfold wipe
    rw [List.getElem?_set, wipe_at j vs]
    by_cases h : v = j
    · subst h
      simp only [if_true, List.mem_cons, true_or]
      by_cases hv : v < (wipe σ vs).length
      · rw [if_pos hv]
        have : v < σ.length := by rwa [wipe_length] at hv
        rw [List.getElem?_eq_getElem this]
        rfl
      · rw [if_neg hv]
        rw [wipe_length] at hv
        rw [List.getElem?_eq_none (by omega)]
        rfl
    · rw [if_neg h]
      have : (j ∈ v :: vs) = (j ∈ vs) := by simp [Ne.symm h]
      simp only [this]
theorem wipe_set {σ : L2.St} {vs : List Nat} {i : Nat} {o : Option V} (hi : i ∈ vs) : wipe (σ.set i o) vs = wipe σ vs := by
  apply List.ext_getElem?
  intro j
  rw [wipe_at, wipe_at, List.getElem?_set]
  by_cases h : i = j
  · subst h
    simp only [if_true, hi]
    by_cases hl : i < σ.length
    · rw [if_pos hl, List.getElem?_eq_getElem hl]
      rfl
    · rw [if_neg hl, List.getElem?_eq_none (by omega)]
  · rw [if_neg h]
theorem wipe_wipe {σ : L2.St} {vs : List Nat} : wipe (wipe σ vs) vs = wipe σ vs := by
  apply List.ext_getElem?
  intro j
  rw [wipe_at, wipe_at]
  by_cases h : j ∈ vs
  · rw [if_pos h, if_pos h]
    cases σ[j]? <;> rfl
  · rw [if_neg h, if_neg h]
theorem tgt_name {i : Nat} {vs : List Nat} (hi : i ∈ vs) : Tgt g (nmG i) (gName i) vs := fun v σ H Q h => by
  obtain ⟨d, de, W, mu, de', r, hE, S, e, k⟩ := h
  cases e
  exact ⟨by rw [wipe_set hi, wipe_wipe], k _ (hE.set i r)⟩
theorem tgt_tup3 {i j l : Nat} {vs : List Nat} (hi : i ∈ vs) (hj : j ∈ vs) (hl : l ∈ vs) : Tgt g (tupG 3 (consG (nmG i) (consG (nmG j) (consG (nmG l) nilG)))) (gTup g.K 3 (gCons (gName i) (gCons (gName j) (gCons (gName l) gNil)))) vs := fun v σ H Q h => by
  obtain ⟨d, de, W, mu, de', r, hE, S, e, k⟩ := h
  cases d with
  | tup ds =>
    have e : (if ds.length = 3 then consG (nmG i) (consG (nmG j) (consG (nmG l) nilG)) ds de else none) = some de' := e
    split at e
    · rename_i hl3
      obtain ⟨p, us, rfl, h1, h2⟩ := r.tup
      match ds, hl3, h2, e with
      | [d1, d2, d3], _, h2, e =>
        simp only [RepA] at h2
        obtain ⟨v1, r1, rfl, q1, v2, r2, rfl, q2, v3, r3, rfl, q3, rfl⟩ := h2
        cases e
        exact ⟨p, _, rfl, S.seqT h1, rfl, v1, _, rfl, v2, _, rfl, v3, _, rfl, rfl, by rw [wipe_set hl, wipe_set hj, wipe_set hi, wipe_wipe], k _ (((hE.set i (Rep.of q1)).set j (Rep.of q2)).set l (Rep.of q3))⟩
    · cases e
  | _ => cases e
theorem de_lc {a : Expr} {vs : List Nat} {it : SA} {gt : SG} {tt : ST} {te : SE} {tgt : TG} (hg : Tgt (gx X) gt tgt vs) (h : PE X a (tLc (tDI (gx X) it) tgt (tDT (gx X) tt) (tD (gx X) te) vs)) : DE X a (lcS vs it gt tt te) := de_weak h fun _ _ _ q => lc_read hg q
def DTs (X : Cx) (ifs : List Expr) (t : ST) : Prop := PTs X ifs (tDT (gx X) t)
theorem dts_nil : DTs X [] yesT := ⟨fun pins s σ H Q I h => pts_nil.run pins s σ H Q I (by
  obtain ⟨de, W, mu, b, mu', hE, S, e, k⟩ := h
  cases e
  exact k H W (Ext.refl W) S)⟩
theorem dts_one {c : Expr} {t : ST} (h : DT X c t) : DTs X [c] t := pts_one h
/-- [elt for x in it for y in it1] -/
def lc2L (n : Nat) (dw : Env) (gt : SG) (it1 : SA) (vs1 : List Nat) (gt1 : SG) (te : SE) : List D → Mem → Option Mem
  | [], mu => some mu
  | d :: ds, mu => (gt d dw).bind fun de1 => (it1 de1 mu).bind fun r => (lcL n (wipeD de1 vs1) gt1 yesT te r.1 r.2).bind fun mu2 => lc2L n dw gt it1 vs1 gt1 te ds mu2
def lc2S (vs : List Nat) (it : SA) (gt : SG) (it1 : SA) (vs1 : List Nat) (gt1 : SG) (te : SE) : SE := fun de mu => (it de mu).bind fun r => (lc2L r.2.length (wipeD de vs) gt it1 vs1 gt1 te r.1 (r.2 ++ [.lst []])).bind fun q => endL r.2.length q
theorem lc2_read {it it1 : SA} {gt gt1 : SG} {te : SE} {vs vs1 : List Nat} {tgt tgt1 : TG} {σ : L2.St} {H : Hp} {Q : VK} (hg : Tgt g gt tgt vs) (hg1 : Tgt g gt1 tgt1 vs1)
    (h : tD g (lc2S vs it gt it1 vs1 gt1 te) σ H Q) : tLc2 (tDI g it) tgt (tDT g yesT) (tDI g it1) tgt1 (tDT g yesT) (tD g te) vs vs1 σ H Q := by
  obtain ⟨de, W, mu, d, mu', hE, S, e, k⟩ := h
  unfold lc2S at e
  obtain ⟨⟨items, m1⟩, e1, e⟩ := Option.bind_eq_some_iff.mp e
  obtain ⟨m2, e2, e⟩ := Option.bind_eq_some_iff.mp e
  refine ⟨de, W, mu, items, m1, hE, S, e1, fun J H1 W1 x1 S1 wk Dl nD => ?_⟩
  have hl : W1.rho.length = m1.length := S1.len
  obtain ⟨S1', x1'⟩ := S1.growM (o := .lst []) (m := .lst []) nD ⟨S1.ext.free nD, [], upd_same, RepA.nil⟩
  have hD0 : (W1.rho ++ [Dl])[m1.length]? = some Dl := by rw [← hl]; simp
  refine ⟨fun i m H2 => ∃ W2 mu2, m = items.length - i ∧ i ≤ items.length ∧ Ext ⟨W1.rho ++ [Dl], W1.B⟩ W2 ∧ SR g W2 H2 mu2 ∧ lc2L m1.length (wipeD de vs) gt it1 vs1 gt1 te (items.drop i) mu2 = some m2,
    ⟨items.length, _, _, by simp, Nat.zero_le _, Ext.refl _, S1', by simpa using e2⟩, ?_⟩
  rintro i m H2 ⟨W2, mu2, rfl, hi, x2, S2, e3⟩
  by_cases hlt : i < items.length
  · refine .inr ⟨wk.goes i W2 H2 mu2 hlt (x1'.trans x2) S2, fun H3 => ∃ W3 mu3, Ext ⟨W1.rho ++ [Dl], W1.B⟩ W3 ∧ SR g W3 H3 mu3 ∧ lc2L m1.length (wipeD de vs) gt it1 vs1 gt1 te (items.drop (i + 1)) mu3 = some m2, fun H3 ⟨W3, mu3, x3, S3, e4⟩ => ⟨items.length - (i + 1), by omega, W3, mu3, rfl, hlt, x3, S3, e4⟩, fun v H3 y => ?_⟩
    obtain ⟨W3, d', x3, S3, hd, rd⟩ := wk.yields i W2 H2 mu2 v H3 hlt (x1'.trans x2) S2 y
    rw [drop_cons hd] at e3
    unfold lc2L at e3
    obtain ⟨de1, e4, e3⟩ := Option.bind_eq_some_iff.mp e3
    obtain ⟨⟨items1, m3⟩, e5, e3⟩ := Option.bind_eq_some_iff.mp e3
    obtain ⟨m4, e6, e3⟩ := Option.bind_eq_some_iff.mp e3
    refine hg v σ H3 _ (tDG_imp rd ((hE.mono (x1.trans (x1'.trans (x2.trans x3)))).wipe vs) S3 e4 fun σ' hE' => ?_)
    refine ⟨de1, W3, mu2, true, mu2, hE', S3, rfl, fun H4 W4 x4 S4 => ?_⟩
    refine iteT ?_
    refine ⟨de1, W4, mu2, items1, m3, hE'.mono x4, S4, e5, fun J1 H5 W5 x5 S5 wk1 => ?_⟩
    have x05 : Ext ⟨W1.rho ++ [Dl], W1.B⟩ W5 := x2.trans (x3.trans (x4.trans x5))
    refine ⟨fun j kk H6 => ∃ W6 mu6, kk = items1.length - j ∧ j ≤ items1.length ∧ Ext W5 W6 ∧ SR g W6 H6 mu6 ∧ lcL m1.length (wipeD de1 vs1) gt1 yesT te (items1.drop j) mu6 = some m4,
      ⟨items1.length, W5, m3, by simp, Nat.zero_le _, Ext.refl _, S5, by simpa using e6⟩, ?_⟩
    rintro j kk H6 ⟨W6, mu6, rfl, hj, x6, S6, e7⟩
    by_cases hlt1 : j < items1.length
    · refine .inr ⟨wk1.goes j W6 H6 mu6 hlt1 x6 S6, fun H7 => ∃ W7 mu7, Ext W5 W7 ∧ SR g W7 H7 mu7 ∧ lcL m1.length (wipeD de1 vs1) gt1 yesT te (items1.drop (j + 1)) mu7 = some m4, fun H7 ⟨W7, mu7, x7, S7, e8⟩ => ⟨items1.length - (j + 1), by omega, W7, mu7, rfl, hlt1, x7, S7, e8⟩, fun v1 H7 y1 => ?_⟩
      obtain ⟨W7, d1, x7, S7, hd1, rd1⟩ := wk1.yields j W6 H6 mu6 v1 H7 hlt1 x6 S6 y1
      rw [drop_cons hd1] at e7
      exact lc_turn hg1 ((x05.trans (x6.trans x7)).at hD0) ((hE'.mono ((x4.trans x5).trans (x6.trans x7))).wipe vs1) S7 rd1 e7 fun W8 H8 mu8 x8 S8 e8 => ⟨W8, mu8, x6.trans (x7.trans x8), S8, e8⟩
    · have ej : j = items1.length := by omega
      subst ej
      rw [List.drop_length] at e7
      cases e7
      exact .inl ⟨wk1.stops W6 H6 _ x6 S6, W6, _, x05.trans x6, S6, e3⟩
  · have ei : i = items.length := by omega
    subst ei
    refine .inl ⟨wk.stops W2 H2 mu2 (x1'.trans x2) S2, ?_⟩
    rw [List.drop_length] at e3
    cases e3
    obtain ⟨W3, x3, S3, r3⟩ := end_lc hl x2 S2 e
    exact k _ H2 W3 (x1.trans x3) S3 r3
theorem de_lc2 {a : Expr} {vs vs1 : List Nat} {it it1 : SA} {gt gt1 : SG} {te : SE} {tgt tgt1 : TG} (hg : Tgt (gx X) gt tgt vs) (hg1 : Tgt (gx X) gt1 tgt1 vs1)
    (h : PE X a (tLc2 (tDI (gx X) it) tgt (tDT (gx X) yesT) (tDI (gx X) it1) tgt1 (tDT (gx X) yesT) (tD (gx X) te) vs vs1)) : DE X a (lc2S vs it gt it1 vs1 gt1 te) := de_weak h fun _ _ _ q => lc2_read hg hg1 q
/-- name = [..] -/
theorem ds_setLc {st : Stmt} {i : Nat} {vs : List Nat} {it : SA} {gt : SG} {tt : ST} {te : SE} {tgt : TG} (hg : Tgt (gx X) gt tgt vs) (h : PS X st (tAsg (tLc (tDI (gx X) it) tgt (tDT (gx X) tt) (tD (gx X) te) vs) (gName i))) : DS X st (setS i (lcS vs it gt tt te)) := ds_weak h fun E σ H h => by
  have q := asg_read h
  refine lc_read (Q := fun x H1 => gName i x σ H1 E.nx) hg ?_
  obtain ⟨de, W, mu, x, m1, hE, S, e1, k⟩ := q
  refine ⟨de, W, mu, x, m1, hE, S, e1, fun v H1 W1 x1 S1 r1 => ?_⟩
  obtain ⟨d, de2, W2, mu2, de', r, hE2, S2, e, k2⟩ := k v H1 W1 x1 S1 r1
  cases e
  exact k2 _ (hE2.set i r)
end
end Dm
/-! Dm6: defs and calls by data. -/
namespace Dm
open PySem PySem.Spec PyProof.Rows L2

def spD (g : Gx) (n : Nat) (F : FnD) : Sp := fun vs H Q _ => ∃ W mu ds d mu', ds.length = n ∧ SR g W H mu ∧ RepL g.K W ds vs ∧ F ds mu = some (d, mu') ∧ ∀ v H' W', Ext W W' → SR g W' H' mu' → Rep g.K W' d v → Q v H'
def startD (N : Nat) (ds : List D) : Env := ds.map some ++ List.replicate (N - ds.length) none
/-- what a def hands back: its own mutables are forgotten, but the one that it hands back -/
def exitR (n : Nat) (d : D) (mu : Mem) : Option (D × Mem) := match d with
  | .loc k => if k < n then some (.loc k, mu.take n) else match mu[k]? with
    | some m => some (.loc n, mu.take n ++ [m])
    | none => none
  | d => some (d, mu.take n)
def defD (N : Nat) (body : SS) : FnD := fun ds mu => (body (startD N ds) mu).bind fun r => match r.1 with
  | .rt d => exitR mu.length d r.2.2
  | .nx => some (.non, r.2.2.take mu.length)
  | _ => none
theorem start_rep {K : PySem.W.Frag} {W : Wd} {ds : List D} {vs : List V} {N : List Str} (r : RepL K W ds vs) : EnvR K W (L2.start N vs) (startD N.length ds) := by
  have hl := r.length
  refine ⟨by unfold L2.start startD; simp [hl], fun i d h => ?_⟩
  unfold startD at h
  by_cases hi : i < ds.length
  · rw [List.getElem?_append_left (by simpa using hi), List.getElem?_map] at h
    have hv : i < vs.length := by omega
    have e1 : ds[i]? = some d := by
      cases q : ds[i]? with
      | none => rw [q] at h; cases h
      | some z => rw [q] at h; cases h; rfl
    have : ∃ v, vs[i]? = some v ∧ Rep K W d v := by
      clear h hi hv hl
      induction r generalizing i with
      | nil => simp at e1
      | @cons a b as bs r t ih =>
        cases i with
        | zero =>
          have : a = d := by simpa using e1
          subst this
          exact ⟨b, rfl, r⟩
        | succ i =>
          obtain ⟨v, h1, h2⟩ := ih i (by simpa using e1)
          exact ⟨v, by simpa using h1, h2⟩
    obtain ⟨v, h1, h2⟩ := this
    refine ⟨v, ?_, h2⟩
    unfold L2.start
    rw [List.getElem?_append_left (by simpa using hv), List.getElem?_map, h1]
    rfl
  · rw [List.getElem?_append_right (by simpa using Nat.le_of_not_lt hi), List.getElem?_replicate] at h
    split at h <;> cases h
theorem exit_ok {g : Gx} {W0 W : Wd} {H : Hp} {mu0 mu mu' : Mem} {d d' : D} {v : V} (S0 : W0.rho.length = mu0.length) (x : Ext W0 W) (S : SR g W H mu) (r : Rep g.K W d v) (e : exitR mu0.length d mu = some (d', mu')) : ∃ W', Ext W0 W' ∧ SR g W' H mu' ∧ Rep g.K W' d' v := by
  obtain ⟨⟨t, et⟩, xs⟩ := id x
  have er : W.rho.take mu0.length = W0.rho := by
    rw [et, ← S0]
    simp
  have Sc := S.cut mu0.length
  have xc : Ext W0 ⟨W.rho.take mu0.length, W.B⟩ := ⟨⟨[], by rw [er]; simp⟩, xs⟩
  have pure : ∀ {d : D}, isMut d = false → exitR mu0.length d mu = some (d', mu') → Rep g.K W d v → ∃ W', Ext W0 W' ∧ SR g W' H mu' ∧ Rep g.K W' d' v := fun {d} nm e r => by
    have e2 : some (d, mu.take mu0.length) = some (d', mu') := by
      cases d <;> first
        | exact e
        | cases nm
    cases e2
    exact ⟨_, xc, Sc, Rep.of (r.pure nm)⟩
  cases d with
  | loc k =>
    have e : (if k < mu0.length then some (D.loc k, mu.take mu0.length) else match mu[k]? with
      | some m => some (D.loc mu0.length, mu.take mu0.length ++ [m])
      | none => none) = some (d', mu') := e
    obtain ⟨a, h1, rfl⟩ := r.loc
    split at e
    · rename_i hk
      cases e
      exact ⟨_, xc, Sc, a, by show (W.rho.take mu0.length)[k]? = some a; rw [List.getElem?_take, if_pos hk]; exact h1, rfl⟩
    · rename_i hk
      split at e
      · rename_i m hm
        cases e
        have lt : (W.rho.take mu0.length).length = mu0.length := by rw [er]; exact S0
        have lm : (mu.take mu0.length).length = mu0.length := by rw [← Sc.len]; exact lt
        refine ⟨⟨W.rho.take mu0.length ++ [a], W.B⟩, ⟨⟨[a], by rw [er]⟩, xs⟩, ⟨S.ext, by rw [List.length_append, List.length_append, lt, lm]; rfl, fun j b n g1 g2 => ?_, fun i j b g1 g2 => ?_⟩, a, ?_, rfl⟩
        · by_cases hj : j < mu0.length
          · rw [List.getElem?_append_left (by rw [lt]; exact hj)] at g1
            rw [List.getElem?_append_left (by rw [lm]; exact hj)] at g2
            exact Sc.cell j b n g1 g2
          · rw [List.getElem?_append_right (by rw [lt]; omega)] at g1
            rw [List.getElem?_append_right (by rw [lm]; omega)] at g2
            rw [lt] at g1
            rw [lm] at g2
            have z : j - mu0.length = 0 := by
              have := (List.getElem?_eq_some_iff.mp g1).1
              simpa using this
            rw [z] at g1 g2
            have e1 : a = b := by simpa using g1
            have e2 : m = n := by simpa using g2
            subst e1 e2
            exact S.cell k a m h1 hm
        · have old : ∀ {i : Nat} {b : Addr}, (W.rho.take mu0.length ++ [a])[i]? = some b → (i < mu0.length ∧ W.rho[i]? = some b) ∨ (i = mu0.length ∧ b = a) := fun {i b} h => by
            by_cases hi : i < mu0.length
            · rw [List.getElem?_append_left (by rw [lt]; exact hi), List.getElem?_take, if_pos hi] at h
              exact .inl ⟨hi, h⟩
            · rw [List.getElem?_append_right (by rw [lt]; omega), lt] at h
              have z : i - mu0.length = 0 := by
                have := (List.getElem?_eq_some_iff.mp h).1
                simpa using this
              rw [z] at h
              exact .inr ⟨by omega, by simpa using h.symm⟩
          rcases old g1 with ⟨p1, q1⟩ | ⟨rfl, rfl⟩
          · rcases old g2 with ⟨p2, q2⟩ | ⟨rfl, rfl⟩
            · exact S.inj i j b q1 q2
            · have := S.inj i k _ q1 h1
              omega
          · rcases old g2 with ⟨p2, q2⟩ | ⟨rfl, _⟩
            · have := S.inj j k _ q2 h1
              omega
            · rfl
        · show (W.rho.take mu0.length ++ [a])[mu0.length]? = some a
          rw [List.getElem?_append_right (by rw [lt]; exact Nat.le_refl _), lt]
          simp
      · cases e
  | _ => exact pure rfl e r
section
variable {P : Program} {w : World} {K : PySem.W.Frag} {mg : Str → Option Value} {base : Heap} {x qual : Str} {params : Arguments} {body : List Stmt} {scope : Scope} {dvs : List V} {kws : List (Str × V)} {f : Addr} {fd : FuncData}
/-- THE RULE for a def -/
theorem d_fn {N ps : List Str} {k n : Nat} {b : SS} (F : FunD K x qual params body scope dvs kws f fd) (S : FnScope N ps scope) (hn : ps.length = n)
    (hb : ∀ (cdv : Value) (A : Around) (outer : List PySem.Env) (s : Shared) (H : Hp) (E : XK), Room k (A.deeper (envOfC qual scope s.heap.objs.size f cdv)) → DSs (cxOf CX0 P w K mg base N qual scope f cdv A outer s H E).nox body b) :
    FnOk P w K mg base CX0 (k + 1) f fd ps (spD ⟨P, w, K⟩ n (defD N.length b)) := by
  refine F.ok S (fun vs H Q E h => ?_) (fun cdv A outer s H vs Q E hr h => ⟨tDS ⟨P, w, K⟩ b, PSs.nox (hb cdv A outer s H E hr), ?_⟩)
  · obtain ⟨W, mu, ds, d, mu', hl, _, r, _⟩ := h
    rw [hn, ← hl]
    exact r.length.symm
  · obtain ⟨W, mu, ds, d, mu', hl, SS, r, e, k⟩ := h
    unfold defD at e
    obtain ⟨⟨o, de', m1⟩, e1, e⟩ := Option.bind_eq_some_iff.mp e
    refine ⟨startD N.length ds, W, mu, o, de', m1, start_rep r, SS, e1, fun σ' H' W' x' S' hE' => ?_⟩
    cases o with
    | nx =>
      cases e
      obtain ⟨W2, x2, S2, r2⟩ := exit_ok (d := .non) (v := .non) SS.len x' S' r_non rfl
      exact k .non H' W2 x2 S2 r2
    | rt d1 =>
      intro v rv
      obtain ⟨W2, x2, S2, r2⟩ := exit_ok SS.len x' S' rv e
      exact k v H' W2 x2 S2 r2
    | bk => cases e
    | ct => cases e
/-- what a caller knows of a def -/
structure HasFn (P : Program) (w : World) (K : PySem.W.Frag) (mg : Str → Option Value) (base : Heap) (k : Nat) (x : Str) (n : Nat) (F : FnD) : Prop where
  ex : ∃ f fd ps ds dds, FnOk P w K mg base CX0 k f fd ps (spD ⟨P, w, K⟩ n F) ∧ PySem.W.keepIn K (.ref f) = true ∧ Binds K fd ps ds ∧ Vals dds ds ∧ dds = [] ∧ mg x = some (.ref f)
end
section
variable {X : Cx} {e a : Expr} {es : List Expr} {x : Str} {p pos : Pos} {ga : SA} {F : FnD} {n k : Nat}
def callF (F : FnD) (ga : SA) : SE := fun de mu => (ga de mu).bind fun r => F r.1 r.2
def callFd (F : FnD) (dds : List D) (ga : SA) : SE := fun de mu => (ga de mu).bind fun r => F (r.1 ++ dds) r.2
theorem RepL.append {K : PySem.W.Frag} {W : Wd} : ∀ {ds es : List D} {vs us : List V}, RepL K W ds vs → RepL K W es us → RepL K W (ds ++ es) (vs ++ us)
  | _, _, _, _, .nil, s => s
  | _, _, _, _, .cons r t, s => .cons r (RepL.append t s)
/-- F at every call that it answers takes n arguments -/
def Arity (F : FnD) (n : Nat) : Prop := ∀ ds mu r, F ds mu = some r → ds.length = n
theorem call_readD {g : Gx} {σ : L2.St} {H : Hp} {Q : VK} {dds : List D} {dvs : List V} (hn : ∀ ds mu r, F (ds ++ dds) mu = some r → (ds ++ dds).length = n) (hd : ∀ W, RepL g.K W dds dvs) (h : tD g (callFd F dds ga) σ H Q) : tCall (spD g n F) dvs E0 (tDA g ga) σ H Q := by
  obtain ⟨de, W, mu, d, mu', hE, S, e, k⟩ := h
  unfold callFd at e
  obtain ⟨⟨xs, m1⟩, e1, e⟩ := Option.bind_eq_some_iff.mp e
  exact ⟨de, W, mu, xs, m1, hE, S, e1, fun vs H1 W1 x1 S1 r1 => ⟨W1, m1, xs ++ dds, d, mu', hn _ _ _ e, S1, r1.append (hd W1), e, fun v H2 W2 x2 S2 r2 => k v H2 W2 (x1.trans x2) S2 r2⟩⟩
theorem call_read {g : Gx} {σ : L2.St} {H : Hp} {Q : VK} (h : tD g (callF F ga) σ H Q) (hn : ∀ (de : Env) (mu : Mem) ds mu' r, ga de mu = some (ds, mu') → F ds mu' = some r → ds.length = n) : tCall (spD g n F) [] E0 (tDA g ga) σ H Q := by
  obtain ⟨de, W, mu, d, mu', hE, S, e, k⟩ := h
  unfold callF at e
  obtain ⟨⟨xs, m1⟩, e1, e⟩ := Option.bind_eq_some_iff.mp e
  exact ⟨de, W, mu, xs, m1, hE, S, e1, fun vs H1 W1 x1 S1 r1 => ⟨W1, m1, xs, d, mu', hn _ _ _ _ _ e1 e, S1, by rw [List.append_nil]; exact r1, e, fun v H2 W2 x2 S2 r2 => k v H2 W2 (x1.trans x2) S2 r2⟩⟩
/-- how many arguments a list of expressions gives -/
def LenA (ga : SA) (n : Nat) : Prop := ∀ (de : Env) (mu : Mem) ds mu', ga de mu = some (ds, mu') → ds.length = n
theorem len_nil : LenA nilA 0 := fun de mu ds mu' e => by cases e; rfl
theorem len_cons {f : SE} {n : Nat} (h : LenA ga n) : LenA (consA f ga) (n + 1) := fun de mu ds mu' e => by
  unfold consA at e
  obtain ⟨⟨x, m1⟩, e1, e⟩ := Option.bind_eq_some_iff.mp e
  obtain ⟨⟨xs, m2⟩, e2, e⟩ := Option.map_eq_some_iff.mp e
  cases e
  rw [List.length_cons, h _ _ _ _ e2]
theorem de_call (h : HasFn X.prog X.w X.K X.mg X.base k x n F) (hr : Room k X.A) (hg : Gl X x) (hl : LenA ga n) (ha : DA X (e :: es) ga) (hdb : (x == ("__debug__" : Str)) = false := by decide)
    (he : starEach (e :: es) X.env = (false, eval e X.env) :: starEach es X.env := by rfl) (hpl : (backTo pos (starEach es X.env)).any (·.1) = false := by rfl) : DE X (.Call (.Name x p) (e :: es) [] pos) (callF F ga) := by
  obtain ⟨f, fd, ps, ds, dds, G, kp, bd, vd, rfl, hm⟩ := h.ex
  exact de_weak (pe_call G hr hg hm kp bd vd pass0 ha hdb he hpl) fun σ H Q h => call_read h fun de mu ds mu' r e _ => hl _ _ _ _ e

/-! ### new instances -/
def endO (c n : Nat) (mu : Mem) : Option (D × Mem) := match mu[n]? with
  | some (.ob c' fs) => if c' = c ∧ fs.map (·.1) = clsF c then some (.ins c (fs.map (·.2)), mu.take n) else none
  | _ => none
def mkF (c : Nat) (F : FnD) (ga : SA) : SE := fun de mu => (ga de mu).bind fun r => (F (.loc r.2.length :: r.1) (r.2 ++ [.ob c []])).bind fun q => match q.1 with
  | .non => endO c r.2.length q.2
  | _ => none
theorem paired_zip {g : Gx} {B : Hp} : ∀ {fs : List (Str × D)} {fv : List (Str × V)}, Paired (fun (p : Str × D) (q : Str × V) => p.1 = q.1 ∧ RepP g.K B p.2 q.2) fs fv → fv = (fs.map (·.1)).zip (fv.map (·.2)) ∧ RepA g.K B (fs.map (·.2)) (fv.map (·.2))
  | _, _, .nil => ⟨rfl, RepA.nil⟩
  | p :: fs, q :: fv, .cons h t => by
    obtain ⟨e1, e2⟩ := paired_zip t
    refine ⟨?_, RepA.cons h.2 e2⟩
    rw [List.map_cons, List.map_cons, List.zip_cons_cons, ← e1, h.1]
theorem make_read {c : Nat} {g : Gx} {σ : L2.St} {H : Hp} {Q : VK} (hl : LenA ga n) (h : tD g (mkF c F ga) σ H Q) : tMake (clsA g.K c) (spD g (n + 1) F) [] E0 (tDA g ga) σ H Q := by
  obtain ⟨de, W, mu, d, mu', hE, S, e, k⟩ := h
  unfold mkF at e
  obtain ⟨⟨xs, m1⟩, e1, e⟩ := Option.bind_eq_some_iff.mp e
  obtain ⟨⟨z, m2⟩, e2, e⟩ := Option.bind_eq_some_iff.mp e
  refine ⟨de, W, mu, xs, m1, hE, S, e1, fun vs H1 W1 x1 S1 r1 => ?_⟩
  intro x dx nx ndx ne
  obtain ⟨S2, x2⟩ := S1.grow (o := .own x) ndx
  have nx2 : upd H1 dx (.own x) x = none := by rw [upd_ne (Ne.symm ne)]; exact nx
  have nB : W1.B x = none := S1.ext.free nx
  have nB2 : upd W1.B dx (.own x) x = none := by rw [upd_ne (Ne.symm ne)]; exact nB
  obtain ⟨S3, x3⟩ := S2.growM (o := .ins (clsA g.K c) dx []) (m := .ob c []) nx2 ⟨nB2, dx, [], upd_same, .nil⟩
  have hlen : W1.rho.length = m1.length := S1.len
  refine ⟨_, _, .loc m1.length :: xs, z, m2, by rw [List.length_cons, hl _ _ _ _ e1], S3, .cons ⟨x, by show (W1.rho ++ [x])[m1.length]? = some x; rw [← hlen]; simp, rfl⟩ (by rw [List.append_nil]; exact (r1.mono x2).mono x3), e2, fun v H4 W4 x4 S4 r4 => ?_⟩
  cases z with
  | non =>
    have e : endO c m1.length m2 = some (d, mu') := e
    refine ⟨r4.non, ?_⟩
    unfold endO at e
    split at e
    · rename_i c' fs hm
      split at e
      · rename_i hc
        obtain ⟨rfl, hf⟩ := hc
        cases e
        have h1 : W4.rho[m1.length]? = some x := x4.at (by show (W1.rho ++ [x])[m1.length]? = some x; rw [← hlen]; simp)
        obtain ⟨hB, dx', fv, h3, h4⟩ := S4.cell _ x _ h1 hm
        obtain ⟨S5, x5⟩ := S4.freeze h1 hm hB h3
        have S6 := S5.cut m1.length
        rw [show (m2.set m1.length .gone).take m1.length = m2.take m1.length by rw [List.take_set_of_le (Nat.le_refl _)]] at S6
        obtain ⟨⟨t, et⟩, xs4⟩ := x4
        have er : W4.rho.take m1.length = W1.rho := by
          rw [et]
          show ((W1.rho ++ [x]) ++ t).take m1.length = W1.rho
          rw [List.append_assoc, List.take_append_of_le_length (by omega), ← hlen]
          exact List.take_length
        obtain ⟨z1, z2⟩ := paired_zip h4
        refine k _ H4 ⟨W4.rho.take m1.length, upd W4.B x (.ins (clsA g.K c') dx' fv)⟩ (x1.trans ⟨⟨[], by rw [er]; simp⟩, fun b u hb => x5.2 b u (xs4 b u ((x2.trans x3).2 b u hb))⟩) S6 (Rep.of ?_)
        simp only [RepP]
        refine ⟨x, dx', fv.map (·.2), rfl, ?_, ?_, z2.mono x5.2⟩
        · rw [← hf, ← z1]
          exact upd_same
        · rw [← hf, List.length_map, List.length_map]
          exact (Paired.length h4).symm
      · cases e
    · cases e
  | _ => cases e
/-- what a caller knows of a class -/
structure HasMk (P : Program) (w : World) (K : PySem.W.Frag) (mg : Str → Option Value) (base : Heap) (k : Nat) (c : Nat) (n : Nat) (F : FnD) : Prop where
  ex : ∃ f fd ps, Mk K (clsA K c) f ∧ FnOk P w K mg base CX0 k f fd ps (spD ⟨P, w, K⟩ (n + 1) F) ∧ Binds K fd ps [] ∧ mg (clsN c) = some (.ref (clsA K c))
theorem de_make {c : Nat} (h : HasMk X.prog X.w X.K X.mg X.base k c n F) (hx : x = clsN c) (hr : Room (k + 1) X.A) (hg : Gl X x) (hl : LenA ga n) (ha : DA X (e :: es) ga) (hdb : (x == ("__debug__" : Str)) = false := by decide)
    (he : starEach (e :: es) X.env = (false, eval e X.env) :: starEach es X.env := by rfl) (hpl : (backTo pos (starEach es X.env)).any (·.1) = false := by rfl) : DE X (.Call (.Name x p) (e :: es) [] pos) (mkF c F ga) := by
  obtain ⟨f, fd, ps, M, G, bd, hm⟩ := h.ex
  subst hx
  exact de_weak (pe_make M G hr hg hm bd .nil pass0 ha hdb he hpl) fun σ H Q h => make_read hl h

/-! ### methods -/
def metF (c : Nat) (F : FnD) (f : SE) (ga : SA) : SE := fun de mu => (f de mu).bind fun o => match o.1 with
  | .ins c' ds => if c' = c then (ga de o.2).bind fun r => F (.ins c' ds :: r.1) r.2 else none
  | _ => none
theorem zip_none {x : Str} : ∀ {l : List Str} {vs : List V}, x ∉ l → (l.zip vs).lookup x = none
  | [], _, _ => rfl
  | _ :: _, [], _ => rfl
  | y :: l, v :: vs, h => by
    have ne : (x == y) = false := by
      have : x ≠ y := fun z => h (by rw [z]; exact List.mem_cons_self)
      simpa using this
    rw [List.zip_cons_cons, List.lookup_cons, ne]
    exact zip_none fun z => h (List.mem_cons_of_mem _ z)
theorem meth_read {c : Nat} {m : Str} {f : SE} {g : Gx} {σ : L2.St} {H : Hp} {Q : VK} (hm : m ∉ clsF c) (hl : LenA ga n) (h : tD g (metF c F f ga) σ H Q) : tMeth (clsA g.K c) m (spD g (n + 1) F) [] E0 (tD g f) (tDA g ga) σ H Q := by
  obtain ⟨de, W, mu, d, mu', hE, S, e, k⟩ := h
  unfold metF at e
  obtain ⟨⟨o, m1⟩, e1, e⟩ := Option.bind_eq_some_iff.mp e
  refine ⟨de, W, mu, o, m1, hE, S, e1, fun v H1 W1 x1 S1 r1 => ?_⟩
  cases o with
  | ins c' ds =>
    have e : (if c' = c then (ga de m1).bind fun r => F (.ins c' ds :: r.1) r.2 else none) = some (d, mu') := e
    split at e
    · rename_i hc
      subst hc
      have e : ((ga de m1).bind fun r => F (.ins c' ds :: r.1) r.2) = some (d, mu') := by assumption
      obtain ⟨⟨xs, m2⟩, e2, e⟩ := Option.bind_eq_some_iff.mp e
      obtain ⟨a, dx, vs, rfl, h1, h2, h3⟩ := id r1.ins
      refine ⟨a, dx, _, rfl, S1.ext _ _ h1, zip_none hm, ?_⟩
      exact ⟨de, W1, m1, xs, m2, hE.mono x1, S1, e2, fun us H2 W2 x2 S2 r2 => ⟨W2, m2, .ins c' ds :: xs, d, mu', by rw [List.length_cons, hl _ _ _ _ e2], S2, .cons (r1.mono x2) (by rw [List.append_nil]; exact r2), e, fun v H3 W3 x3 S3 r3 => k v H3 W3 ((x1.trans x2).trans x3) S3 r3⟩⟩
    · cases e
  | _ => cases e
end
end Dm
/-! Dm7: dicts that change, by data; sorted of them. -/
namespace Dm
open PySem PySem.Spec PyProof.Rows L2

section
variable {X : Cx} {pins : List (Addr × Obj)} {σ : L2.St} {H : Hp} {s : Shared}
mutual
theorem nested_of (I : Inv X pins σ H s) {B : Hp} (e : Same B H) : ∀ (d : D) (v : V) (u : Value) (k : NestedKey), RepP X.K B d v → RelV v u → toKey d = some k → NestedIs s.heap k u
  | .non, _, _, _, h, r, q => by simp only [RepP] at h; simp only [toKey] at q; cases q; subst h; cases r; exact .none
  | .bl b, _, _, _, h, r, q => by simp only [RepP] at h; simp only [toKey] at q; cases q; subst h; cases r; exact .bool (by cases b <;> rfl)
  | .int i, _, _, _, h, r, q => by simp only [RepP] at h; simp only [toKey] at q; cases q; subst h; obtain ⟨t, rfl⟩ := r; exact .int _ _
  | .str x, _, _, _, h, r, q => by simp only [RepP] at h; simp only [toKey] at q; cases q; subst h; obtain ⟨t, rfl⟩ := r; exact .text _ _
  | .tup ds, _, _, _, h, r, q => by
    simp only [RepP] at h
    simp only [toKey] at q
    obtain ⟨ks, q1, rfl⟩ := Option.map_eq_some_iff.mp q
    obtain ⟨a, vs, rfl, h1, h2⟩ := h
    cases r
    obtain ⟨its, rv, ⟨o, ho, hc, n, hd⟩, _⟩ := I.tuple (sameT e h1)
    exact .tup ho hc hd (by simpa using nesteds_of I e ds vs its ks h2 rv q1)
  | .lst _, _, _, _, _, _, q => by simp only [toKey] at q; cases q
  | .ins _ _, _, _, _, _, _, q => by simp only [toKey] at q; cases q
  | .loc _, _, _, _, _, _, q => by simp only [toKey] at q; cases q
theorem nesteds_of (I : Inv X pins σ H s) {B : Hp} (e : Same B H) : ∀ (ds : List D) (vs : List V) (us : List Value) (ks : List NestedKey), RepA X.K B ds vs → Vals vs us → toKeys ds = some ks → NestedAll s.heap ks us
  | [], _, _, _, h, r, q => by simp only [RepA] at h; simp only [toKeys] at q; cases q; subst h; cases r; exact .nil
  | d :: ds, _, _, _, h, r, q => by
    simp only [RepA] at h
    obtain ⟨v, r', rfl, h1, h2⟩ := h
    simp only [toKeys] at q
    split at q
    · rename_i k ks hk hks
      cases q
      cases r with
      | cons ra rb => exact .cons (nested_of I e d v _ k h1 ra hk) (nesteds_of I e ds r' _ ks h2 rb hks)
    · cases q
end
abbrev KP (g : Gx) (B : Hp) : (D × D) → (NestedKey × Addr × Value) → Prop := fun p q => toKey p.1 = some q.1 ∧ q.1.depth ≤ 8 ∧ RepP g.K B p.1 (.ref q.2.1) ∧ ∃ v, RelV v q.2.2 ∧ RepP g.K B p.2 v
theorem mem_paired {α β : Type} {F : α → β → Prop} : ∀ {l₁ : List α} {l₂ : List β}, Paired F l₁ l₂ → ∀ b ∈ l₂, ∃ a ∈ l₁, F a b
  | _, _, .nil, b, h => by cases h
  | _, _, .cons r t, b, h => by
    rcases List.mem_cons.mp h with rfl | h
    · exact ⟨_, List.mem_cons_self, r⟩
    · obtain ⟨a, h1, h2⟩ := mem_paired t b h
      exact ⟨a, List.mem_cons_of_mem _ h1, h2⟩
/-- the dict object as the library knows it -/
theorem dict_of (I : Inv X pins σ H s) {B : Hp} (e : Same B H) {a : Addr} {kvs : List (D × D)} {xs : List (NestedKey × Addr × Value)} (h : H a = some (.ext (DicAt (gx X) a xs))) (p : Paired (KP (gx X) B) kvs xs) : s.heap.DictOfH (nestedKind X.prog X.w) a xs := by
  obtain ⟨⟨o, es, ep, h1, h2, h3, h4, h5⟩, _, _⟩ := (show ObjOk X.prog X.w H s.heap a (.ext (DicAt (gx X) a xs)) from I.hok a _ h)
  refine ⟨o, es, ep, h1, h2, h3, h4, fun x hx => ?_, h5⟩
  obtain ⟨q, _, k1, k2, k3, _⟩ := mem_paired p x hx
  exact ⟨nested_of I e q.1 _ _ _ k3 rfl k1, k2⟩
def hasT (kvs : List (D × D)) (d : D) : Bool := kvs.any fun p => decide (toKey p.1 = toKey d)
def putT (kvs : List (D × D)) (d v : D) : List (D × D) := if hasT kvs d then kvs.map (fun p => if toKey p.1 = toKey d then (p.1, v) else p) else kvs ++ [(d, v)]
theorem has_ok {g : Gx} {B : Hp} {d : D} {k : NestedKey} (hk : toKey d = some k) : ∀ {kvs : List (D × D)} {xs : List (NestedKey × Addr × Value)}, Paired (KP g B) kvs xs → (atKey xs k).isSome = hasT kvs d
  | _, _, .nil => rfl
  | p :: kvs, q :: xs, .cons r t => by
    have ih := has_ok hk t
    unfold hasT atKey at *
    rw [List.any_cons, List.find?_cons, hk, r.1]
    by_cases e : q.1 = k
    · rw [decide_eq_true e, decide_eq_true (by rw [e])]
      rfl
    · rw [decide_eq_false e, decide_eq_false (fun z => e (Option.some.inj z))]
      rw [hk] at ih
      exact ih
theorem paired_map {α β : Type} {F : α → β → Prop} {f : α → α} {g : β → β} (h : ∀ a b, F a b → F (f a) (g b)) : ∀ {l : List α} {m : List β}, Paired F l m → Paired F (l.map f) (m.map g)
  | _, _, .nil => .nil
  | _, _, .cons r t => .cons (h _ _ r) (paired_map h t)
theorem paired_app {α β : Type} {F : α → β → Prop} {a : α} {b : β} (h : F a b) : ∀ {l : List α} {m : List β}, Paired F l m → Paired F (l ++ [a]) (m ++ [b])
  | _, _, .nil => .cons h .nil
  | _, _, .cons r t => .cons r (paired_app h t)
theorem put_ok {g : Gx} {B : Hp} {d v : D} {k : NestedKey} {ka : Addr} {x : V} {u : Value} (hk : toKey d = some k) (h8 : k.depth ≤ 8) (rd : RepP g.K B d (.ref ka)) (rv : RepP g.K B v x) (ru : RelV x u) {kvs : List (D × D)} {xs : List (NestedKey × Addr × Value)} (p : Paired (KP g B) kvs xs) : Paired (KP g B) (putT kvs d v) (storedH xs k ka u) := by
  unfold putT storedH
  rw [has_ok hk p]
  split
  · refine paired_map (fun q r h => ?_) p
    unfold putAt
    by_cases e : r.1 = k
    · rw [if_pos (by rw [h.1, hk, e]), if_pos e]
      exact ⟨h.1, h.2.1, h.2.2.1, x, ru, rv⟩
    · rw [if_neg (by rw [h.1, hk]; exact fun z => e (Option.some.inj z)), if_neg e]
      exact h
  · exact paired_app ⟨hk, h8, rd, x, ru, rv⟩ p
def putI (kvs : List (Int × D)) (n : Int) (v : D) : List (Int × D) := if kvs.any (fun p => decide (p.1 = n)) then kvs.map (fun p => if p.1 = n then (p.1, v) else p) else kvs ++ [(n, v)]
abbrev KI (K : PySem.W.Frag) (B : Hp) : (Int × D) → (Key × V) → Prop := fun p q => q.1 = Sum.inl p.1 ∧ RepP K B p.2 q.2
theorem anyI {K : PySem.W.Frag} {B : Hp} {n : Int} : ∀ {kvs : List (Int × D)} {kv : List (Key × V)}, Paired (KI K B) kvs kv → (kv.any fun q => decide (q.1 = Sum.inl n)) = kvs.any fun p => decide (p.1 = n)
  | _, _, .nil => rfl
  | a :: l, b :: m, .cons h t => by
    rw [List.any_cons, List.any_cons, anyI t, h.1]
    congr 1
    by_cases e : a.1 = n
    · rw [decide_eq_true e, decide_eq_true (by rw [e])]
    · rw [decide_eq_false e, decide_eq_false (fun z => e (Sum.inl.inj z))]
theorem putI_ok {K : PySem.W.Frag} {B : Hp} {n : Int} {v : D} {x : V} (rv : RepP K B v x) {kvs : List (Int × D)} {kv : List (Key × V)} (p : Paired (KI K B) kvs kv) : Paired (KI K B) (putI kvs n v) (putK kv (Sum.inl n) x) := by
  unfold putI putK
  rw [anyI p]
  split
  · refine paired_map (fun a b h => ?_) p
    by_cases e : a.1 = n
    · rw [if_pos e, if_pos (by rw [h.1, e])]
      exact ⟨h.1, rv⟩
    · rw [if_neg e, if_neg (by rw [h.1]; exact fun z => e (Sum.inl.inj z))]
      exact h
  · exact paired_app ⟨rfl, rv⟩ p
/-- d[k] = v -/
def putM (mu : Mem) (o i v : D) : Option Mem := match o with
  | .loc j => match mu[j]? with
    | some (.dicI kvs) => match i with
      | .int n => if isMut v || Nat.ble 100000 kvs.length then none else some (mu.set j (.dicI (putI kvs n v)))
      | _ => none
    | some (.dicT kvs) => match i with
      | .tup ds => match toKey (.tup ds) with
        | some k => if isMut v || Nat.ble 100000 kvs.length || Nat.ble 9 k.depth then none else some (mu.set j (.dicT (putT kvs (.tup ds) v)))
        | none => none
      | _ => none
    | _ => none
  | _ => none
def rPutM (g : Gx) : TSet := fun o i v H Q => ∃ W mu d1 d2 d3 mu', SR g W H mu ∧ Rep g.K W d1 o ∧ Rep g.K W d2 i ∧ Rep g.K W d3 v ∧ putM mu d1 d2 d3 = some mu' ∧ ∀ H', SR g W H' mu' → Q H'
theorem set_dict (hu : X.A.units + 1 + 8 < cLine) : PSet X (rPutM (gx X)) := by
  intro pins s σ H o i v ov iv u Q I ro ri rv h
  obtain ⟨W, mu, d1, d2, d3, mu', S, h1, h2, h3, e, k⟩ := h
  cases d1 with
  | loc j =>
    obtain ⟨a, ha, rfl⟩ := h1.loc
    cases ro
    dsimp only [putM] at e
    split at e
    · rename_i kvs hm
      split at e
      · rename_i n
        split at e
        · cases e
        · rename_i nm
          cases e
          rw [Bool.not_eq_true, Bool.or_eq_false_iff] at nm
          obtain ⟨hB, kv, hH, p⟩ := S.cell j a _ ha hm
          have r3 := h3.pure nm.1
          have hl : kv.length < sizeLine := by
            have l1 := Paired.length p
            have : ¬ 100000 ≤ kvs.length := fun h => by
              have := Nat.ble_eq_true_of_le h
              rw [nm.2] at this
              cases this
            rw [sizeLine_eq]
            omega
          have ei := h2.int
          subst ei
          have S2 := S.write (o := .dK (putK kv (Sum.inl n) v)) (m' := .dicI (putI kvs n d3)) ha hm hB ⟨hB, _, upd_same, putI_ok r3 p⟩
          exact d_setItem (by omega) I (DPut.k (k := Sum.inl n) hH hl) ri rv fun s' I' => ⟨_, I', k _ S2⟩
      · cases e
    · rename_i kvs hm
      split at e
      · rename_i ds
        split at e
        · rename_i key hk
          split at e
          · cases e
          · rename_i nm
            cases e
            rw [Bool.not_eq_true, Bool.or_eq_false_iff, Bool.or_eq_false_iff] at nm
            obtain ⟨hB, hsys, hlen, xs, hH, p⟩ := S.cell j a _ ha hm
            have r3 := h3.pure nm.1.1
            have nl : ¬ 100000 ≤ kvs.length := fun h => by
              have := Nat.ble_eq_true_of_le h
              rw [nm.1.2] at this
              cases this
            have h8 : key.depth ≤ 8 := by
              have : ¬ 9 ≤ key.depth := fun h => by
                have := Nat.ble_eq_true_of_le h
                rw [nm.2] at this
                cases this
              omega
            have r2 : RepP X.K W.B (.tup ds) i := h2
            obtain ⟨ka, kvs', rfl, _, _⟩ := h2.tup
            cases ri
            have hx := dict_of I S.ext hH p
            have hki : (nestedKind X.prog X.w).is s.heap key ka := ⟨nested_of I S.ext _ _ _ _ r2 rfl hk, h8⟩
            have l1 := Paired.length p
            refine wpAny_setItem_heap (hsz := by rw [sizeLine_eq]; omega) hu hki hx fun h' hm' hs => ?_
            obtain ⟨o', es', ep', g1, g2, g3, g4, _, g6⟩ := hm'
            have at' : DicAt (gx X) a (storedH xs key ka u) h' := ⟨o', es', ep', g1, g2, g3, g4, g6⟩
            have I' : Inv X pins σ (upd H a (.ext (DicAt (gx X) a (storedH xs key ka u)))) { s with heap := h', toks := s.toks + (nestedKind X.prog X.w).draws key } :=
              I.write (e := a) (by rw [hH]; trivial) (.inl rfl) (fun b q hb hq => (hs.2 b hb).trans hq) ⟨_, g1⟩ ⟨at', ⟨_, g1⟩, fun ha hb p1 p2 => by
                obtain ⟨o1, e1, p1', q1, q2, q3, q4, q5⟩ := p1
                exact ⟨o1, e1, p1', p2 _ q1, q2, q3, q4, q5⟩⟩
            have pl : (putT kvs (.tup ds) d3).length ≤ kvs.length + 1 := by
              unfold putT
              split
              · rw [List.length_map]; omega
              · rw [List.length_append]; exact Nat.le_refl _
            have S2 := S.write (o := .ext (DicAt (gx X) a (storedH xs key ka u))) (m' := .dicT (putT kvs (.tup ds) d3)) ha hm hB ⟨hB, hsys, by rw [sizeLine_eq]; omega, _, upd_same, put_ok hk h8 r2 r3 rv p⟩
            exact ⟨_, I', k _ S2⟩
        · cases e
      · cases e
    · cases e
  | _ => cases e
def putS (fo fi fv : SE) : SS := fun de mu => (fv de mu).bind fun v => (fo de v.2).bind fun o => (fi de o.2).bind fun i => (putM i.2 o.1 i.1 v.1).map fun m => (.nx, de, m)
theorem ds_put {st : Stmt} {f1 f2 f3 : SE} (h : PS X st (tAsg (tD (gx X) f3) (gSub (tD (gx X) f1) (tD (gx X) f2) (rPutM (gx X))))) : DS X st (putS f1 f2 f3) := ds_weak h fun E σ H h => by
  obtain ⟨de, W, mu, o, de', mu', hE, S, e, k⟩ := h
  unfold putS at e
  obtain ⟨⟨dv, m1⟩, e1, e⟩ := Option.bind_eq_some_iff.mp e
  obtain ⟨⟨do_, m2⟩, e2, e⟩ := Option.bind_eq_some_iff.mp e
  obtain ⟨⟨di, m3⟩, e3, e⟩ := Option.bind_eq_some_iff.mp e
  obtain ⟨m4, e4, e⟩ := Option.map_eq_some_iff.mp e
  cases e
  refine ⟨de, W, mu, dv, m1, hE, S, e1, fun v H1 W1 x1 S1 r1 => ?_⟩
  refine ⟨de, W1, m1, do_, m2, hE.mono x1, S1, e2, fun o H2 W2 x2 S2 r2 => ?_⟩
  refine ⟨de, W2, m2, di, m3, hE.mono (x1.trans x2), S2, e3, fun i H3 W3 x3 S3 r3 => ?_⟩
  exact ⟨W3, m3, do_, di, dv, mu', S3, r2.mono x3, r3, (r1.mono x2).mono x3, e4, fun H4 S4 => k σ H4 W3 ((x1.trans x2).trans x3) S4 (hE.mono ((x1.trans x2).trans x3))⟩
/-- {} whose keys are tuples -/
def dicTM : SE := fun _ mu => some (.loc mu.length, mu ++ [.dicT []])
theorem de_dicT {pos : Pos} : DE X (.Dict [] [] pos) dicTM := ⟨fun pins s σ H Q I h => by
  obtain ⟨de, W, mu, d, mu', hE, S, e, k⟩ := h
  cases e
  have np : H s.heap.objs.size = none := I.hok.fresh (Nat.le_refl _)
  have gs : (s.heap.push { cls := .type "dict", data := .dict #[] }).get? s.heap.objs.size = some { cls := .type "dict", data := .dict #[] } := Heap.get?_push_size _ rfl
  obtain ⟨o', es', ep', g1, g2, g3, g4, _, g6⟩ := Heap.DictOfH.new (knd := nestedKind X.prog X.w) s.heap
  have at' : DicAt (gx X) s.heap.objs.size [] (s.heap.push { cls := .type "dict", data := .dict #[] }) := ⟨o', es', ep', g1, g2, g3, g4, g6⟩
  have I' : Inv X pins σ (upd H s.heap.objs.size (.ext (DicAt (gx X) s.heap.objs.size []))) { s with heap := s.heap.push { cls := .type "dict", data := .dict #[] } } :=
    I.laid (t' := s.toks) (fun _ _ q => Heap.get?_push_of_some _ q) (Nat.le_refl _) ⟨at', ⟨_, g1⟩, fun ha hb p1 p2 => by
      obtain ⟨o1, e1, p1', q1, q2, q3, q4, q5⟩ := p1
      exact ⟨o1, e1, p1', p2 _ q1, q2, q3, q4, q5⟩⟩
  obtain ⟨S2, x2⟩ := S.growM (o := .ext (DicAt (gx X) s.heap.objs.size [])) (m := .dicT []) np ⟨S.ext.free np, by
    have hb := I.big
    simpa using (Nat.ne_of_gt hb), Nat.zero_le _, [], upd_same, .nil⟩
  refine wpAny_Dict_empty ⟨.ref s.heap.objs.size, _, I', rfl, k _ _ _ x2 S2 ⟨s.heap.objs.size, ?_, rfl⟩⟩
  show (W.rho ++ [s.heap.objs.size])[mu.length]? = some s.heap.objs.size
  rw [← S.len]
  simp⟩
/-- t in d, t not in d -/
def inT (mu : Mem) (x y : D) : Option Bool := match y with
  | .loc j => match mu[j]? with
    | some (.dicT kvs) => match x with
      | .tup ds => match toKey (.tup ds) with
        | some k => if Nat.ble 9 k.depth then none else some (hasT kvs (.tup ds))
        | none => none
      | _ => none
    | _ => none
  | _ => none
theorem inT_ok {W : Wd} {mu : Mem} (I : Inv X pins σ H s) (S : SR (gx X) W H mu) {x y : D} {v u : V} {vv uv : Value} {b : Bool} (hx : Rep X.K W x v) (hy : Rep X.K W y u) (rx : RelV v vv) (ry : RelV u uv) (e : inT mu x y = some b) :
    ∃ a ka xs k, vv = .ref ka ∧ uv = .ref a ∧ (nestedKind X.prog X.w).is s.heap k ka ∧ (a == sysModules) = false ∧ s.heap.DictOfH (nestedKind X.prog X.w) a xs ∧ (atKey xs k).isSome = b := by
  cases y with
  | loc j =>
    obtain ⟨a, ha, rfl⟩ := hy.loc
    cases ry
    dsimp only [inT] at e
    split at e
    · rename_i kvs hm
      split at e
      · rename_i ds
        split at e
        · rename_i key hk
          split at e
          · cases e
          · rename_i nm
            cases e
            have h8 : key.depth ≤ 8 := by
              have : ¬ 9 ≤ key.depth := fun h => nm (Nat.ble_eq_true_of_le h)
              omega
            obtain ⟨hB, hsys, hlen, xs, hH, p⟩ := S.cell j a _ ha hm
            have r2 : RepP X.K W.B (.tup ds) v := hx
            obtain ⟨ka, kvs', rfl, _, _⟩ := hx.tup
            cases rx
            exact ⟨a, ka, xs, key, rfl, rfl, ⟨nested_of I S.ext _ _ _ _ r2 rfl hk, h8⟩, hsys, dict_of I S.ext hH p, has_ok hk p⟩
        · cases e
      · cases e
    · cases e
  | _ => cases e
def inTQ : Mem → D → D → Option D := fun mu x y => (inT mu x y).map .bl
def ninTQ : Mem → D → D → Option D := fun mu x y => (inT mu x y).map fun b => .bl (!b)
theorem opd_inT (hu : X.A.units + 1 + 8 < cLine) : OpD X (compareOp .In) inTQ := by
  intro pins s σ H xv yv v u Q I rx ry h
  obtain ⟨W, mu, x, y, d, S, hx, hy, e, k⟩ := h
  obtain ⟨b, e1, rfl⟩ := Option.map_eq_some_iff.mp e
  obtain ⟨a, ka, xs, key, rfl, rfl, h1, h2, h3, h4⟩ := inT_ok I S hx hy rx ry e1
  refine wpAny_in_heap hu h1 h2 h3 ?_
  rw [h4]
  exact ⟨.bl b, H, I.tok _, rfl, k _ H W (Ext.refl W) S r_bl⟩
theorem opd_ninT (hu : X.A.units + 1 + 8 < cLine) : OpD X (compareOp .NotIn) ninTQ := by
  intro pins s σ H xv yv v u Q I rx ry h
  obtain ⟨W, mu, x, y, d, S, hx, hy, e, k⟩ := h
  obtain ⟨b, e1, rfl⟩ := Option.map_eq_some_iff.mp e
  obtain ⟨a, ka, xs, key, rfl, rfl, h1, h2, h3, h4⟩ := inT_ok I S hx hy rx ry e1
  show wpAny _ _ (do return Value.bool (!(← contains (.ref a) (.ref ka)))) _ _ s
  refine wpAny_bind (wpAny_contains_heap hu h1 h2 h3 (wpAny_pure ?_))
  rw [h4]
  exact ⟨.bl (!b), H, I.tok _, rfl, k _ H W (Ext.refl W) S r_bl⟩
/-! ### sorted -/
def pyT (d : D) : PyData := (toPy d).getD .none
def okKey : D → Bool
  | .tup (x :: r) => (x :: r).all flatD
  | _ => false
def keysT (mu : Mem) : D → Option (List D)
  | .loc j => match mu[j]? with
    | some (.dicT kvs) => some (kvs.map (·.1))
    | _ => none
  | _ => none
def keysI (mu : Mem) : D → Option (List Int)
  | .loc j => match mu[j]? with
    | some (.dicI kvs) => some (kvs.map (·.1))
    | _ => none
  | _ => none
def alikeL (ds : List D) : Bool := ds.all fun a => ds.all fun b => PySem.W.alike (pyT a) (pyT b)
def srtTQ : Mem → List D → Option D := fun mu ds => match ds with
  | [x] => match keysT mu x with
    | some ks => if ks.all okKey && (alikeL ks && Nat.ble ks.length 1000) then some (.lst (ks.mergeSort (PySem.W.dataLe false pyT))) else none
    | none => none
  | _ => none
def srtIQ : Mem → List D → Option D := fun mu ds => match ds with
  | [x] => match keysI mu x with
    | some ks => if Nat.ble ks.length 63 then some (.lst ((ks.mergeSort fun a b => decide (a ≤ b)).map .int)) else none
    | none => none
  | _ => none
theorem keysI_map {K : PySem.W.Frag} {B : Hp} : ∀ {kvs : List (Int × D)} {kv : List (Key × V)}, Paired (KI K B) kvs kv → kv.map (·.1) = (kvs.map (·.1)).map Sum.inl
  | _, _, .nil => rfl
  | a :: l, b :: m, .cons h t => by rw [List.map_cons, List.map_cons, List.map_cons, keysI_map t, h.1]
theorem cd_sortI (hc : X.calm = true) : CallD X (.builtin "sorted") srtIQ := calld_intro (call_sortedDI hc) fun W H mu ds d vs Q S r e k => by
  unfold srtIQ at e
  split at e
  · rename_i x
    obtain ⟨v, rfl, rv⟩ := r.one
    split at e
    · rename_i ks hk
      split at e
      · rename_i hl
        cases e
        have hl := Nat.le_of_ble_eq_true hl
        cases x with
        | loc j =>
          have hk : (match mu[j]? with
            | some (.dicI kvs) => some (kvs.map (·.1))
            | _ => none) = some ks := hk
          obtain ⟨a, ha, rfl⟩ := rv.loc
          split at hk
          · rename_i kvs hm
            cases hk
            obtain ⟨hB, kv, hH, p⟩ := S.cell j a _ ha hm
            have ek : kv.map (·.1) = (kvs.map (·.1)).map Sum.inl := keysI_map p
            refine ⟨a, kv, kvs.map (·.1), rfl, .inl hH, ek, by omega, fun ys q hp hs nq => ?_⟩
            have ey : ys = (kvs.map (·.1)).mergeSort fun a b => decide (a ≤ b) := by
              refine List.Perm.eq_of_pairwise (le := fun a b : Int => a ≤ b) (fun x y _ _ h1 h2 => Int.le_antisymm h1 h2) hs ?_ (hp.trans (List.mergeSort_perm _ _).symm)
              have := List.pairwise_mergeSort (le := fun a b : Int => decide (a ≤ b)) (fun a b c h1 h2 => by simp at *; omega) (fun a b => by simp; omega) (kvs.map (·.1))
              exact this.imp fun h => of_decide_eq_true h
            subst ey
            obtain ⟨S2, x2⟩ := S.grow (o := .lst (((kvs.map (·.1)).mergeSort fun a b => decide (a ≤ b)).map V.int)) nq
            refine k _ _ _ x2 S2 (Rep.of ?_)
            simp only [RepP]
            refine ⟨q, _, rfl, .inl (.inl upd_same), ?_⟩
            generalize ((kvs.map (·.1)).mergeSort fun a b => decide (a ≤ b)) = zs
            generalize upd W.B q _ = B2
            induction zs with
            | nil => exact RepA.nil
            | cons z zs ih => exact RepA.cons rp_int ih
          · cases hk
        | _ => cases hk
      · cases e
    · cases e
  · cases e
/-- flat data reads off no list -/
theorem reads_flat {K : PySem.W.Frag} {B : Hp} : ∀ {ds : List D} {vs : List V} {us : List Value} {h : Heap}, RepA K B ds vs → Vals vs us → ds.all flatD = true → ReadsAll h us (ds.map pyT) [] ∧ toPys ds = some (ds.map pyT) ∧ PyData.depthAll (ds.map pyT) = 0
  | [], _, _, _, h, r, _ => by
    simp only [RepA] at h
    subst h
    cases r
    exact ⟨.nil, by simp only [toPys]; rfl, by simp [PyData.depthAll]⟩
  | d :: ds, _, _, hh, h, r, f => by
    simp only [RepA] at h
    obtain ⟨v, r', rfl, h1, h2⟩ := h
    rw [List.all_cons, Bool.and_eq_true] at f
    cases r with
    | @cons _ uu _ _ ra rb =>
      obtain ⟨q1, q2, q3⟩ := reads_flat (h := hh) h2 rb f.2
      rw [List.map_cons]
      have one : Reads hh uu (pyT d) [] ∧ toPy d = some (pyT d) ∧ (pyT d).depth = 0 := by
        cases d with
        | non => simp only [RepP] at h1; subst h1; cases ra; exact ⟨.none, rfl, by simp [pyT, toPy, PyData.depth]⟩
        | bl b => simp only [RepP] at h1; subst h1; cases ra; exact ⟨.bool _, rfl, by simp [pyT, toPy, PyData.depth]⟩
        | int i => simp only [RepP] at h1; subst h1; obtain ⟨t, rfl⟩ := ra; exact ⟨.int _ _, rfl, by simp [pyT, toPy, PyData.depth]⟩
        | str x => simp only [RepP] at h1; subst h1; obtain ⟨t, rfl⟩ := ra; exact ⟨.str _ _, rfl, by simp [pyT, toPy, PyData.depth]⟩
        | _ => exact absurd f.1 (by simp [flatD])
      refine ⟨by simpa using ReadsAll.cons one.1 q1, ?_, ?_⟩
      · simp only [toPys, one.2.1, q2]
      · rw [PyData.depthAll, one.2.2, q3]
        rfl
theorem flat_shape : ∀ {ds : List D}, ds.all flatD = true → toPys ds = some (ds.map pyT) ∧ PyData.depthAll (ds.map pyT) = 0
  | [], _ => ⟨by simp only [toPys]; rfl, by simp [PyData.depthAll]⟩
  | d :: ds, f => by
    rw [List.all_cons, Bool.and_eq_true] at f
    obtain ⟨q2, q3⟩ := flat_shape (ds := ds) f.2
    have one : toPy d = some (pyT d) ∧ (pyT d).depth = 0 := by
      cases d with
      | non => exact ⟨rfl, by simp [pyT, toPy, PyData.depth]⟩
      | bl b => exact ⟨rfl, by simp [pyT, toPy, PyData.depth]⟩
      | int i => exact ⟨rfl, by simp [pyT, toPy, PyData.depth]⟩
      | str x => exact ⟨rfl, by simp [pyT, toPy, PyData.depth]⟩
      | _ => exact absurd f.1 (by simp [flatD])
    refine ⟨by simp only [toPys, one.1, q2]; rfl, ?_⟩
    rw [List.map_cons, PyData.depthAll, one.2, q3]
    rfl
theorem reads_key (I : Inv X pins σ H s) {B : Hp} (e : Same B H) {d : D} {v : V} {u : Value} (h : RepP X.K B d v) (r : RelV v u) (ok : okKey d = true) : Reads s.heap u (pyT d) [] ∧ (∃ x r, pyT d = .tuple (x :: r)) ∧ (pyT d).depth ≤ 1 := by
  cases d with
  | tup ds =>
    simp only [RepP] at h
    obtain ⟨a, vs, rfl, h1, h2⟩ := h
    cases r
    obtain ⟨its, rv, ⟨o, ho, hc, n, hd⟩, _⟩ := I.tuple (sameT e h1)
    cases ds with
    | nil => cases ok
    | cons x ds =>
      obtain ⟨q1, q2, q3⟩ := reads_flat (h := s.heap) h2 rv ok
      have ep : pyT (.tup (x :: ds)) = .tuple ((x :: ds).map pyT) := by
        unfold pyT
        simp only [toPy]
        rw [q2]
        rfl
      refine ⟨?_, ⟨_, _, ep⟩, ?_⟩
      · rw [ep]
        exact .tuple ho hc hd (by simpa using q1)
      · rw [ep, PyData.depth, q3]
        exact Nat.le_refl _
  | _ => cases ok
theorem each_of {α β : Type} {R : α → β → Prop} : ∀ {l : List α} {m : List β}, l.length = m.length → (∀ (i : Nat) (a : α) (b : β), l[i]? = some a → m[i]? = some b → R a b) → PySem.W.EachIs R l m
  | [], [], _, _ => .nil
  | a :: l, b :: m, h, f => .cons (f 0 a b rfl rfl) (each_of (by simpa using h) fun i x y h1 h2 => f (i + 1) x y (by simpa using h1) (by simpa using h2))
  | [], _ :: _, h, _ => by simp at h
  | _ :: _, [], h, _ => by simp at h
theorem each_rep {K : PySem.W.Frag} {B : Hp} : ∀ {us : List Value} {ds : List D}, PySem.W.EachIs (fun u d => ∃ v, RelV v u ∧ RepP K B d v) us ds → ∃ vs, Vals vs us ∧ RepA K B ds vs
  | _, _, .nil => ⟨[], .nil, RepA.nil⟩
  | _, _, .cons ⟨v, h1, h2⟩ t => by
    obtain ⟨vs, h3, h4⟩ := each_rep t
    exact ⟨v :: vs, .cons h1 h3, RepA.cons h2 h4⟩
theorem kp_get {g : Gx} {B : Hp} : ∀ {kvs : List (D × D)} {xs : List (NestedKey × Addr × Value)} {i : Nat} {x : NestedKey × Addr × Value}, Paired (KP g B) kvs xs → xs[i]? = some x → ∃ p, kvs[i]? = some p ∧ KP g B p x
  | _, _, _, _, .nil, h => by simp at h
  | p :: kvs, q :: xs, 0, x, .cons r t, h => by
    have : q = x := by simpa using h
    subst this
    exact ⟨p, rfl, r⟩
  | p :: kvs, q :: xs, i + 1, x, .cons r t, h => by
    obtain ⟨p', h1, h2⟩ := kp_get (i := i) t (by simpa using h)
    exact ⟨p', by simpa using h1, h2⟩
theorem key_shape {d : D} (ok : okKey d = true) : (∃ x r, pyT d = .tuple (x :: r)) ∧ (pyT d).depth ≤ 1 := by
  cases d with
  | tup ds =>
    cases ds with
    | nil => cases ok
    | cons x ds =>
      obtain ⟨q2, q3⟩ := flat_shape (ds := x :: ds) ok
      have ep : pyT (.tup (x :: ds)) = .tuple ((x :: ds).map pyT) := by
        unfold pyT
        simp only [toPy]
        rw [q2]
        rfl
      exact ⟨⟨_, _, ep⟩, by rw [ep, PyData.depth, q3]; exact Nat.le_refl _⟩
  | _ => cases ok
theorem cd_sortT (hcalm : X.calm = true) (hu : X.A.units + 64 < cLine) : CallD X (.builtin "sorted") srtTQ := by
  intro pins s σ H xs us Q I r h
  obtain ⟨W, mu, ds, d, S, rl, e, k⟩ := h
  unfold srtTQ at e
  split at e
  · rename_i x
    obtain ⟨v, rfl, rv⟩ := rl.one
    obtain ⟨u, rfl, rx⟩ := vals1 r
    split at e
    · rename_i ks hk
      split at e
      · rename_i hl
        cases e
        rw [Bool.and_eq_true, Bool.and_eq_true] at hl
        obtain ⟨ok, al, hle⟩ := hl
        have hle := Nat.le_of_ble_eq_true hle
        cases x with
        | loc j =>
          obtain ⟨a, ha, rfl⟩ := rv.loc
          cases rx
          have hk : (match mu[j]? with
            | some (.dicT kvs) => some (kvs.map (·.1))
            | _ => none) = some ks := hk
          split at hk
          · rename_i kvs hm
            cases hk
            obtain ⟨hB, hsys, hlen, ys, hH, p⟩ := S.cell j a _ ha hm
            obtain ⟨o, es, ep, g1, g2, g3, g4, g5, g6⟩ := dict_of I S.ext hH p
            have hraw : s.heap.DictRaw a es ep := ⟨o, g1, g2, g3⟩
            have esz : es.size = kvs.length := by
              rw [size_of_entries g4]
              exact (Paired.length p).symm
            refine Calls.call_function_entry PyProof.Rows.kind_sorted PyProof.Rows.plain_sorted PyProof.Rows.entry_sorted (PyProof.Rows.args_sorted1 _) ?_
            unfold Builtin.«sorted»
            refine wpAny_bind (m := checkCount "sorted" 1 1 _) (wpAny_pure ?_)
            rw [List.length_map] at hle
            refine wpAny_bind (PySem.W.kdu_collect (A := X.A.in1) (PySem.KdlSrc.rawDict (es := es) (ep := ep) hsys) (I.ok.hd hcalm) hraw (by rw [esz, sizeLine_eq]; omega) fun h' tk acc hkp hacc => ?_)
            have I1 : Inv X pins σ H { s with heap := h', toks := tk } := I.kept hkp
            have hal : acc.toList.length = kvs.length := by rw [Array.length_toList, hacc.1, esz]
            have item : ∀ (i : Nat) (u : Value) (d : D), acc.toList[i]? = some u → (kvs.map (·.1))[i]? = some d → ∃ v, RelV v u ∧ RepP X.K W.B d v := fun i u d hu hd => by
              obtain ⟨hi, ev⟩ := hacc.2 i u (by rw [← Array.getElem?_toList]; exact hu)
              have he := entry_at g4 i
              rw [Array.getElem?_eq_getElem hi] at he
              obtain ⟨y, hy, ey⟩ := Option.map_eq_some_iff.mp he.symm
              obtain ⟨q, hq, kq⟩ := kp_get p hy
              rw [List.getElem?_map, hq] at hd
              cases hd
              refine ⟨.ref y.2.1, ?_, kq.2.2.1⟩
              show u = Value.ref y.2.1
              rw [ev, ← ey]
              rfl
            have each : PySem.W.EachIs (fun u d => ∃ v, RelV v u ∧ RepP X.K W.B d v) acc.toList (kvs.map (·.1)) := each_of (by rw [hal, List.length_map]) item
            refine wpAny_bind (wpAny_newList ?_ (by rw [hal, sizeLine_eq]; omega))
            have hoL : (h'.push (seqObj "list" acc.toList.toArray 0)).get? h'.objs.size = some (seqObj "list" acc.toList.toArray 0) := Heap.get?_push_size _ rfl
            show wpAny _ _ _ _ _ { s with heap := h'.push (seqObj "list" acc.toList.toArray 0), toks := tk }
            have hgrow : ∀ b o, h'.get? b = some o → (h'.push (seqObj "list" acc.toList.toArray 0)).get? b = some o := fun b o q => Heap.get?_push_of_some _ q
            have rds : ∀ (u : Value) (d : D), d ∈ (kvs.map (·.1)) → (∃ v, RelV v u ∧ RepP X.K W.B d v) → Reads (h'.push (seqObj "list" acc.toList.toArray 0)) u (pyT d) [] := fun u d hd ⟨v, h1, h2⟩ =>
              PyProof.Rows.Reads.keeps (fun b o q => hgrow b o q) (reads_key I1 S.ext h2 h1 (List.all_eq_true.mp ok d hd)).1
            have er : PySem.W.EachIs (fun u d => ∃ as, Reads (h'.push (seqObj "list" acc.toList.toArray 0)) u (pyT d) as ∧ h'.objs.size ∉ as) acc.toList (kvs.map (·.1)) :=
              (PySem.W.each_mem each).mono fun u d ⟨h1, h2⟩ => ⟨[], rds u d h2 h1, by simp⟩
            have hal2 : PySem.W.AllAlike ((kvs.map (·.1)).map pyT) := by
              intro x hx y hy
              obtain ⟨x', hx', rfl⟩ := List.mem_map.mp hx
              obtain ⟨y', hy', rfl⟩ := List.mem_map.mp hy
              exact List.all_eq_true.mp (List.all_eq_true.mp al x' hx') y' hy'
            have depth1 : ∀ d ∈ kvs.map (·.1), (∃ x r, pyT d = .tuple (x :: r)) ∧ (pyT d).depth ≤ 1 := fun d hd => key_shape (List.all_eq_true.mp ok d hd)
            have hso : PySem.W.Sortable ((kvs.map (·.1)).map pyT) := .inl fun x hx => by
              obtain ⟨x', hx', rfl⟩ := List.mem_map.mp hx
              exact (depth1 x' hx').1
            refine wpAny_bind (wpAny_holding (PySem.W.list_sort_data (A := X.A.in1) (s := { s with heap := h'.push (seqObj "list" acc.toList.toArray 0), toks := tk }) (enc := pyT) hoL each er hal2 hso (by rw [List.length_map, sizeLine_eq]; omega) (fun d hd => by
              have := (depth1 d hd).2
              have hin : X.A.in1.units = X.A.units + 1 := rfl
              omega) fun out ho eo => ?_))
            obtain ⟨e', he'⟩ := PyProof.Rows.sortedHeap_at (vs := acc.toList) (out := out.toArray) hoL
            obtain ⟨ws, hw1, hw2⟩ := each_rep eo
            have hlen : ws.length ≤ sizeLine := by
              rw [Paired.length hw1, ho, List.length_map, sizeLine_eq]; omega
            have hnone : H h'.objs.size = none := I1.hok.fresh (Nat.le_refl _)
            obtain ⟨S2, x2⟩ := S.grow (o := .lst ws) hnone
            refine wpAny_pure ⟨_, rfl, .ref h'.objs.size, upd H h'.objs.size (.lst ws), I1.laid (t' := tk) (fun b u e => ?_) (Nat.le_refl _)
              (show ObjOk X.prog X.w _ _ _ (.lst ws) from ⟨hlen, out, e', hw1, he'⟩), rfl, ?_⟩
            · have hb : b < h'.objs.size := Heap.lt_size e
              rw [PyProof.Rows.sortedHeap_old (Nat.ne_of_lt hb) (by rw [size_push']; exact Nat.lt_succ_of_lt hb)]
              exact Heap.get?_push_of_some _ e
            · refine k _ _ _ x2 S2 (Rep.of ?_)
              simp only [RepP]
              exact ⟨_, _, rfl, .inl (.inl upd_same), RepA.mono x2.2 _ _ hw2⟩
          · cases hk
        | _ => cases hk
      · cases e
    · cases e
  · cases e
end
end Dm
/-! Dm8: == by an own __eq__, tuples of such; a written dict's get; the module's constants. -/
namespace GQ
open PySem PySem.SeqAt
open AutoSeq1 (wpAny_loadPart')
open MeetsSeq MeetsSeq2 MeetsSeq3 SeqRoads2
section
variable {prog : Program} {w : World} {A : Around} {R : Result → Shared → Prop}
theorem tuple_eqZ (l b : Addr) (items items2 : Array Value) (n n2 : Nat) (dd dd2 : Option Addr) (sl sl2 : Array (Option Value)) (I : Nat → Shared → Prop)
    (turn : ∀ i (h1 : i < items.size) (h2 : i < items2.size) s, I i s → wpAny (model prog w) A.in1 (eqBool items[i] items2[i]) (fun r s' => r = true ∧ I (i + 1) s') (fun e s' => R (.error e) s') s)
    (fin : ∀ s, I (min items.size items2.size) s → R (.ok (.ret (.bool (items.size == items2.size)))) s) {s : Shared} (hl1 : s.heap.get? l = some { cls := .type "tuple", dict := dd, data := .seq items n, slots := sl }) (hb1 : s.heap.get? b = some { cls := .type "tuple", dict := dd2, data := .seq items2 n2, slots := sl2 }) (h : I 0 s) :
    wpAny (model prog w) A.in1 (Builtin.«tuple.__eq__» ⟨[.ref l, .ref b], []⟩) (FinOf prog w A R) (fun e s' => R (.error e) s') s := by
  have f2 := AutoSeq1.sub_tuple_tuple
  have hZ : (items.toList.zip items2.toList).length = min items.size items2.size := by simp
  have h0 := h
  obtain ⟨hp, g, d, tk, os⟩ := s
  wp_walk using wpAny_loadPart' hl1, wpAny_loadPart' hb1, wpAny_forIn_list _ (fun rest b s' => b.1 = none ∧ ∃ i, rest = (items.toList.zip items2.toList).drop i ∧ i ≤ min items.size items2.size ∧ I i s') _
  case turn =>
    rintro ⟨y, x⟩ rest b s' ⟨hb', i, hz, hi, hI⟩
    have hlt : i < (items.toList.zip items2.toList).length := by
      rcases Nat.lt_or_ge i (items.toList.zip items2.toList).length with h' | h'
      · exact h'
      · rw [List.drop_of_length_le h'] at hz; cases hz
    have hm : i < min items.size items2.size := hZ ▸ hlt
    have h1 : i < items.size := Nat.lt_of_lt_of_le hm (Nat.min_le_left _ _)
    have h2 : i < items2.size := Nat.lt_of_lt_of_le hm (Nat.min_le_right _ _)
    rw [List.drop_eq_getElem_cons hlt] at hz
    injection hz with hyx hrest
    have hy : y = items[i] := by have := congrArg Prod.fst hyx; simpa using this
    have hx : x = items2[i] := by have := congrArg Prod.snd hyx; simpa using this
    subst hy hx
    refine wpAny_bind (wpAny_mono (turn i h1 h2 s' hI) (fun r s2 q2 => ?_) fun _ _ x => x)
    obtain ⟨hr, q2⟩ := q2
    subst hr
    wp_walk
    exact ⟨rfl, i + 1, hrest, hm, q2⟩
  case fin =>
    rintro ⟨b1, b2⟩ s' ⟨hb', i, hz, hi, hI⟩
    simp only at hb'
    subst hb'
    have hge : min items.size items2.size ≤ i := by
      rcases Nat.lt_or_ge i (items.toList.zip items2.toList).length with h' | h'
      · rw [List.drop_eq_getElem_cons h'] at hz; cases hz
      · exact hZ ▸ h'
    have hi' : i = min items.size items2.size := Nat.le_antisymm hi hge
    have hR : R (.ok (.ret (.bool (items.size == items2.size)))) s' := fin s' (hi' ▸ hI)
    wp_walk
    simpa [Builtin.Tuple.tupleCompareSizes] using hR
  case h =>
    exact ⟨rfl, 0, rfl, Nat.zero_le _, h0⟩
theorem tuple_neZ (l b : Addr) (items items2 : Array Value) (n n2 : Nat) (dd dd2 : Option Addr) (sl sl2 : Array (Option Value)) (I : Nat → Shared → Prop)
    (turn : ∀ i (h1 : i < items.size) (h2 : i < items2.size) s, I i s → wpAny (model prog w) A.in1 (eqBool items[i] items2[i]) (fun r s' => r = true ∧ I (i + 1) s') (fun e s' => R (.error e) s') s)
    (fin : ∀ s, I (min items.size items2.size) s → R (.ok (.ret (.bool (items.size != items2.size)))) s) {s : Shared} (hl1 : s.heap.get? l = some { cls := .type "tuple", dict := dd, data := .seq items n, slots := sl }) (hb1 : s.heap.get? b = some { cls := .type "tuple", dict := dd2, data := .seq items2 n2, slots := sl2 }) (h : I 0 s) :
    wpAny (model prog w) A.in1 (Builtin.«tuple.__ne__» ⟨[.ref l, .ref b], []⟩) (FinOf prog w A R) (fun e s' => R (.error e) s') s := by
  have f2 := AutoSeq1.sub_tuple_tuple
  have hZ : (items.toList.zip items2.toList).length = min items.size items2.size := by simp
  have h0 := h
  obtain ⟨hp, g, d, tk, os⟩ := s
  wp_walk using wpAny_loadPart' hl1, wpAny_loadPart' hb1, wpAny_forIn_list _ (fun rest b s' => b.1 = none ∧ ∃ i, rest = (items.toList.zip items2.toList).drop i ∧ i ≤ min items.size items2.size ∧ I i s') _
  case turn =>
    rintro ⟨y, x⟩ rest b s' ⟨hb', i, hz, hi, hI⟩
    have hlt : i < (items.toList.zip items2.toList).length := by
      rcases Nat.lt_or_ge i (items.toList.zip items2.toList).length with h' | h'
      · exact h'
      · rw [List.drop_of_length_le h'] at hz; cases hz
    have hm : i < min items.size items2.size := hZ ▸ hlt
    have h1 : i < items.size := Nat.lt_of_lt_of_le hm (Nat.min_le_left _ _)
    have h2 : i < items2.size := Nat.lt_of_lt_of_le hm (Nat.min_le_right _ _)
    rw [List.drop_eq_getElem_cons hlt] at hz
    injection hz with hyx hrest
    have hy : y = items[i] := by have := congrArg Prod.fst hyx; simpa using this
    have hx : x = items2[i] := by have := congrArg Prod.snd hyx; simpa using this
    subst hy hx
    refine wpAny_bind (wpAny_mono (turn i h1 h2 s' hI) (fun r s2 q2 => ?_) fun _ _ x => x)
    obtain ⟨hr, q2⟩ := q2
    subst hr
    wp_walk
    exact ⟨rfl, i + 1, hrest, hm, q2⟩
  case fin =>
    rintro ⟨b1, b2⟩ s' ⟨hb', i, hz, hi, hI⟩
    simp only at hb'
    subst hb'
    have hge : min items.size items2.size ≤ i := by
      rcases Nat.lt_or_ge i (items.toList.zip items2.toList).length with h' | h'
      · rw [List.drop_eq_getElem_cons h'] at hz; cases hz
      · exact hZ ▸ h'
    have hi' : i = min items.size items2.size := Nat.le_antisymm hi hge
    have hR : R (.ok (.ret (.bool (items.size != items2.size)))) s' := fin s' (hi' ▸ hI)
    wp_walk
    simpa [Builtin.Tuple.tupleCompareSizes] using hR
  case h =>
    exact ⟨rfl, 0, rfl, Nat.zero_le _, h0⟩
end
section
variable {prog : Program} {w : World} {A : Around} {E : Value → Shared → Prop} {s : Shared}
theorem rc_eqZ {l b : Addr} {items items2 : Array Value} {Q : Value → Shared → Prop} (hu : A.units < cLine) (I : Nat → Shared → Prop)
    (hl : s.heap.IsTuple l items) (hb : s.heap.IsTuple b items2)
    (turn : ∀ i (h1 : i < items.size) (h2 : i < items2.size) s, I i s → wpAny (model prog w) A.in1 (eqBool items[i] items2[i]) (fun r s' => r = true ∧ I (i + 1) s') E s)
    (fin : ∀ s, I (min items.size items2.size) s → Q (.bool (items.size == items2.size)) s) (h : I 0 s) : wpAny (model prog w) A (richCompare .Eq (.ref l) (.ref b)) Q E s := by
  obtain ⟨⟨cls, dd, data, sl⟩, ho, hc, n, hd⟩ := id hl
  obtain ⟨⟨cls2, dd2, data2, sl2⟩, ho2, hc2, n2, hd2⟩ := id hb
  simp only at hc hd hc2 hd2
  subst hc hd hc2 hd2
  refine wpAny_richCompare_same_room (op := .Eq) ⟨_, ho, rfl⟩ ⟨_, ho2, rfl⟩ F.slot_tuple_eq (call_here F.slot_tuple_eq ⟨_, ho, rfl⟩ F.entry_tuple_eq (F.args_tuple_eq_2 _ _) ?_) hu
  exact tuple_eqZ (R := wants (fun v s' => v ≠ .notImplemented ∧ Q v s') E) l b items items2 n n2 dd dd2 sl sl2 I turn (fun s' q => ⟨(fun x => nomatch x), fin s' q⟩) ho ho2 h
theorem rc_neZ {l b : Addr} {items items2 : Array Value} {Q : Value → Shared → Prop} (hu : A.units < cLine) (I : Nat → Shared → Prop)
    (hl : s.heap.IsTuple l items) (hb : s.heap.IsTuple b items2)
    (turn : ∀ i (h1 : i < items.size) (h2 : i < items2.size) s, I i s → wpAny (model prog w) A.in1 (eqBool items[i] items2[i]) (fun r s' => r = true ∧ I (i + 1) s') E s)
    (fin : ∀ s, I (min items.size items2.size) s → Q (.bool (items.size != items2.size)) s) (h : I 0 s) : wpAny (model prog w) A (richCompare .NotEq (.ref l) (.ref b)) Q E s := by
  obtain ⟨⟨cls, dd, data, sl⟩, ho, hc, n, hd⟩ := id hl
  obtain ⟨⟨cls2, dd2, data2, sl2⟩, ho2, hc2, n2, hd2⟩ := id hb
  simp only at hc hd hc2 hd2
  subst hc hd hc2 hd2
  refine wpAny_richCompare_same_room (op := .NotEq) ⟨_, ho, rfl⟩ ⟨_, ho2, rfl⟩ F.slot_tuple_ne (call_here F.slot_tuple_ne ⟨_, ho, rfl⟩ F.entry_tuple_ne (F.args_tuple_ne_2 _ _) ?_) hu
  exact tuple_neZ (R := wants (fun v s' => v ≠ .notImplemented ∧ Q v s') E) l b items items2 n n2 dd dd2 sl sl2 I turn (fun s' q => ⟨(fun x => nomatch x), fin s' q⟩) ho ho2 h
end
end GQ
namespace Dm
open PySem PySem.Spec PyProof.Rows L2
/-- what a caller knows of a class's own == -/
structure HasEq (P : Program) (w : World) (K : PySem.W.Frag) (mg : Str → Option Value) (base : Heap) (k : Nat) (c : Nat) (F : FnD) : Prop where
  ex : ∃ f fd ps, FnOk P w K mg base CX0 k f fd ps (spD ⟨P, w, K⟩ 2 F) ∧ PySem.W.findIn K (.ref (clsA K c)) "__eq__" = some (some (.ref f)) ∧ PySem.W.isFn K (.ref f) = true ∧ Binds K fd ps [] ∧
    ∀ c', PySem.W.notFirst K (clsA K c) (.ref (clsA K c')) = true
section
variable {X : Cx} {c k : Nat} {F : FnD} {f1 f2 : SE} {a b : Expr} {pos : Pos}
def isIns (c : Nat) : D → Bool
  | .ins c' _ => decide (c' = c)
  | _ => false
def anyIns : D → Bool
  | .ins _ _ => true
  | _ => false
/-- x == y by the own == of x's class -/
def eqIS (c : Nat) (F : FnD) (f1 f2 : SE) : SE := fun de mu => (f1 de mu).bind fun r1 => (f2 de r1.2).bind fun r2 =>
  if isIns c r1.1 && anyIns r2.1 then (F [r1.1, r2.1] r2.2).bind fun q => match q.1 with
    | .bl b => some (.bl b, q.2)
    | _ => none
  else none
def rI (g : Gx) (c : Nat) (F : FnD) : R2 := fun v u H Q => ∃ W mu x y b mu', SR g W H mu ∧ Rep g.K W x v ∧ Rep g.K W y u ∧ isIns c x = true ∧ anyIns y = true ∧ F [x, y] mu = some (.bl b, mu') ∧ ∀ z H' W', Ext W W' → SR g W' H' mu' → Rep g.K W' (.bl b) z → Q z H'
theorem eqI_rc (h : HasEq X.prog X.w X.K X.mg X.base k c F) {A : Around} {pins : List (Addr × Obj)} {s : Shared} {σ : L2.St} {H : Hp} {W : Wd} {mu mu' : Mem} {x y : D} {vx vy : V} {u v : Value} {r : Bool} (sb : Sub X k A) (I : Inv X pins σ H s)
    (rx : RelV vx u) (ry : RelV vy v) (S : SR (gx X) W H mu) (hx : Rep X.K W x vx) (hy : Rep X.K W y vy) (ix : isIns c x = true) (iy : anyIns y = true) (e : F [x, y] mu = some (.bl r, mu')) :
    wpAny (model X.prog X.w) A (richCompare .Eq u v) (fun z s' => z = .bool r ∧ ∃ W' H', Inv X pins σ H' s' ∧ Ext W W' ∧ SR (gx X) W' H' mu') X.xe s := by
  obtain ⟨f, fd, ps, G, hs, hf, hb, hn⟩ := h.ex
  cases x with
  | ins c1 ds =>
    cases y with
    | ins c2 es =>
      have ix : c1 = c := of_decide_eq_true ix
      subst ix
      obtain ⟨a, dx, vs, rfl, ha, _⟩ := id hx.ins
      obtain ⟨b, dy, ws, rfl, hb', _⟩ := id hy.ins
      cases rx
      cases ry
      obtain ⟨mA, J, _⟩ := ins_get I.hok (S.ext _ _ ha)
      obtain ⟨mB, J', _⟩ := ins_get I.hok (S.ext _ _ hb')
      obtain ⟨od, J, _⟩ := J.look
      obtain ⟨od', J', _⟩ := J'.look
      obtain ⟨m, hF⟩ := I.fr
      refine PySem.W.cmp_K (op := .Eq) (tb := .ref (clsA X.K c2)) sb.room.units0 hF I.ok.mod.kin J J'.type (hn c2) hs hf ?_
      have hsp : spD ⟨X.prog, X.w, X.K⟩ 2 F [.ref a, .ref b] H (fun v H' => v = .bl r ∧ ∃ W', Ext W W' ∧ SR (gx X) W' H' mu') E0 :=
        ⟨W, mu, [.ins c1 ds, .ins c2 es], .bl r, mu', rfl, S, .cons hx (.cons hy .nil), e, fun v H' W' x' S' r' => ⟨r'.bl, W', x', S'⟩⟩
      have e0 : Env0 X.prog X.w X.K X.mg X.base A X.stack s H := by
        have e := I.env0
        exact ⟨by rw [sb.fr]; exact e.frames, e.mod, e.bs, e.bsz, e.funs, e.frf, e.hok, e.bare⟩
      have hl := G.len _ _ _ _ hsp
      have r2 : Vals [V.ref a, V.ref b] [Value.ref a, Value.ref b] := .cons rfl (.cons rfl .nil)
      refine wpAny_call (codeAny_mono (G.run A X.stack s H ⟨[.ref a, .ref b], []⟩ [.ref a, .ref b] [.ref a, .ref b] _ E0 sb.room e0 (by
        have := hb s [.ref a, .ref b] I.kIn (by simpa using hl)
        simpa using this) r2 hsp) fun q s' hq => ?_)
      cases q with
      | error e => exact pass0 pins σ H s e s' I hq
      | ok fl =>
        cases fl with
        | ret w =>
          obtain ⟨z, H', I', rz, ez, ex⟩ := I.after hq
          subst ez
          cases rz
          obtain ⟨W', x', S'⟩ := ex
          exact ⟨rfl, W', H', I', x', S'⟩
        | next => exact False.elim hq
        | brk => exact False.elim hq
        | cont => exact False.elim hq
    | _ => cases iy
  | _ => cases ix
theorem op_eqI (h : HasEq X.prog X.w X.K X.mg X.base k c F) (hr : Room k X.A) : OpR X (compareOp .Eq) (rI (gx X) c F) := by
  intro pins s σ H x y v u Q I rx ry hq
  obtain ⟨W, mu, dx, dy, b, mu', S, hx, hy, ix, iy, e, k⟩ := hq
  show wpAny (model X.prog X.w) X.A (richCompare .Eq v u) (EP X pins σ Q) X.xe s
  refine wpAny_mono (eqI_rc h ⟨hr, rfl⟩ I rx ry S hx hy ix iy e) (fun r s' z => ?_) fun _ _ x => x
  obtain ⟨hr', W', H', I', x', S'⟩ := z
  subst hr'
  exact ⟨.bl b, H', I', rfl, k _ H' W' x' S' r_bl⟩
theorem de_eqI (h : HasEq X.prog X.w X.K X.mg X.base k c F) (hr : Room k X.A) (ha : DE X a f1) (hb : DE X b f2) (hm : behindInMarks .Eq b = false) : DE X (.Compare a [.Eq] [b] pos) (eqIS c F f1 f2) := de_weak (pe_cmpR (op_eqI h hr) ha hb hm) fun σ H Q h => by
  obtain ⟨de, W, mu, d, mu', hE, S, e, k⟩ := h
  unfold eqIS at e
  obtain ⟨⟨x, m1⟩, e1, e⟩ := Option.bind_eq_some_iff.mp e
  obtain ⟨⟨y, m2⟩, e2, e⟩ := Option.bind_eq_some_iff.mp e
  refine ⟨de, W, mu, x, m1, hE, S, e1, fun v H1 W1 x1 S1 r1 => ?_⟩
  refine ⟨de, W1, m1, y, m2, hE.mono x1, S1, e2, fun u H2 W2 x2 S2 r2 => ?_⟩
  split at e
  · rename_i hc
    rw [Bool.and_eq_true] at hc
    obtain ⟨⟨z, m3⟩, e3, e⟩ := Option.bind_eq_some_iff.mp e
    cases z with
    | bl r =>
      cases e
      exact ⟨W2, m2, x, y, r, m3, S2, r1.mono x2, r2, hc.1, hc.2, e3, fun z H' W' x3 S3 r3 => k z H' W' ((x1.trans x2).trans x3) S3 r3⟩
    | _ => cases e
  · cases e

/-! ### tuples of steps -/
def stepB : D → D → Bool
  | .ins c [.int i, .str x, .str y], .ins c' [.int i', .str x', .str y'] => decide (c = 1 ∧ c' = 1) && (decide (i = i') && (decide (x = x') && decide (y = y')))
  | _, _ => false
def stepsB : List D → List D → Bool
  | d :: ds, e :: es => stepB d e && stepsB ds es
  | _, _ => true
theorem stepB_eq {d e : D} (h : stepB d e = true) : ∃ i x y, d = .ins 1 [.int i, .str x, .str y] ∧ e = .ins 1 [.int i, .str x, .str y] := by
  unfold stepB at h
  split at h
  · simp only [Bool.and_eq_true, decide_eq_true_eq] at h
    obtain ⟨⟨rfl, rfl⟩, rfl, rfl, rfl⟩ := h
    exact ⟨_, _, _, rfl, rfl⟩
  · cases h
theorem stepsB_at : ∀ {ds es : List D} {i : Nat} {d e : D}, stepsB ds es = true → ds[i]? = some d → es[i]? = some e → stepB d e = true
  | [], _, _, _, _, _, h, _ => by simp at h
  | _ :: _, [], _, _, _, _, _, h => by simp at h
  | a :: ds, b :: es, i, d, e, h, h1, h2 => by
    have h : (stepB a b && stepsB ds es) = true := h
    rw [Bool.and_eq_true] at h
    cases i with
    | zero =>
      simp at h1 h2
      subst h1 h2
      exact h.1
    | succ i => exact stepsB_at h.2 (by simpa using h1) (by simpa using h2)
def tupsE (x y : D) : Option Bool := match x, y with
  | .tup ds, .tup es => if stepsB ds es then some (ds.length == es.length) else none
  | _, _ => none
def eqTQ : Mem → D → D → Option D := fun _ x y => (tupsE x y).map .bl
def neTQ : Mem → D → D → Option D := fun _ x y => (tupsE x y).map fun b => .bl (!b)
/-- the Step's own == says yes of the same -/
def StepYes (F : FnD) : Prop := ∀ i x y mu, F [.ins 1 [.int i, .str x, .str y], .ins 1 [.int i, .str x, .str y]] mu = some (.bl true, mu)
def LoopD (X : Cx) (pins : List (Addr × Obj)) (σ : L2.St) (W : Wd) (mu : Mem) (s' : Shared) : Prop := ∃ W' H', Inv X pins σ H' s' ∧ Ext W W' ∧ SR (gx X) W' H' mu
theorem turnD (h : HasEq X.prog X.w X.K X.mg X.base k 1 F) (hy : StepYes F) {A : Around} (sb : Sub X (k + 1) A) {pins : List (Addr × Obj)} {σ : L2.St} {W : Wd} {mu : Mem} {ds es : List D} {xs ys : List V} {its its2 : List Value} (p : stepsB ds es = true)
    (q1 : RepA X.K W.B ds xs) (q2 : RepA X.K W.B es ys) (r : Vals xs its) (r2 : Vals ys its2) (i : Nat) (h1 : i < its.toArray.size) (h2 : i < its2.toArray.size) (s' : Shared) (l : LoopD X pins σ W mu s') :
    wpAny (model X.prog X.w) A.in1 (eqBool its.toArray[i] its2.toArray[i]) (fun r s2 => r = true ∧ LoopD X pins σ W mu s2) X.xe s' := by
  obtain ⟨W1, H1, I1, x1, S1⟩ := l
  have g1 : its[i]? = some its.toArray[i] := by
    have h1' : i < its.length := by simpa using h1
    rw [List.getElem?_eq_getElem h1'] <;> simp
  have g2 : its2[i]? = some its2.toArray[i] := by
    have h2' : i < its2.length := by simpa using h2
    rw [List.getElem?_eq_getElem h2'] <;> simp
  have k1 : i < ds.length := by rw [q1.length, r.length]; simpa using h1
  have k2 : i < es.length := by rw [q2.length, r2.length]; simpa using h2
  have b := stepsB_at p (List.getElem?_eq_getElem k1) (List.getElem?_eq_getElem k2)
  obtain ⟨vx, e1, p1⟩ := q1.get (List.getElem?_eq_getElem k1)
  obtain ⟨vy, e2, p2⟩ := q2.get (List.getElem?_eq_getElem k2)
  obtain ⟨u, hu, ru⟩ := r.get e1
  obtain ⟨v, hv, rv⟩ := r2.get e2
  rw [g1] at hu
  rw [g2] at hv
  rw [Option.some.inj hu, Option.some.inj hv]
  obtain ⟨j, z, t, d1, d2⟩ := stepB_eq b
  rw [d1] at p1
  rw [d2] at p2
  have w1 := (Rep.of p1).mono x1
  have w2 := (Rep.of p2).mono x1
  obtain ⟨a, dx, vs, rfl, _⟩ := id w1.ins
  obtain ⟨c, dy, ws, rfl, _⟩ := id w2.ins
  cases ru
  cases rv
  by_cases hab : a = c
  · subst hab
    exact SeqAt.EqAt.same (A := A.in1) (s := s') (.ref a) X.prog X.w X.xe _ ⟨rfl, W1, H1, I1, x1, S1⟩
  · refine GQ.eqBool_refG hab (wpAny_mono (eqI_rc h sb.in1 I1 (vx := .ref a) (vy := .ref c) rfl rfl S1 w1 w2 rfl rfl (hy j z t mu)) (fun r s' q => ?_) fun _ _ x => x)
    obtain ⟨hr', W2, H2, I2, x2, S2⟩ := q
    exact ⟨true, hr', rfl, W2, H2, I2, x1.trans x2, S2⟩
theorem opd_eqT (h : HasEq X.prog X.w X.K X.mg X.base k 1 F) (hF : StepYes F) (hr : Room (k + 1) X.A) : OpD X (compareOp .Eq) eqTQ := by
  intro pins s σ H x y v u Q I rx ry hq
  obtain ⟨W, mu, dx, dy, d0, S, hx, hy, e0, kk⟩ := hq
  obtain ⟨r0, e, e3⟩ := Option.map_eq_some_iff.mp e0
  subst e3
  clear e0
  unfold tupsE at e
  split at e
  · rename_i ds es
    split at e
    · rename_i hb
      cases e
      obtain ⟨a, vs, rfl, h1, h2⟩ := hx.tup
      obtain ⟨c, ws, rfl, h3, h4⟩ := hy.tup
      cases rx
      cases ry
      obtain ⟨its, rv, e, _⟩ := I.tuple (sameT S.ext h1)
      obtain ⟨its2, rv2, e2, _⟩ := I.tuple (sameT S.ext h3)
      have l1 : its.toArray.size = ds.length := by rw [List.size_toArray, ← rv.length, h2.length]
      have l2 : its2.toArray.size = es.length := by rw [List.size_toArray, ← rv2.length, h4.length]
      refine GQ.rc_eqZ hr.units0 (fun _ s' => LoopD X pins σ W mu s') e e2 (fun i h5 h6 s' q => turnD h hF ⟨hr, rfl⟩ hb h2 h4 rv rv2 i h5 h6 s' q) (fun s' q => ?_) ⟨W, H, I, Ext.refl W, S⟩
      obtain ⟨W', H', I', x', S'⟩ := q
      refine ⟨_, H', I', ?_, kk _ H' W' x' S' r_bl⟩
      rw [l1, l2]
      rfl
    · cases e
  · cases e
theorem opd_neT (h : HasEq X.prog X.w X.K X.mg X.base k 1 F) (hF : StepYes F) (hr : Room (k + 1) X.A) : OpD X (compareOp .NotEq) neTQ := by
  intro pins s σ H x y v u Q I rx ry hq
  obtain ⟨W, mu, dx, dy, d0, S, hx, hy, e0, kk⟩ := hq
  obtain ⟨r0, e, e3⟩ := Option.map_eq_some_iff.mp e0
  subst e3
  clear e0
  unfold tupsE at e
  split at e
  · rename_i ds es
    split at e
    · rename_i hb
      cases e
      obtain ⟨a, vs, rfl, h1, h2⟩ := hx.tup
      obtain ⟨c, ws, rfl, h3, h4⟩ := hy.tup
      cases rx
      cases ry
      obtain ⟨its, rv, e, _⟩ := I.tuple (sameT S.ext h1)
      obtain ⟨its2, rv2, e2, _⟩ := I.tuple (sameT S.ext h3)
      have l1 : its.toArray.size = ds.length := by rw [List.size_toArray, ← rv.length, h2.length]
      have l2 : its2.toArray.size = es.length := by rw [List.size_toArray, ← rv2.length, h4.length]
      refine GQ.rc_neZ hr.units0 (fun _ s' => LoopD X pins σ W mu s') e e2 (fun i h5 h6 s' q => turnD h hF ⟨hr, rfl⟩ hb h2 h4 rv rv2 i h5 h6 s' q) (fun s' q => ?_) ⟨W, H, I, Ext.refl W, S⟩
      obtain ⟨W', H', I', x', S'⟩ := q
      refine ⟨_, H', I', ?_, kk _ H' W' x' S' r_bl⟩
      rw [l1, l2]
      rfl
    · cases e
  · cases e

/-! ### a written dict's get; constants -/
/-- the module's name x is this -/
structure HasC (K : PySem.W.Frag) (mg : Str → Option Value) (x : Str) (d : D) : Prop where
  ex : ∃ u v, mg x = some u ∧ RelV v u ∧ ∀ W, Rep K W d v
theorem de_gl {x : Str} {d : D} (h : HasC X.K X.mg x d) (hg : Gl X x) (hd : (x == ("__debug__" : Str)) = false := by decide) : DE X (.Name x pos) (cS d) := by
  obtain ⟨u, v, hm, r, hr⟩ := h.ex
  exact de_weak (pe_glob hg hm r hd) fun σ H Q ⟨de, W, mu, d', mu', hE, S, e, k⟩ => by
    cases e
    exact k v H W (Ext.refl W) S (hr W)
/-- the module's name x is a dict of texts -/
structure HasTab (P : Program) (w : World) (K : PySem.W.Frag) (mg : Str → Option Value) (x : Str) (kvs : List (Str × Str)) : Prop where
  ex : ∃ a es n, mg x = some (.ref a) ∧ KDict K w a es n ∧ ∀ q ∈ kvs, ∃ u, PySem.W.nsIn K a q.1 = some (some u) ∧ RelV (.str q.2) u
def getTab (kvs : List (Str × Str)) (f : SE) : SE := fun de mu => (f de mu).bind fun r => match r.1 with
  | .str z => (kvs.lookup z).map fun v => (.str v, r.2)
  | _ => none
theorem lookup_mem {kvs : List (Str × Str)} {z v : Str} (h : kvs.lookup z = some v) : (z, v) ∈ kvs := by
  induction kvs with
  | nil => cases h
  | cons p kvs ih =>
    rw [List.lookup_cons] at h
    split at h
    · rename_i hz
      have : z = p.1 := eq_of_beq hz
      cases h
      subst this
      exact List.mem_cons_self
    · exact List.mem_cons_of_mem _ (ih h)
theorem de_sget {x : Str} {e : Expr} {p apos cpos : Pos} {f : SE} {kvs : List (Str × Str)} (h : HasTab X.prog X.w X.K X.mg x kvs) (hg : Gl X x) (he : DE X e f) (m : M1 X (.Name x p) "get" apos e cpos) (hd : (x == ("__debug__" : Str)) = false := by decide) :
    DE X (.Call (.Attribute (.Name x p) "get" apos) [e] [] cpos) (getTab kvs f) := by
  obtain ⟨a, es, n, hm, KD, hv⟩ := h.ex
  refine ⟨fun pins s σ H Q I h => ?_⟩
  obtain ⟨de, W, mu, d, mu', hE, S, e0, k⟩ := h
  unfold getTab at e0
  obtain ⟨⟨z, m1⟩, e1, e0⟩ := Option.bind_eq_some_iff.mp e0
  cases z with
  | str z =>
    obtain ⟨v, e2, e3⟩ := Option.map_eq_some_iff.mp e0
    cases e3
    refine wpAny_Call_method m.base m.few m.line PySem.F.plainAttrs_dict PySem.F.slot_dict_get PySem.F.type_dict_get (thn ((pe_glob (v := .ref a) hg hm rfl hd).run pins s σ H (fun v H' => v = .ref a ∧ H' = H) I ⟨rfl, rfl⟩) fun u s1 ⟨x, H1, I1, rx, ex, eH⟩ => ?_)
    subst ex eH
    obtain rfl : u = Value.ref a := rx
    have hmap := PySem.W.mapOf_K (prog := X.prog) (w := X.w) I1.kIn KD.at_ KD.lit
    refine ⟨hmap.typeIs, fun b q => ?_, ?_⟩
    · cases q
      exact ⟨_, I1.kIn _ _ KD.at_, rfl⟩
    rw [m.trees]
    refine Calls.callWith_builtin rfl (Calls.evalArgs_plain (Calls.spliced_cons (thn (he.run pins s1 σ H1 (fun v H' => v = .str z ∧ ∃ W', Ext W W' ∧ SR (gx X) W' H' m1) I1 ⟨de, W, mu, .str z, m1, hE, S, e1, fun v H' W' x' S' r' => ⟨r'.str, W', x', S'⟩⟩) fun iv s2 ⟨y, H2, I2, ry, ey, W2, x2, S2⟩ => Calls.spliced_nil ?_)))
    subst ey
    obtain ⟨t, rfl⟩ := (show ∃ t, iv = Value.str z t from ry)
    obtain ⟨u, hu1, hu2⟩ := hv _ (lookup_mem e2)
    have hmap := PySem.W.mapOf_K (prog := X.prog) (w := X.w) I2.kIn KD.at_ KD.lit
    refine call_meetsIn PySem.F.slot_dict_get hmap.typeIs PySem.F.entry_dict_get (PySem.F.args_dict_get_2 _ _) (meets_dict_get (strKind X.prog X.w) a (strKind_is X.prog X.w z t) KD.low) ⟨_, hmap, ?_⟩
    rw [PySem.W.find_K KD.at_ hu1]
    exact ⟨_, H2, I2.tok _, hu2, k _ H2 W2 x2 S2 r_str⟩
  | _ => cases e0
end
end Dm
/-! Dm9: what was still lacking: tests by chains, by an own ==, sorted of a list of tuples, defaults, methods. -/
namespace Dm
open PySem PySem.Spec PyProof.Rows L2
theorem hu64 {A : Around} {k : Nat} (hr : Room k A) : A.units + 64 < cLine := hr.units
theorem hu9 {A : Around} {k : Nat} (hr : Room k A) : A.units + 1 + 8 < cLine := by
  have := hr.units
  omega
section
variable {X : Cx} {a b c : Expr} {pos : Pos} {f1 f2 f3 : SE}
theorem dt_chain {op op' : CmpOp} {q1 q2 : Mem → D → D → Option D} (ho : OpD X (compareOp op) q1) (ho' : OpD X (compareOp op') q2) (ha : DE X a f1) (hb : DE X b f2) (hc : DE X c f3)
    (hm : lastMarks [op, op'] [b, c] = false := by with_unfolding_all rfl) : DT X (.Compare a [op, op'] [b, c] pos) (bS (chS q1 q2 f1 f2 f3)) := dt_weak (pt_chain ho ho' ha hb hc hm) fun σ H Q h => by
  have h2 := b_read h
  exact ch_read h2
theorem eqI_read {g : Gx} {cc : Nat} {F : FnD} {σ : L2.St} {H : Hp} {Q : VK} (h : tD g (eqIS cc F f1 f2) σ H Q) : tOp (rI g cc F) (tD g f1) (tD g f2) σ H Q := by
  obtain ⟨de, W, mu, d, mu', hE, S, e, k⟩ := h
  unfold eqIS at e
  obtain ⟨⟨x, m1⟩, e1, e⟩ := Option.bind_eq_some_iff.mp e
  obtain ⟨⟨y, m2⟩, e2, e⟩ := Option.bind_eq_some_iff.mp e
  refine ⟨de, W, mu, x, m1, hE, S, e1, fun v H1 W1 x1 S1 r1 => ?_⟩
  refine ⟨de, W1, m1, y, m2, hE.mono x1, S1, e2, fun u H2 W2 x2 S2 r2 => ?_⟩
  split at e
  · rename_i hc
    rw [Bool.and_eq_true] at hc
    obtain ⟨⟨z, m3⟩, e3, e⟩ := Option.bind_eq_some_iff.mp e
    cases z with
    | bl r =>
      cases e
      exact ⟨W2, m2, x, y, r, m3, S2, r1.mono x2, r2, hc.1, hc.2, e3, fun z H' W' x3 S3 r3 => k z H' W' ((x1.trans x2).trans x3) S3 r3⟩
    | _ => cases e
  · cases e
theorem dt_eqI {cc k : Nat} {F : FnD} (h : HasEq X.prog X.w X.K X.mg X.base k cc F) (hr : Room k X.A) (ha : DE X a f1) (hb : DE X b f2) (hm : behindInMarks .Eq b = false) : DT X (.Compare a [.Eq] [b] pos) (bS (eqIS cc F f1 f2)) := dt_weak (pt_cmpR (op_eqI h hr) ha hb hm) fun σ H Q h => by
  have h2 := b_read h
  exact eqI_read h2
/-! ### sorted of a list of tuples -/
def srtLQ : Mem → List D → Option D := fun mu ds => match ds with
  | [.lst ks] => if ks.all okKey && (alikeL ks && Nat.ble ks.length 1000) then some (.lst (ks.mergeSort (PySem.W.dataLe false pyT))) else none
  | _ => none
theorem cd_sortL (hcalm : X.calm = true) (hu : X.A.units + 64 < cLine) : CallD X (.builtin "sorted") srtLQ := by
  intro pins s σ H xs us Q I r h
  obtain ⟨W, mu, ds, d, S, rl, e, k⟩ := h
  unfold srtLQ at e
  split at e
  · rename_i ks
    obtain ⟨v, rfl, rv⟩ := rl.one
    obtain ⟨u, rfl, rx⟩ := vals1 r
    split at e
    · rename_i hl
      cases e
      rw [Bool.and_eq_true, Bool.and_eq_true] at hl
      obtain ⟨ok, al, hle⟩ := hl
      have hle := Nat.le_of_ble_eq_true hle
      obtain ⟨a, vs, rfl, h1, h2⟩ := rv.lst
      cases rx
      obtain ⟨its, rv2, hp, hz⟩ := I.list (S.seqL h1)
      have item : ∀ (i : Nat) (u : Value) (d : D), its[i]? = some u → ks[i]? = some d → ∃ v, RelV v u ∧ RepP X.K W.B d v := fun i u d hu hd => by
        obtain ⟨v, e1, e2⟩ := h2.get hd
        obtain ⟨u', e3, e4⟩ := rv2.get e1
        rw [hu] at e3
        cases e3
        exact ⟨v, e4, e2⟩
      have each : PySem.W.EachIs (fun u d => ∃ v, RelV v u ∧ RepP X.K W.B d v) its ks := each_of (by rw [← rv2.length, ← h2.length]) item
      have er : PySem.W.EachIs (fun u d => ∃ as, Reads s.heap u (pyT d) as) its ks :=
        (PySem.W.each_mem each).mono fun u d ⟨g1, g2⟩ => ⟨[], let ⟨v, q1, q2⟩ := g1; (reads_key I S.ext q2 q1 (List.all_eq_true.mp ok d g2)).1⟩
      have hal2 : PySem.W.AllAlike (ks.map pyT) := by
        intro x hx y hy
        obtain ⟨x', hx', rfl⟩ := List.mem_map.mp hx
        obtain ⟨y', hy', rfl⟩ := List.mem_map.mp hy
        exact List.all_eq_true.mp (List.all_eq_true.mp al x' hx') y' hy'
      have depth1 : ∀ d ∈ ks, (∃ x r, pyT d = .tuple (x :: r)) ∧ (pyT d).depth ≤ 1 := fun d hd => key_shape (List.all_eq_true.mp ok d hd)
      have hso : PySem.W.Sortable (ks.map pyT) := .inl fun x hx => by
        obtain ⟨x', hx', rfl⟩ := List.mem_map.mp hx
        exact (depth1 x' hx').1
      refine PySem.W.sorted_data (R := fun u d => ∃ v, RelV v u ∧ RepP X.K W.B d v) hp.isList each er hal2 hso (by rw [sizeLine_eq]; omega) (fun d hd => by
        have := (depth1 d hd).2
        omega) fun out ho eo => ?_
      obtain ⟨ws, hw1, hw2⟩ := each_rep eo
      obtain ⟨ep, he'⟩ := PyProof.Rows.sortedAll_at s.heap its out.toArray
      have hlen : ws.length ≤ sizeLine := by
        rw [Paired.length hw1, ho, sizeLine_eq]; omega
      have hnone : H (s.heap.objs.size + 1) = none := I.hok.fresh (Nat.le_succ _)
      obtain ⟨S2, x2⟩ := S.grow (o := .lst ws) hnone
      refine ⟨.ref (s.heap.objs.size + 1), upd H (s.heap.objs.size + 1) (.lst ws), I.laid (t' := s.toks) (fun _ _ => PyProof.Rows.sortedAll_old) (Nat.le_succ _) ⟨hlen, out, ep, hw1, he'⟩, rfl, ?_⟩
      refine k _ _ _ x2 S2 (Rep.of ?_)
      simp only [RepP]
      exact ⟨_, _, rfl, .inl (.inl upd_same), RepA.mono x2.2 _ _ hw2⟩
    · cases e
  · cases e
end
/-! ### a def with a default; a method -/
structure HasFnD (P : Program) (w : World) (K : PySem.W.Frag) (mg : Str → Option Value) (base : Heap) (k : Nat) (x : Str) (n : Nat) (F : FnD) (dds : List D) : Prop where
  ex : ∃ f fd ps ds dvs, FnOk P w K mg base CX0 k f fd ps (spD ⟨P, w, K⟩ (n + dds.length) F) ∧ PySem.W.keepIn K (.ref f) = true ∧ Binds K fd ps ds ∧ Vals dvs ds ∧ (∀ W, RepL K W dds dvs) ∧ mg x = some (.ref f)
structure HasMeth (P : Program) (w : World) (K : PySem.W.Frag) (mg : Str → Option Value) (base : Heap) (k : Nat) (c : Nat) (m : Str) (n : Nat) (F : FnD) : Prop where
  ex : ∃ f fd ps, FnOk P w K mg base CX0 k f fd ps (spD ⟨P, w, K⟩ (n + 1) F) ∧ Cls K (clsA K c) ∧ Meth K (clsA K c) m f ∧ Binds K fd ps [] ∧ m ∉ clsF c
section
variable {X : Cx} {e : Expr} {es : List Expr} {x : Str} {p pos : Pos} {ga : SA} {F : FnD} {n k : Nat}
theorem de_calld {dds : List D} (h : HasFnD X.prog X.w X.K X.mg X.base k x n F dds) (hr : Room k X.A) (hg : Gl X x) (hl : LenA ga n) (ha : DA X (e :: es) ga) (hdb : (x == ("__debug__" : Str)) = false := by decide)
    (he : starEach (e :: es) X.env = (false, eval e X.env) :: starEach es X.env := by rfl) (hpl : (backTo pos (starEach es X.env)).any (·.1) = false := by rfl) : DE X (.Call (.Name x p) (e :: es) [] pos) (callFd F dds ga) := by
  obtain ⟨f, fd, ps, ds, dvs, G, kp, bd, vd, rd, hm⟩ := h.ex
  refine de_weak (pe_call G hr hg hm kp bd vd pass0 ha hdb he hpl) fun σ H Q h => ?_
  obtain ⟨de, W, mu, d, mu', hE, S, e, k⟩ := h
  unfold callFd at e
  obtain ⟨⟨xs, m1⟩, e1, e⟩ := Option.bind_eq_some_iff.mp e
  exact ⟨de, W, mu, xs, m1, hE, S, e1, fun vs H1 W1 x1 S1 r1 => ⟨W1, m1, xs ++ dds, d, mu', by rw [List.length_append, hl _ _ _ _ e1], S1, r1.append (rd W1), e, fun v H2 W2 x2 S2 r2 => k v H2 W2 (x1.trans x2) S2 r2⟩⟩
theorem de_meth {o : Expr} {c : Nat} {m : Str} {apos : Pos} {f : SE} {pl : Sem Bool} (h : HasMeth X.prog X.w X.K X.mg X.base k c m n F) (hr : Room k X.A) (ho : DE X o f) (hl : LenA ga n) (ha : DA X (e :: es) ga)
    (hst : starEach (e :: es) X.env = (false, eval e X.env) :: starEach es X.env := by rfl) (hpl : (backTo pos (starEach es X.env)).any (·.1) = false := by rfl)
    (ht : eval (.Call (.Attribute o m apos) (e :: es) [] pos) X.env = (do
      let ov ← eval o X.env
      standAt apos.atName
      let (f, first) ← holding [ov] (getMethod ov m pl)
      callWith pos f first (backTo pos (starEach (e :: es) X.env)) (backToKw pos (keywordEach [] X.env))) := by rfl) :
    DE X (.Call (.Attribute o m apos) (e :: es) [] pos) (metF c F f ga) := by
  obtain ⟨fa, fd, ps, G, C, M, bd, nm⟩ := h.ex
  exact de_weak (pe_meth (pl := pl) ho C M G hr bd .nil pass0 ha hst hpl ht) fun σ H Q h => meth_read nm hl h
end
end Dm
/-! Pw0: what a denotation answers: rules from the left. -/
namespace Dm
open PySem PySem.Spec PyProof.Rows L2
def we (f : SE) (de : Env) (mu : Mem) (Q : D → Mem → Prop) : Prop := ∃ d m, f de mu = some (d, m) ∧ Q d m
def wt (f : ST) (de : Env) (mu : Mem) (Q : Bool → Mem → Prop) : Prop := ∃ d m, f de mu = some (d, m) ∧ Q d m
def wa (f : SA) (de : Env) (mu : Mem) (Q : List D → Mem → Prop) : Prop := ∃ d m, f de mu = some (d, m) ∧ Q d m
def ws (f : SS) (de : Env) (mu : Mem) (Q : Out → Env → Mem → Prop) : Prop := ∃ o e m, f de mu = some (o, e, m) ∧ Q o e m
def wg (f : SG) (d : D) (de : Env) (Q : Env → Prop) : Prop := ∃ e, f d de = some e ∧ Q e
def wgs (f : SGs) (ds : List D) (de : Env) (Q : Env → Prop) : Prop := ∃ e, f ds de = some e ∧ Q e
def wf (F : FnD) (ds : List D) (mu : Mem) (Q : D → Mem → Prop) : Prop := ∃ d m, F ds mu = some (d, m) ∧ Q d m
def wq {α : Type} (o : Option α) (Q : α → Prop) : Prop := ∃ d, o = some d ∧ Q d
section
variable {de : Env} {mu m : Mem} {f g f1 f2 f3 : SE} {t u : ST} {ga : SA} {s1 s2 : SS} {Q : D → Mem → Prop} {QB : Bool → Mem → Prop} {QA : List D → Mem → Prop} {QS : Out → Env → Mem → Prop} {QG : Env → Prop} {F : FnD}
theorem wq_i {α : Type} {o : Option α} {d : α} {Q : α → Prop} (h : o = some d) (k : Q d) : wq o Q := ⟨d, h, k⟩
theorem wf_of {ds : List D} {d : D} {m : Mem} (h : F ds mu = some (d, m)) (k : Q d m) : wf F ds mu Q := ⟨d, m, h, k⟩
theorem wf_eq {ds : List D} {d : D} {m : Mem} (h : wf F ds mu fun d' m' => d' = d ∧ m' = m) : F ds mu = some (d, m) := by
  obtain ⟨d', m', e, rfl, rfl⟩ := h
  exact e
theorem wf_mono {ds : List D} {Q' : D → Mem → Prop} (h : wf F ds mu Q') (k : ∀ d m, Q' d m → Q d m) : wf F ds mu Q := by
  obtain ⟨d', m', e, q⟩ := h
  exact ⟨d', m', e, k _ _ q⟩
theorem we_va {i : Nat} {d : D} (h : de[i]? = some (some d)) (k : Q d mu) : we (vaS i) de mu Q := ⟨d, mu, by unfold vaS; rw [h], k⟩
theorem we_c {d : D} (k : Q d mu) : we (cS d) de mu Q := ⟨d, mu, rfl, k⟩
theorem we_bin2 {q : Mem → D → D → Option D} (h : we f de mu fun a m => we g de m fun b m2 => wq (q m2 a b) fun d => Q d m2) : we (bin2 q f g) de mu Q := by
  obtain ⟨a, m1, e1, b, m2, e2, d, e3, k⟩ := h
  exact ⟨d, m2, by unfold bin2; rw [e1]; simp only [Option.bind_some]; rw [e2]; simp only [Option.bind_some]; rw [e3]; rfl, k⟩
theorem we_neg (h : we f de mu fun a m => ∃ i, a = .int i ∧ Q (.int (-i)) m) : we (negS f) de mu Q := by
  obtain ⟨a, m1, e1, i, rfl, k⟩ := h
  exact ⟨_, m1, by unfold negS; rw [e1]; rfl, k⟩
theorem wt_bS (h : we f de mu fun a m => ∃ b, a = .bl b ∧ QB b m) : wt (bS f) de mu QB := by
  obtain ⟨a, m1, e1, i, rfl, k⟩ := h
  exact ⟨_, m1, by unfold bS; rw [e1]; rfl, k⟩
theorem we_ch {q1 q2 : Mem → D → D → Option D} (h : we f1 de mu fun a m => we f2 de m fun b m2 => wq (q1 m2 a b) fun d => ∃ r, d = .bl r ∧ (r = true → we f3 de m2 fun c m3 => wq (q2 m3 b c) fun d => Q d m3) ∧ (r = false → Q (.bl false) m2)) : we (chS q1 q2 f1 f2 f3) de mu Q := by
  obtain ⟨a, m1, e1, b, m2, e2, d, e3, r, rfl, k1, k2⟩ := h
  cases r with
  | true =>
    obtain ⟨c, m3, e4, d, e5, k⟩ := k1 rfl
    exact ⟨d, m3, by unfold chS; rw [e1]; simp only [Option.bind_some]; rw [e2]; simp only [Option.bind_some]; rw [e3]; simp only [Option.bind_some]; rw [e4]; simp only [Option.bind_some]; rw [e5]; rfl, k⟩
  | false => exact ⟨_, m2, by unfold chS; rw [e1]; simp only [Option.bind_some]; rw [e2]; simp only [Option.bind_some]; rw [e3]; rfl, k2 rfl⟩
theorem wt_tr (h : we f de mu fun a m => wq (truD m a) fun b => QB b m) : wt (trS f) de mu QB := by
  obtain ⟨a, m1, e1, b, e2, k⟩ := h
  exact ⟨b, m1, by unfold trS; rw [e1]; simp only [Option.bind_some]; rw [e2]; rfl, k⟩
theorem wt_not (h : wt t de mu fun b m => QB (!b) m) : wt (notT t) de mu QB := by
  obtain ⟨b, m1, e1, k⟩ := h
  exact ⟨_, m1, by unfold notT; rw [e1]; rfl, k⟩
theorem wt_and (h : wt t de mu fun b m => (b = true → wt u de m QB) ∧ (b = false → QB false m)) : wt (andT t u) de mu QB := by
  obtain ⟨b, m1, e1, k1, k2⟩ := h
  cases b with
  | true =>
    obtain ⟨c, m2, e2, k⟩ := k1 rfl
    exact ⟨c, m2, by unfold andT; rw [e1]; exact e2, k⟩
  | false => exact ⟨_, m1, by unfold andT; rw [e1]; rfl, k2 rfl⟩
theorem wt_or (h : wt t de mu fun b m => (b = false → wt u de m QB) ∧ (b = true → QB true m)) : wt (orT t u) de mu QB := by
  obtain ⟨b, m1, e1, k1, k2⟩ := h
  cases b with
  | false =>
    obtain ⟨c, m2, e2, k⟩ := k1 rfl
    exact ⟨c, m2, by unfold orT; rw [e1]; exact e2, k⟩
  | true => exact ⟨_, m1, by unfold orT; rw [e1]; rfl, k2 rfl⟩
theorem we_and (h : we f de mu fun a m => ∃ b, a = .bl b ∧ (b = true → we g de m Q) ∧ (b = false → Q (.bl false) m)) : we (andV f g) de mu Q := by
  obtain ⟨a, m1, e1, b, rfl, k1, k2⟩ := h
  cases b with
  | true =>
    obtain ⟨c, m2, e2, k⟩ := k1 rfl
    exact ⟨c, m2, by unfold andV; rw [e1]; exact e2, k⟩
  | false => exact ⟨_, m1, by unfold andV; rw [e1]; rfl, k2 rfl⟩
theorem we_or (h : we f de mu fun a m => ∃ b, a = .bl b ∧ (b = false → we g de m Q) ∧ (b = true → Q (.bl true) m)) : we (orV f g) de mu Q := by
  obtain ⟨a, m1, e1, b, rfl, k1, k2⟩ := h
  cases b with
  | false =>
    obtain ⟨c, m2, e2, k⟩ := k1 rfl
    exact ⟨c, m2, by unfold orV; rw [e1]; exact e2, k⟩
  | true => exact ⟨_, m1, by unfold orV; rw [e1]; rfl, k2 rfl⟩
theorem we_not (h : we f de mu fun a m => ∃ b, a = .bl b ∧ Q (.bl (!b)) m) : we (notV f) de mu Q := by
  obtain ⟨a, m1, e1, b, rfl, k⟩ := h
  exact ⟨_, m1, by unfold notV; rw [e1]; rfl, k⟩
theorem we_if (h : wt t de mu fun b m => (b = true → we f de m Q) ∧ (b = false → we g de m Q)) : we (ifS t f g) de mu Q := by
  obtain ⟨b, m1, e1, k1, k2⟩ := h
  cases b with
  | true =>
    obtain ⟨c, m2, e2, k⟩ := k1 rfl
    exact ⟨c, m2, by unfold ifS; rw [e1]; exact e2, k⟩
  | false =>
    obtain ⟨c, m2, e2, k⟩ := k2 rfl
    exact ⟨c, m2, by unfold ifS; rw [e1]; exact e2, k⟩
theorem wa_nil (k : QA [] mu) : wa nilA de mu QA := ⟨[], mu, rfl, k⟩
theorem wa_cons (h : we f de mu fun d m => wa ga de m fun ds m2 => QA (d :: ds) m2) : wa (consA f ga) de mu QA := by
  obtain ⟨d, m1, e1, ds, m2, e2, k⟩ := h
  exact ⟨_, m2, by unfold consA; rw [e1]; simp only [Option.bind_some]; rw [e2]; rfl, k⟩
theorem we_tup (h : wa ga de mu fun ds m => okItems ds = true ∧ Q (.tup ds) m) : we (tupS ga) de mu Q := by
  obtain ⟨d, m1, e1, e2, k⟩ := h
  exact ⟨_, m1, by unfold tupS; rw [e1]; simp only [Option.bind_some]; rw [if_pos e2], k⟩
theorem we_lst (h : wa ga de mu fun ds m => okItems ds = true ∧ Q (.lst ds) m) : we (lstS ga) de mu Q := by
  obtain ⟨d, m1, e1, e2, k⟩ := h
  exact ⟨_, m1, by unfold lstS; rw [e1]; simp only [Option.bind_some]; rw [if_pos e2], k⟩
theorem we_lstM (h : wa ga de mu fun ds m => okItems ds = true ∧ Q (.loc m.length) (m ++ [.lst ds])) : we (lstM ga) de mu Q := by
  obtain ⟨d, m1, e1, e2, k⟩ := h
  exact ⟨_, _, by unfold lstM; rw [e1]; simp only [Option.bind_some]; rw [if_pos e2], k⟩
theorem we_dicI (k : Q (.loc mu.length) (mu ++ [.dicI []])) : we dicIM de mu Q := ⟨_, _, rfl, k⟩
theorem we_dicT (k : Q (.loc mu.length) (mu ++ [.dicT []])) : we dicTM de mu Q := ⟨_, _, rfl, k⟩
theorem we_callQ {q : Mem → List D → Option D} (h : wa ga de mu fun ds m => wq (q m ds) fun d => Q d m) : we (callQ q ga) de mu Q := by
  obtain ⟨ds, m1, e1, d, e2, k⟩ := h
  exact ⟨_, m1, by unfold callQ; rw [e1]; simp only [Option.bind_some]; rw [e2]; rfl, k⟩
theorem we_isi {ty : Ty} (h : we f de mu fun a m => wq (isTy a ty) fun b => Q (.bl b) m) : we (isiS ty f) de mu Q := by
  obtain ⟨a, m1, e1, b, e2, k⟩ := h
  exact ⟨_, m1, by unfold isiS; rw [e1]; simp only [Option.bind_some]; rw [e2]; rfl, k⟩
theorem we_isi2 {t1 t2 : Ty} (h : we f de mu fun a m => wq (isTys a t1 t2) fun b => Q (.bl b) m) : we (isiS2 t1 t2 f) de mu Q := by
  obtain ⟨a, m1, e1, b, e2, k⟩ := h
  exact ⟨_, m1, by unfold isiS2; rw [e1]; simp only [Option.bind_some]; rw [e2]; rfl, k⟩
theorem we_fld {x : Str} (h : we f de mu fun a m => wq (fldD m x a) fun d => Q d m) : we (fldS x f) de mu Q := by
  obtain ⟨a, m1, e1, b, e2, k⟩ := h
  exact ⟨_, m1, by unfold fldS; rw [e1]; simp only [Option.bind_some]; rw [e2]; rfl, k⟩
theorem we_cut1 {n : Nat} (h : we f de mu fun a m => ∃ ds, a = .tup ds ∧ Q (.tup (ds.drop n)) m) : we (cutS1 n f) de mu Q := by
  obtain ⟨a, m1, e1, ds, rfl, k⟩ := h
  exact ⟨_, m1, by unfold cutS1; rw [e1]; rfl, k⟩
theorem we_rev (h : we f de mu fun a m => ∃ k ds, a = .loc k ∧ m[k]? = some (.lst ds) ∧ Q (.lst ds.reverse) m) : we (revS f) de mu Q := by
  obtain ⟨a, m1, e1, n, ds, rfl, e2, k⟩ := h
  exact ⟨_, m1, by unfold revS; rw [e1]; simp only [Option.bind_some, itemsOf]; rw [e2]; rfl, k⟩
theorem we_frz (h : we f de mu fun a m => ∃ k ds, a = .loc k ∧ m[k]? = some (.lst ds) ∧ Q (.lst ds) (m.set k .gone)) : we (frzS f) de mu Q := by
  obtain ⟨a, m1, e1, n, ds, rfl, e2, k⟩ := h
  exact ⟨_, _, by unfold frzS; rw [e1]; simp only [Option.bind_some]; rw [e2], k⟩
theorem we_app (h : we f1 de mu fun a m => ∃ k ds0, a = .loc k ∧ m[k]? = some (.lst ds0) ∧ we f2 de m fun v m2 => ∃ ds, m2[k]? = some (.lst ds) ∧ isMut v = false ∧ Nat.ble 100000 ds.length = false ∧ Q .non (m2.set k (.lst (ds ++ [v])))) : we (appS f1 f2) de mu Q := by
  obtain ⟨a, m1, e1, n, ds0, rfl, e0, v, m2, e2, ds, e3, e4, e5, k⟩ := h
  exact ⟨_, _, by unfold appS; rw [e1]; simp only [Option.bind_some]; rw [e2]; simp only [Option.bind_some]; rw [e0, e3, e4]; simp only [e5, Bool.or_self, Bool.false_eq_true, if_false], k⟩
theorem we_call (h : wa ga de mu fun ds m => wf F ds m Q) : we (callF F ga) de mu Q := by
  obtain ⟨ds, m1, e1, d, m2, e2, k⟩ := h
  exact ⟨_, m2, by unfold callF; rw [e1]; simp only [Option.bind_some]; rw [e2], k⟩
theorem we_calld {dds : List D} (h : wa ga de mu fun ds m => wf F (ds ++ dds) m Q) : we (callFd F dds ga) de mu Q := by
  obtain ⟨ds, m1, e1, d, m2, e2, k⟩ := h
  exact ⟨_, m2, by unfold callFd; rw [e1]; simp only [Option.bind_some]; rw [e2], k⟩
theorem we_mk {c : Nat} (h : wa ga de mu fun ds m => wf F (.loc m.length :: ds) (m ++ [.ob c []]) fun d m2 => d = .non ∧ ∃ d' m3, endO c m.length m2 = some (d', m3) ∧ Q d' m3) : we (mkF c F ga) de mu Q := by
  obtain ⟨ds, m1, e1, d, m2, e2, rfl, d', m3, e3, k⟩ := h
  exact ⟨_, m3, by unfold mkF; rw [e1]; simp only [Option.bind_some]; rw [e2]; exact e3, k⟩
/-- the same, the maker's answer known -/
theorem we_mkI {c : Nat} (h : wa ga de mu fun ds m => ∃ vs, F (.loc m.length :: ds) (m ++ [.ob c []]) = some (.non, m ++ [.ob c ((clsF c).zip vs)]) ∧ vs.length = (clsF c).length ∧ Q (.ins c vs) m) : we (mkF c F ga) de mu Q := by
  obtain ⟨ds, m1, e1, vs, e2, hl, k⟩ := h
  refine ⟨.ins c vs, m1, ?_, k⟩
  unfold mkF
  rw [e1]
  simp only [Option.bind_some]
  rw [e2]
  show endO c m1.length (m1 ++ [.ob c ((clsF c).zip vs)]) = _
  unfold endO
  rw [List.getElem?_append_right (Nat.le_refl _), Nat.sub_self]
  show (if c = c ∧ ((clsF c).zip vs).map (·.1) = clsF c then some (D.ins c (((clsF c).zip vs).map (·.2)), (m1 ++ [MO.ob c ((clsF c).zip vs)]).take m1.length) else none) = _
  have z1 : ((clsF c).zip vs).map (·.1) = clsF c := List.map_fst_zip (by omega)
  have z2 : ((clsF c).zip vs).map (·.2) = vs := List.map_snd_zip (by omega)
  rw [if_pos ⟨rfl, z1⟩, z2]
  simp
theorem we_met {c : Nat} (h : we f de mu fun o m => ∃ ds, o = .ins c ds ∧ wa ga de m fun es m2 => wf F (.ins c ds :: es) m2 Q) : we (metF c F f ga) de mu Q := by
  obtain ⟨o, m1, e1, ds, rfl, es, m2, e2, d, m3, e3, k⟩ := h
  exact ⟨_, m3, by unfold metF; rw [e1]; simp only [Option.bind_some, if_true]; rw [e2]; simp only [Option.bind_some]; rw [e3], k⟩
theorem we_eqI {c : Nat} (h : we f1 de mu fun a m => we f2 de m fun b m2 => isIns c a = true ∧ anyIns b = true ∧ wf F [a, b] m2 fun d m3 => ∃ r, d = .bl r ∧ Q (.bl r) m3) : we (eqIS c F f1 f2) de mu Q := by
  obtain ⟨a, m1, e1, b, m2, e2, i1, i2, d, m3, e3, r, rfl, k⟩ := h
  exact ⟨_, m3, by unfold eqIS; rw [e1]; simp only [Option.bind_some]; rw [e2]; simp only [Option.bind_some, i1, i2]; rw [Bool.and_self, if_pos rfl, e3]; rfl, k⟩
theorem we_tab {kvs : List (Str × Str)} (h : we f de mu fun a m => ∃ z, a = .str z ∧ wq (kvs.lookup z) fun v => Q (.str v) m) : we (getTab kvs f) de mu Q := by
  obtain ⟨a, m1, e1, z, rfl, v, e2, k⟩ := h
  exact ⟨_, m1, by unfold getTab; rw [e1]; simp only [Option.bind_some]; rw [e2]; rfl, k⟩
/-! targets -/
theorem wg_nm {i : Nat} {d : D} (k : QG (de.set i (some d))) : wg (nmG i) d de QG := ⟨_, rfl, k⟩
theorem wgs_nil (k : QG de) : wgs nilG [] de QG := ⟨_, rfl, k⟩
theorem wgs_cons {g : SG} {gs : SGs} {d : D} {ds : List D} (h : wg g d de fun e => wgs gs ds e QG) : wgs (consG g gs) (d :: ds) de QG := by
  obtain ⟨e, e1, e', e2, k⟩ := h
  exact ⟨e', by unfold consG; simp only [e1, Option.bind_some, e2], k⟩
theorem wg_tup {n : Nat} {gs : SGs} {ds : List D} (hl : ds.length = n) (h : wgs gs ds de QG) : wg (tupG n gs) (.tup ds) de QG := by
  obtain ⟨e, e1, k⟩ := h
  exact ⟨e, by unfold tupG; simp only [hl, if_true, e1], k⟩
theorem wg_unl {n : Nat} {gs : SGs} {ds : List D} (hl : ds.length = n) (h : wgs gs ds de QG) : wg (unlG n gs) (.lst ds) de QG := by
  obtain ⟨e, e1, k⟩ := h
  exact ⟨e, by unfold unlG; simp only [hl, if_true, e1], k⟩
/-! statements -/
def nxt (s : SS) (Q : Out → Env → Mem → Prop) : Out → Env → Mem → Prop := fun o de m => match o with
  | .nx => ws s de m Q
  | o => Q o de m
theorem ws_seq (h : ws s1 de mu (nxt s2 QS)) : ws (seqS s1 s2) de mu QS := by
  obtain ⟨o, e, m1, e1, k⟩ := h
  cases o with
  | nx =>
    obtain ⟨o2, e', m2, e2, k2⟩ := k
    exact ⟨o2, e', m2, by unfold seqS; rw [e1]; exact e2, k2⟩
  | bk => exact ⟨_, e, m1, by unfold seqS; rw [e1]; rfl, k⟩
  | ct => exact ⟨_, e, m1, by unfold seqS; rw [e1]; rfl, k⟩
  | rt d => exact ⟨_, e, m1, by unfold seqS; rw [e1]; rfl, k⟩
theorem nxt_nx {s : SS} {e : Env} (h : ws s e mu QS) : nxt s QS .nx e mu := h
theorem nxt_rt {s : SS} {e : Env} {d : D} (h : QS (.rt d) e mu) : nxt s QS (.rt d) e mu := h
theorem nxt_bk {s : SS} {e : Env} (h : QS .bk e mu) : nxt s QS .bk e mu := h
theorem ws_nx (k : QS .nx de mu) : ws nxS de mu QS := ⟨_, _, _, rfl, k⟩
theorem ws_bk (k : QS .bk de mu) : ws bkS de mu QS := ⟨_, _, _, rfl, k⟩
theorem ws_ret (h : we f de mu fun d m => QS (.rt d) de m) : ws (retS f) de mu QS := by
  obtain ⟨d, m1, e1, k⟩ := h
  exact ⟨_, _, m1, by unfold retS; rw [e1]; rfl, k⟩
theorem ws_set {i : Nat} (h : we f de mu fun d m => QS .nx (de.set i (some d)) m) : ws (setS i f) de mu QS := by
  obtain ⟨d, m1, e1, k⟩ := h
  exact ⟨_, _, m1, by unfold setS asgS; rw [e1]; rfl, k⟩
theorem ws_asg {g : SG} (h : we f de mu fun d m => wg g d de fun e => QS .nx e m) : ws (asgS f g) de mu QS := by
  obtain ⟨d, m1, e1, e, e2, k⟩ := h
  exact ⟨_, _, m1, by unfold asgS; rw [e1]; simp only [Option.bind_some]; rw [e2]; rfl, k⟩
theorem ws_drop (h : we f de mu fun d m => QS .nx de m) : ws (dropS f) de mu QS := by
  obtain ⟨d, m1, e1, k⟩ := h
  exact ⟨_, _, m1, by unfold dropS; rw [e1]; rfl, k⟩
theorem ws_if (h : wt t de mu fun b m => (b = true → ws s1 de m QS) ∧ (b = false → ws s2 de m QS)) : ws (iffS t s1 s2) de mu QS := by
  obtain ⟨b, m1, e1, k1, k2⟩ := h
  cases b with
  | true =>
    obtain ⟨o, e, m2, e2, k⟩ := k1 rfl
    exact ⟨o, e, m2, by unfold iffS; rw [e1]; exact e2, k⟩
  | false =>
    obtain ⟨o, e, m2, e2, k⟩ := k2 rfl
    exact ⟨o, e, m2, by unfold iffS; rw [e1]; exact e2, k⟩
theorem ws_aug {i : Nat} {n : Int} (h : de[i]? = some (some (.int n))) (h2 : we f de mu fun d m => ∃ j, d = .int j ∧ QS .nx (de.set i (some (.int (n + j)))) m) : ws (augS i f) de mu QS := by
  obtain ⟨d, m1, e1, j, rfl, k⟩ := h2
  exact ⟨_, _, m1, by unfold augS; rw [h]; simp only; rw [e1]; rfl, k⟩
theorem ws_sto (h : we f3 de mu fun v m => we f1 de m fun o m2 => we f2 de m2 fun i m3 => ∃ k n ds j, o = .loc k ∧ i = .int n ∧ m3[k]? = some (.lst ds) ∧ ixN ds.length n = some j ∧ isMut v = false ∧ QS .nx de (m3.set k (.lst (ds.set j v)))) : ws (stoS f1 f2 f3) de mu QS := by
  obtain ⟨v, m1, e1, o, m2, e2, i, m3, e3, k, n, ds, j, rfl, rfl, e4, e5, e6, q⟩ := h
  refine ⟨.nx, de, _, ?_, q⟩
  unfold stoS
  rw [e1]; simp only [Option.bind_some]; rw [e2]; simp only [Option.bind_some]; rw [e3]; simp only [Option.bind_some]; rw [e4]
  simp [e5, e6]
theorem ws_put (h : we f3 de mu fun v m => we f1 de m fun o m2 => we f2 de m2 fun i m3 => wq (putM m3 o i v) fun m4 => QS .nx de m4) : ws (putS f1 f2 f3) de mu QS := by
  obtain ⟨v, m1, e1, o, m2, e2, i, m3, e3, m4, e4, q⟩ := h
  exact ⟨.nx, de, m4, by unfold putS; rw [e1]; simp only [Option.bind_some]; rw [e2]; simp only [Option.bind_some]; rw [e3]; simp only [Option.bind_some]; rw [e4]; rfl, q⟩
theorem ws_atr {x : Str} (h : we f2 de mu fun v m => we f1 de m fun o m2 => ∃ k c fs, o = .loc k ∧ m2[k]? = some (.ob c fs) ∧ (c < 6 ∧ x ∈ clsF c ∧ isMut v = false ∧ fs.length < 100) ∧ QS .nx de (m2.set k (.ob c (putD x v fs)))) : ws (atrS x f1 f2) de mu QS := by
  obtain ⟨v, m1, e1, o, m2, e2, k, c, fs, rfl, e3, e4, q⟩ := h
  refine ⟨.nx, de, _, ?_, q⟩
  unfold atrS
  rw [e1]; simp only [Option.bind_some]; rw [e2]; simp only [Option.bind_some]; rw [e3]
  simp only [if_pos e4]
/-! for -/
def turn (Inv : List D → Env → Mem → Prop) (QS : Out → Env → Mem → Prop) (ds : List D) : Out → Env → Mem → Prop := fun o e m => match o with
  | .nx => Inv ds e m
  | .ct => Inv ds e m
  | .bk => QS .nx e m
  | .rt d => QS (.rt d) e m
theorem turn_nx {Inv : List D → Env → Mem → Prop} {ds : List D} {e : Env} (h : Inv ds e mu) : turn Inv QS ds .nx e mu := h
theorem turn_rt {Inv : List D → Env → Mem → Prop} {ds : List D} {e : Env} {d : D} (h : QS (.rt d) e mu) : turn Inv QS ds (.rt d) e mu := h
theorem turn_bk {Inv : List D → Env → Mem → Prop} {ds : List D} {e : Env} (h : QS .nx e mu) : turn Inv QS ds .bk e mu := h
theorem for_loop {gt : SG} {body : SS} (Inv : List D → Env → Mem → Prop) (step : ∀ d ds e m, Inv (d :: ds) e m → wg gt d e fun e1 => ws body e1 m (turn Inv QS ds)) (fin : ∀ e m, Inv [] e m → QS .nx e m) :
    ∀ (items : List D) (e : Env) (m : Mem), Inv items e m → ∃ o e' m', forL gt body items e m = some (o, e', m') ∧ QS o e' m'
  | [], e, m, h => ⟨_, _, _, rfl, fin e m h⟩
  | d :: ds, e, m, h => by
    obtain ⟨e1, h1, o, e2, m2, h2, k⟩ := step d ds e m h
    cases o with
    | nx =>
      obtain ⟨o', e', m', h3, q⟩ := for_loop Inv step fin ds e2 m2 k
      exact ⟨o', e', m', by unfold forL; simp only [h1, h2, Option.bind_some, h3], q⟩
    | ct =>
      obtain ⟨o', e', m', h3, q⟩ := for_loop Inv step fin ds e2 m2 k
      exact ⟨o', e', m', by unfold forL; simp only [h1, h2, Option.bind_some, h3], q⟩
    | bk => exact ⟨_, _, _, by unfold forL; simp only [h1, h2, Option.bind_some], k⟩
    | rt d => exact ⟨_, _, _, by unfold forL; simp only [h1, h2, Option.bind_some], k⟩
theorem ws_for {it : SA} {gt : SG} {body : SS} (Inv : List D → Env → Mem → Prop) (h : wa it de mu fun items m => Inv items de m) (step : ∀ d ds e m, Inv (d :: ds) e m → wg gt d e fun e1 => ws body e1 m (turn Inv QS ds)) (fin : ∀ e m, Inv [] e m → QS .nx e m) : ws (forS it gt body) de mu QS := by
  obtain ⟨items, m1, e1, k⟩ := h
  obtain ⟨o, e', m', e2, q⟩ := for_loop Inv step fin items de m1 k
  exact ⟨o, e', m', by unfold forS; rw [e1]; exact e2, q⟩
theorem wa_itL (h : we f de mu fun a m => ∃ ds, a = .lst ds ∧ QA ds m) : wa (itLS f) de mu QA := by
  obtain ⟨a, m1, e1, ds, rfl, k⟩ := h
  exact ⟨_, m1, by unfold itLS; rw [e1]; rfl, k⟩
theorem wa_itT (h : we f de mu fun a m => ∃ ds, a = .tup ds ∧ QA ds m) : wa (itTS f) de mu QA := by
  obtain ⟨a, m1, e1, ds, rfl, k⟩ := h
  exact ⟨_, m1, by unfold itTS; rw [e1]; rfl, k⟩
theorem wa_itS (h : we f de mu fun a m => ∃ z, a = .str z ∧ QA (sgnD z) m) : wa (itSS f) de mu QA := by
  obtain ⟨a, m1, e1, ds, rfl, k⟩ := h
  exact ⟨_, m1, by unfold itSS; rw [e1]; rfl, k⟩
theorem wa_itE (h : wa ga de mu fun ds m => ∃ es, (ds = [.lst es] ∨ ds = [.tup es]) ∧ QA (enuD 0 es) m) : wa (itES ga) de mu QA := by
  obtain ⟨ds, m1, e1, es, h, k⟩ := h
  rcases h with rfl | rfl <;> exact ⟨_, m1, by unfold itES; rw [e1]; rfl, k⟩
theorem wa_it1 (h : wa ga de mu fun ds m => ∃ j, ds = [.int j] ∧ (-1000000 ≤ j ∧ j ≤ 1000000) ∧ QA (rngD 0 j.toNat) m) : wa (it1S ga) de mu QA := by
  obtain ⟨ds, m1, e1, j, rfl, hj, k⟩ := h
  exact ⟨_, m1, by unfold it1S; rw [e1]; simp only [Option.bind_some, if_pos hj], k⟩
/-! while -/
theorem wh_loop {t : ST} {body : SS} (Inv : Nat → Env → Mem → Prop) (step : ∀ n e m, Inv n e m → wt t e m fun b m1 => (b = true → ∃ n', n = n' + 1 ∧ ws body e m1 (turn (fun _ => Inv n') QS [])) ∧ (b = false → QS .nx e m1)) :
    ∀ (fuel n : Nat) (e : Env) (m : Mem), n < fuel → Inv n e m → ∃ o e' m', whL t body fuel e m = some (o, e', m') ∧ QS o e' m'
  | 0, n, e, m, hn, _ => absurd hn (Nat.not_lt_zero _)
  | fuel + 1, n, e, m, hn, h => by
    obtain ⟨b, m1, e1, k1, k2⟩ := step n e m h
    cases b with
    | false => exact ⟨_, _, _, by unfold whL; simp only [e1, Option.bind_some], k2 rfl⟩
    | true =>
      obtain ⟨n', rfl, o, e2, m2, e3, k⟩ := k1 rfl
      cases o with
      | nx =>
        obtain ⟨o', e', m', h3, q⟩ := wh_loop Inv step fuel n' e2 m2 (by omega) k
        exact ⟨o', e', m', by unfold whL; simp only [e1, e3, Option.bind_some, h3], q⟩
      | ct =>
        obtain ⟨o', e', m', h3, q⟩ := wh_loop Inv step fuel n' e2 m2 (by omega) k
        exact ⟨o', e', m', by unfold whL; simp only [e1, e3, Option.bind_some, h3], q⟩
      | bk => exact ⟨_, _, _, by unfold whL; simp only [e1, e3, Option.bind_some], k⟩
      | rt d => exact ⟨_, _, _, by unfold whL; simp only [e1, e3, Option.bind_some], k⟩
theorem ws_while {t : ST} {body : SS} {fuel : Nat} (Inv : Nat → Env → Mem → Prop) (n : Nat) (hn : n < fuel) (h : Inv n de mu) (step : ∀ n e m, Inv n e m → wt t e m fun b m1 => (b = true → ∃ n', n = n' + 1 ∧ ws body e m1 (turn (fun _ => Inv n') QS [])) ∧ (b = false → QS .nx e m1)) : ws (whS fuel t body) de mu QS := by
  obtain ⟨o, e', m', e2, q⟩ := wh_loop Inv step fuel n de mu hn h
  exact ⟨o, e', m', e2, q⟩
/-! comprehensions -/
theorem lc_loop {n : Nat} {dw : Env} {gt : SG} {tt : ST} {te : SE} (Inv : List D → List D → Mem → Prop)
    (step : ∀ d ds acc m, m.length = n → Inv (d :: ds) acc m → wg gt d dw fun e1 => wt tt e1 (m ++ [.lst acc]) fun b m1 => ∃ m1', m1 = m1' ++ [.lst acc] ∧ m1'.length = n ∧ (b = false → Inv ds acc m1') ∧ (b = true → we te e1 m1 fun v m2 => ∃ m2', m2 = m2' ++ [.lst acc] ∧ m2'.length = n ∧ isMut v = false ∧ Nat.ble 100000 acc.length = false ∧ Inv ds (acc ++ [v]) m2')) :
    ∀ (items acc : List D) (m : Mem), m.length = n → Inv items acc m → ∃ acc' m', lcL n dw gt tt te items (m ++ [.lst acc]) = some (m' ++ [.lst acc']) ∧ m'.length = n ∧ Inv [] acc' m'
  | [], acc, m, hm, h => ⟨acc, m, rfl, hm, h⟩
  | d :: ds, acc, m, hm, h => by
    obtain ⟨e1, h1, b, m1, h2, m1', rfl, l1, k1, k2⟩ := step d ds acc m hm h
    cases b with
    | false =>
      obtain ⟨acc', m', h3, l, q⟩ := lc_loop Inv step ds acc m1' l1 (k1 rfl)
      exact ⟨acc', m', by unfold lcL; simp only [h1, h2, Option.bind_some]; exact h3, l, q⟩
    | true =>
      obtain ⟨v, m2, h4, m2', rfl, l2, nm, nl, k⟩ := k2 rfl
      obtain ⟨acc', m', h3, l, q⟩ := lc_loop Inv step ds (acc ++ [v]) m2' l2 k
      have g1 : (m2' ++ [MO.lst acc])[n]? = some (.lst acc) := by rw [← l2, List.getElem?_append_right (Nat.le_refl _), Nat.sub_self]; rfl
      have g2 : (m2' ++ [MO.lst acc]).set n (.lst (acc ++ [v])) = m2' ++ [.lst (acc ++ [v])] := by
        rw [← l2, List.set_append_right _ _ (Nat.le_refl _), Nat.sub_self]; rfl
      refine ⟨acc', m', ?_, l, q⟩
      unfold lcL
      simp only [h1, h2, h4, Option.bind_some, g1, nm, nl, g2, Bool.or_self]
      exact h3
theorem endL_app {n : Nat} {m : Mem} {acc : List D} (h : m.length = n) : endL n (m ++ [.lst acc]) = some (.lst acc, m) := by
  unfold endL
  rw [← h, List.getElem?_append_right (Nat.le_refl _), Nat.sub_self]
  simp
theorem we_lc {n : Nat} {vs : List Nat} {it : SA} {gt : SG} {tt : ST} {te : SE} (Inv : List D → List D → Mem → Prop) (h : wa it de mu fun items m0 => Inv items [] m0 ∧ m0.length = n)
    (step : ∀ d ds acc m, m.length = n → Inv (d :: ds) acc m → wg gt d (wipeD de vs) fun e1 => wt tt e1 (m ++ [.lst acc]) fun b m1 => ∃ m1', m1 = m1' ++ [.lst acc] ∧ m1'.length = n ∧ (b = false → Inv ds acc m1') ∧ (b = true → we te e1 m1 fun v m2 => ∃ m2', m2 = m2' ++ [.lst acc] ∧ m2'.length = n ∧ isMut v = false ∧ Nat.ble 100000 acc.length = false ∧ Inv ds (acc ++ [v]) m2'))
    (fin : ∀ acc m, m.length = n → Inv [] acc m → Q (.lst acc) m) : we (lcS vs it gt tt te) de mu Q := by
  obtain ⟨items, m0, e1, k, hl⟩ := h
  subst hl
  obtain ⟨acc, m', h3, l, q⟩ := lc_loop Inv step items [] m0 rfl k
  exact ⟨_, m', by unfold lcS; rw [e1]; simp only [Option.bind_some]; rw [h3]; simp only [Option.bind_some]; exact endL_app l, fin _ _ l q⟩
theorem wt_yes (k : QB true mu) : wt yesT de mu QB := ⟨_, _, rfl, k⟩
/-- a comprehension that changes nothing -/
theorem we_map {vs : List Nat} {it : SA} {gt : SG} {te : SE} {items outs : List D} {m0 : Mem} (h : wa it de mu fun is m => is = items ∧ m = m0) (hl : items.length = outs.length) (hl2 : items.length ≤ 1000) (hm : outs.all (fun d => !isMut d) = true)
    (step : ∀ (i : Nat) (d v : D) (acc : List D), items[i]? = some d → outs[i]? = some v → wg gt d (wipeD de vs) fun e1 => we te e1 (m0 ++ [.lst acc]) fun v' m2 => v' = v ∧ m2 = m0 ++ [.lst acc])
    (k : Q (.lst outs) m0) : we (lcS vs it gt yesT te) de mu Q := by
  refine we_lc (n := m0.length) (fun ds acc m => m = m0 ∧ ∃ i, ds = items.drop i ∧ acc = outs.take i ∧ i ≤ items.length) ?_ ?_ ?_
  · obtain ⟨is, m, e1, rfl, rfl⟩ := h
    exact ⟨_, _, e1, ⟨rfl, 0, by simp, by simp, by omega⟩, rfl⟩
  · rintro d ds acc m hlm ⟨rfl, i, h1, rfl, hi⟩
    have hlt : i < items.length := by
      rcases Nat.lt_or_ge i items.length with z | z
      · exact z
      · rw [List.drop_of_length_le z] at h1; cases h1
    rw [List.drop_eq_getElem_cons hlt] at h1
    injection h1 with h1 h2
    subst h1
    have hlo : i < outs.length := by omega
    obtain ⟨e1, g1, v', m2, g2, rfl, rfl⟩ := step i items[i] outs[i] (outs.take i) (List.getElem?_eq_getElem hlt) (List.getElem?_eq_getElem hlo)
    refine ⟨e1, g1, ?_⟩
    refine wt_yes ?_
    refine ⟨m, rfl, rfl, (fun z => by cases z), fun _ => ?_⟩
    refine ⟨_, _, g2, m, rfl, rfl, ?_, ?_, rfl, i + 1, h2, ?_, by omega⟩
    · have := List.all_eq_true.mp hm outs[i] (List.getElem_mem hlo)
      simpa using this
    · have : (outs.take i).length < 100000 := by rw [List.length_take]; omega
      cases q : Nat.ble 100000 (outs.take i).length with
      | false => rfl
      | true => have := Nat.le_of_ble_eq_true q; omega
    · rw [List.take_succ, List.getElem?_eq_getElem hlo]; rfl
  · rintro acc m hlm ⟨rfl, i, h1, rfl, hi⟩
    have : i = items.length := by
      rcases Nat.lt_or_ge i items.length with z | z
      · rw [List.drop_eq_getElem_cons z] at h1; cases h1
      · omega
    subst this
    rw [hl, List.take_length]
    exact k
/-! defs -/
theorem wf_def {N : Nat} {b : SS} {ds : List D} (h : ws b (startD N ds) mu fun o _ m => match o with
  | .rt d => wq (exitR mu.length d m) fun r => Q r.1 r.2
  | .nx => Q .non (m.take mu.length)
  | _ => False) : wf (defD N b) ds mu Q := by
  obtain ⟨o, e, m, e1, k⟩ := h
  cases o with
  | rt d =>
    obtain ⟨r, e2, k⟩ := k
    exact ⟨r.1, r.2, by unfold defD; rw [e1]; exact e2, k⟩
  | nx => exact ⟨_, _, by unfold defD; rw [e1]; rfl, k⟩
  | bk => exact False.elim k
  | ct => exact False.elim k
/-- a def that leaves the memory as it is -/
theorem df_pure {N : Nat} {b : SS} {ds : List D} {d : D} (h : ws b (startD N ds) mu fun o _ m => o = .rt d ∧ m = mu) (nm : isMut d = false) : defD N b ds mu = some (d, mu) := by
  obtain ⟨o, e, m, e1, rfl, rfl⟩ := h
  unfold defD
  rw [e1]
  have : exitR m.length d m = some (d, m.take m.length) := by cases d <;> first | rfl | cases nm
  rw [List.take_length] at this
  exact this
theorem df_tail {N : Nat} {b : SS} {ds : List D} {d : D} {m1 l : Mem} (h : ws b (startD N ds) mu fun o _ m => o = .rt d ∧ m = m1 ++ l) (hl : m1.length = mu.length) (nm : isMut d = false) : defD N b ds mu = some (d, m1) := by
  obtain ⟨o, e, m, e1, rfl, rfl⟩ := h
  unfold defD
  rw [e1]
  have : exitR mu.length d (m1 ++ l) = some (d, (m1 ++ l).take mu.length) := by cases d <;> first | rfl | cases nm
  rw [← hl, List.take_left' rfl] at this
  rw [← hl]
  exact this
end
end Dm
/-! Tx0: the text's statements, its constants, what all defs lean on. -/
namespace T
open PySem PySem.Spec PyProof.Rows L2 Dm
def topS (i : Nat) : Stmt := PySem.Challenge.pw_whosetomorrow_k56_whole_persons_and_plac.main.body.getD i (.Pass ⟨0, 0, 0, 0⟩)
def clsB : Stmt → List Stmt
  | .ClassDef _ _ _ b _ _ _ _ _ _ _ => b
  | _ => []
def clsS (s : Stmt) (j : Nat) : Stmt := (clsB s).getD j (.Pass ⟨0, 0, 0, 0⟩)
def tS (l : List Str) : D := .tup (l.map .str)
def c_LETTERS : D := .str "abcdefghijklmnopqrstuvwxyz"
def c_MOST_STEP : D := .int 30
def c_STEP_WORDS : D := tS ["today", "that day"]
def c_WEEKDAY_WORDS : D := tS ["coming", "last", "then coming", "then last"]
def c_DAY_SORTS : D := tS ["today", "coming", "last", "date"]
def c_PERSON_SORTS : D := tS ["I", "you", "name"]
def c_PLACE_SORTS : D := tS ["here", "place"]
def c_DAY_ACTIONS : D := tS ["keep", "move", "date", "coming", "last", "weekday"]
def c_PERSON_ACTIONS : D := tS ["keep", "I", "you", "name"]
def c_PLACE_ACTIONS : D := tS ["keep", "here", "place"]
def c_MOST_RULES : D := .tup [.int 6, .int 4, .int 3]
def c_MOST_OFFSET : D := .int 9
def c_MOST_MOVED : D := .int 30
def c_FAR : D := .int 10
def c_NAMES : D := tS ["a", "b", "c"]
def tabW : List (Str × Str) := [("I", "person"), ("you", "person"), ("self", "person"), ("told", "person"), ("somebody", "person"), ("one day", "day"), ("here", "place"), ("there", "place"), ("somewhere", "place")]
structure Gd (P : Program) (w : World) (K : PySem.W.Frag) (mg : Str → Option Value) : Prop where
  O : ClsAll K
  tab : HasTab P w K mg "SINGLE_WORDS" tabW
  b_isinstance : mg "isinstance" = none
  b_len : mg "len" = none
  b_all : mg "all" = none
  b_tuple : mg "tuple" = none
  b_list : mg "list" = none
  b_int : mg "int" = none
  b_bool : mg "bool" = none
  b_str : mg "str" = none
  b_enumerate : mg "enumerate" = none
  b_range : mg "range" = none
  b_sorted : mg "sorted" = none
  b_max : mg "max" = none
  b_min : mg "min" = none
  k_Situation : mg "Situation" = some (.ref (clsA K 0))
  k_Step : mg "Step" = some (.ref (clsA K 1))
  k_Book : mg "Book" = some (.ref (clsA K 2))
  k_Closed : mg "Closed" = some (.ref (clsA K 3))
  k_WrongChain : mg "WrongChain" = some (.ref (clsA K 4))
  k_TalkErr : mg "TalkErr" = some (.ref (clsA K 5))
  c_LETTERS : HasC K mg "LETTERS" c_LETTERS
  c_MOST_STEP : HasC K mg "MOST_STEP" c_MOST_STEP
  c_STEP_WORDS : HasC K mg "STEP_WORDS" c_STEP_WORDS
  c_WEEKDAY_WORDS : HasC K mg "WEEKDAY_WORDS" c_WEEKDAY_WORDS
  c_DAY_SORTS : HasC K mg "DAY_SORTS" c_DAY_SORTS
  c_PERSON_SORTS : HasC K mg "PERSON_SORTS" c_PERSON_SORTS
  c_PLACE_SORTS : HasC K mg "PLACE_SORTS" c_PLACE_SORTS
  c_DAY_ACTIONS : HasC K mg "DAY_ACTIONS" c_DAY_ACTIONS
  c_PERSON_ACTIONS : HasC K mg "PERSON_ACTIONS" c_PERSON_ACTIONS
  c_PLACE_ACTIONS : HasC K mg "PLACE_ACTIONS" c_PLACE_ACTIONS
  c_MOST_RULES : HasC K mg "MOST_RULES" c_MOST_RULES
  c_MOST_OFFSET : HasC K mg "MOST_OFFSET" c_MOST_OFFSET
  c_MOST_MOVED : HasC K mg "MOST_MOVED" c_MOST_MOVED
  c_FAR : HasC K mg "FAR" c_FAR
  c_NAMES : HasC K mg "NAMES" c_NAMES
end T
namespace T
open PySem PySem.Spec PyProof.Rows L2 Dm
/-! is_whole -/
abbrev s_is_whole : Stmt := topS 13
abbrev N_is_whole : List Str := ["thing"]
abbrev P_is_whole : List Str := ["thing"]
theorem sc_is_whole : FnScope N_is_whole P_is_whole (defScope s_is_whole) := ⟨rfl, rfl, rfl, by decide +kernel, rfl, by decide +kernel, by decide +kernel⟩
def b_is_whole : SS := (retS (andV (isiS .int (vaS 0)) (notV (isiS .bool (vaS 0)))))
def F_is_whole : FnD := defD 1 b_is_whole
theorem ok_is_whole {P : Program} {w : World} {K : PySem.W.Frag} {mg : Str → Option Value} {base : Heap} (G : Gd P w K mg)  {f : Addr} {fd : FuncData}
    (F : FunD K "is_whole" "is_whole" (defArgs s_is_whole) (defBody s_is_whole) (defScope s_is_whole) [] [] f fd) : FnOk P w K mg base CX0 1 f fd P_is_whole (spD ⟨P, w, K⟩ 1 F_is_whole) :=
  d_fn F sc_is_whole rfl fun cdv A outer s H E hr => by
    have sc := sc_is_whole
    exact (dss_one (ds_ret (de_and (de_isi (t := .int) (pe_callB (call_isiD G.O .int) rfl G.b_isinstance (by decide +kernel) (pa_cons (de_var (pv 0)) (pa_cons (pe_bltn rfl G.b_int (by decide +kernel) rfl) pa_nil)))) (de_one (de_not (de_isi (t := .bool) (pe_callB (call_isiD G.O .bool) rfl G.b_isinstance (by decide +kernel) (pa_cons (de_var (pv 0)) (pa_cons (pe_bltn rfl G.b_bool (by decide +kernel) rfl) pa_nil)))))))))
end T
namespace T
open PySem PySem.Spec PyProof.Rows L2 Dm
/-! is_name -/
abbrev s_is_name : Stmt := topS 14
abbrev N_is_name : List Str := ["thing", "sign"]
abbrev P_is_name : List Str := ["thing"]
theorem sc_is_name : FnScope N_is_name P_is_name (defScope s_is_name) := ⟨rfl, rfl, rfl, by decide +kernel, rfl, by decide +kernel, by decide +kernel⟩
def b_is_name : SS := (seqS (iffS (orT (notT (trS (isiS .str (vaS 0)))) (notT (bS (chS leQ leQ (cS (.int 1)) (callQ lenQ (consA (vaS 0) nilA)) (cS (.int 8)))))) (retS (cS (.bl false))) nxS)
  (retS (callQ allQ (consA (lcS [1] (itSS (vaS 0)) (nmG 1) yesT (bin2 inQ (vaS 1) (cS c_LETTERS))) nilA))))
def F_is_name : FnD := defD 2 b_is_name
theorem ok_is_name {P : Program} {w : World} {K : PySem.W.Frag} {mg : Str → Option Value} {base : Heap} (G : Gd P w K mg)  {f : Addr} {fd : FuncData}
    (F : FunD K "is_name" "is_name" (defArgs s_is_name) (defBody s_is_name) (defScope s_is_name) [] [] f fd) : FnOk P w K mg base CX0 1 f fd P_is_name (spD ⟨P, w, K⟩ 1 F_is_name) :=
  d_fn F sc_is_name rfl fun cdv A outer s H E hr => by
    have sc := sc_is_name
    exact (dss_cons (ds_if (dw_t (dw_or (dt_not (dt_truth (de_isi (t := .str) (pe_callB (call_isiD G.O .str) rfl G.b_isinstance (by decide +kernel) (pa_cons (de_var (pv 0)) (pa_cons (pe_bltn rfl G.b_str (by decide +kernel) rfl) pa_nil)))) fun _ => rfl)) (dw_or1 (dt_not (dt_chain opd_le opd_le de_int (de_callP (pe_callB (cd_len) rfl G.b_len (by decide +kernel) (da_cons (de_var (pv 0)) da_nil))) de_int))))) (dss_one (ds_ret de_bl)) dss_nil)
  (dss_one (ds_ret (de_callP (pe_callB (cd_all rfl) rfl G.b_all (by decide +kernel) (da_cons (de_lc (tgt_name (by decide)) (pe_lc rfl sc.nd (di_str (pi_str (de_var (pv 0)))) (own := [("sign", 1)]) (BlkOk.mk (N := N_is_name) (sc := defScope s_is_name) rfl (by decide +kernel) (by decide +kernel) (by decide +kernel) (by decide +kernel)) (fun s H C cl fp => (pg_name (i := 1) sc.nd rfl (by first | exact Or.inl rfl | exact Or.inr rfl))) (fun s H C cl fp => dts_nil) (fun s H C cl fp => (de_cmp opd_in (de_var (pv 1)) (de_gl G.c_LETTERS rfl) (by with_unfolding_all rfl))))) da_nil))))))
end T
namespace T
open PySem PySem.Spec PyProof.Rows L2 Dm
/-! find_kind -/
abbrev s_find_kind : Stmt := topS 15
abbrev N_find_kind : List Str := ["thing", "head", "rest"]
abbrev P_find_kind : List Str := ["thing"]
theorem sc_find_kind : FnScope N_find_kind P_find_kind (defScope s_find_kind) := ⟨rfl, rfl, rfl, by decide +kernel, rfl, by decide +kernel, by decide +kernel⟩
def b_find_kind : SS := (seqS (iffS (orT (notT (trS (isiS .tuple (vaS 0)))) (orT (notT (bS (chS leQ leQ (cS (.int 1)) (callQ lenQ (consA (vaS 0) nilA)) (cS (.int 2))))) (notT (trS (isiS .str (bin2 ixQ (vaS 0) (cS (.int 0)))))))) (retS (cS .non)) nxS)
  (seqS (setS 1 (bin2 ixQ (vaS 0) (cS (.int 0))))
  (seqS (iffS (bS (bin2 eqQ (callQ lenQ (consA (vaS 0) nilA)) (cS (.int 1)))) (retS (getTab tabW (vaS 1))) nxS)
  (seqS (setS 2 (bin2 ixQ (vaS 0) (cS (.int 1))))
  (seqS (iffS (bS (bin2 eqQ (vaS 1) (cS (.str "name")))) (retS (ifS (trS (callF F_is_name (consA (vaS 2) nilA))) (cS (.str "person")) (cS .non))) nxS)
  (seqS (iffS (bS (bin2 eqQ (vaS 1) (cS (.str "place")))) (retS (ifS (trS (callF F_is_name (consA (vaS 2) nilA))) (cS (.str "place")) (cS .non))) nxS)
  (seqS (iffS (notT (trS (callF F_is_whole (consA (vaS 2) nilA)))) nevSS nxS)
  (seqS (iffS (bS (bin2 eqQ (vaS 1) (cS (.str "date")))) nevSS nxS)
  (seqS (iffS (bS (bin2 inQ (vaS 1) (cS c_STEP_WORDS))) nevSS nxS)
  (seqS (iffS (bS (bin2 inQ (vaS 1) (cS c_WEEKDAY_WORDS))) nevSS nxS)
  (retS (cS .non))))))))))))
def F_find_kind : FnD := defD 3 b_find_kind
theorem lv_find_kind_is_name : 1 ≤ 1 := by decide
theorem lv_find_kind_is_whole : 1 ≤ 1 := by decide
theorem ok_find_kind {P : Program} {w : World} {K : PySem.W.Frag} {mg : Str → Option Value} {base : Heap} (G : Gd P w K mg) (h_is_name : HasFn P w K mg base 1 "is_name" 1 F_is_name) (h_is_whole : HasFn P w K mg base 1 "is_whole" 1 F_is_whole) {f : Addr} {fd : FuncData}
    (F : FunD K "find_kind" "find_kind" (defArgs s_find_kind) (defBody s_find_kind) (defScope s_find_kind) [] [] f fd) : FnOk P w K mg base CX0 2 f fd P_find_kind (spD ⟨P, w, K⟩ 1 F_find_kind) :=
  d_fn F sc_find_kind rfl fun cdv A outer s H E hr => by
    have sc := sc_find_kind
    exact (dss_cons (ds_if (dw_t (dw_or (dt_not (dt_truth (de_isi (t := .tuple) (pe_callB (call_isiD G.O .tuple) rfl G.b_isinstance (by decide +kernel) (pa_cons (de_var (pv 0)) (pa_cons (pe_bltn rfl G.b_tuple (by decide +kernel) rfl) pa_nil)))) fun _ => rfl)) (dw_or (dt_not (dt_chain opd_le opd_le de_int (de_callP (pe_callB (cd_len) rfl G.b_len (by decide +kernel) (da_cons (de_var (pv 0)) da_nil))) de_int)) (dw_or1 (dt_not (dt_truth (de_isi (t := .str) (pe_callB (call_isiD G.O .str) rfl G.b_isinstance (by decide +kernel) (pa_cons (de_ix (de_var (pv 0)) de_int fun _ _ => rfl) (pa_cons (pe_bltn rfl G.b_str (by decide +kernel) rfl) pa_nil)))) fun _ => rfl)))))) (dss_one (ds_ret de_non)) dss_nil)
  (dss_cons (ds_set (ps_set (i := 1) sc.nd rfl (by first | exact Or.inl rfl | exact Or.inr rfl) (de_ix (de_var (pv 0)) de_int fun _ _ => rfl)))
  (dss_cons (ds_if (dt_cmp opd_eq (de_callP (pe_callB (cd_len) rfl G.b_len (by decide +kernel) (da_cons (de_var (pv 0)) da_nil))) de_int (nomark _)) (dss_one (ds_ret (de_sget G.tab rfl (de_var (pv 1)) ⟨rfl, rfl, rfl, rfl⟩))) dss_nil)
  (dss_cons (ds_set (ps_set (i := 2) sc.nd rfl (by first | exact Or.inl rfl | exact Or.inr rfl) (de_ix (de_var (pv 0)) de_int fun _ _ => rfl)))
  (dss_cons (ds_if (dt_cmp opd_eq (de_var (pv 1)) de_str (nomark _)) (dss_one (ds_ret (de_if (dt_truth (de_call h_is_name (hr.mono (lv_find_kind_is_name)) rfl (len_cons len_nil) (da_cons (de_var (pv 2)) da_nil)) fun _ => rfl) de_str de_non))) dss_nil)
  (dss_cons (ds_if (dt_cmp opd_eq (de_var (pv 1)) de_str (nomark _)) (dss_one (ds_ret (de_if (dt_truth (de_call h_is_name (hr.mono (lv_find_kind_is_name)) rfl (len_cons len_nil) (da_cons (de_var (pv 2)) da_nil)) fun _ => rfl) de_str de_non))) dss_nil)
  (dss_cons (ds_if (dt_not (dt_truth (de_call h_is_whole (hr.mono (lv_find_kind_is_whole)) rfl (len_cons len_nil) (da_cons (de_var (pv 2)) da_nil)) fun _ => rfl)) dss_nev dss_nil)
  (dss_cons (ds_if (dt_cmp opd_eq (de_var (pv 1)) de_str (nomark _)) dss_nev dss_nil)
  (dss_cons (ds_if (dt_cmp opd_in (de_var (pv 1)) (de_gl G.c_STEP_WORDS rfl) (by with_unfolding_all rfl)) dss_nev dss_nil)
  (dss_cons (ds_if (dt_cmp opd_in (de_var (pv 1)) (de_gl G.c_WEEKDAY_WORDS rfl) (by with_unfolding_all rfl)) dss_nev dss_nil)
  (dss_one (ds_ret de_non))))))))))))
end T
namespace T
open PySem PySem.Spec PyProof.Rows L2 Dm
/-! Situation.__init__ -/
abbrev s_Situation_init : Stmt := clsS (topS 17) 0
abbrev N_Situation_init : List Str := ["self", "teller", "hearer", "day", "place"]
abbrev P_Situation_init : List Str := ["self", "teller", "hearer", "day", "place"]
theorem sc_Situation_init : FnScope N_Situation_init P_Situation_init (defScope s_Situation_init) := ⟨rfl, rfl, rfl, by decide +kernel, rfl, by decide +kernel, by decide +kernel⟩
def b_Situation_init : SS := (seqS (iffS (notT (trS (callF F_is_name (consA (vaS 1) nilA)))) nevSS nxS)
  (seqS (iffS (notT (trS (callF F_is_name (consA (vaS 2) nilA)))) nevSS nxS)
  (seqS (iffS (notT (trS (callF F_is_whole (consA (vaS 3) nilA)))) nevSS nxS)
  (seqS (iffS (notT (trS (callF F_is_name (consA (vaS 4) nilA)))) nevSS nxS)
  (seqS (atrS "teller" (vaS 0) (vaS 1))
  (seqS (atrS "hearer" (vaS 0) (vaS 2))
  (seqS (atrS "day" (vaS 0) (vaS 3))
  (atrS "place" (vaS 0) (vaS 4)))))))))
def F_Situation_init : FnD := defD 5 b_Situation_init
theorem lv_Situation_init_is_name : 1 ≤ 1 := by decide
theorem lv_Situation_init_is_whole : 1 ≤ 1 := by decide
theorem ok_Situation_init {P : Program} {w : World} {K : PySem.W.Frag} {mg : Str → Option Value} {base : Heap} (G : Gd P w K mg) (h_is_name : HasFn P w K mg base 1 "is_name" 1 F_is_name) (h_is_whole : HasFn P w K mg base 1 "is_whole" 1 F_is_whole) {f : Addr} {fd : FuncData}
    (F : FunD K "__init__" "Situation.__init__" (defArgs s_Situation_init) (defBody s_Situation_init) (defScope s_Situation_init) [] [] f fd) : FnOk P w K mg base CX0 2 f fd P_Situation_init (spD ⟨P, w, K⟩ 5 F_Situation_init) :=
  d_fn F sc_Situation_init rfl fun cdv A outer s H E hr => by
    have sc := sc_Situation_init
    exact (dss_cons (ds_if (dt_not (dt_truth (de_call h_is_name (hr.mono (lv_Situation_init_is_name)) rfl (len_cons len_nil) (da_cons (de_var (pv 1)) da_nil)) fun _ => rfl)) (dss_one ds_nev) dss_nil)
  (dss_cons (ds_if (dt_not (dt_truth (de_call h_is_name (hr.mono (lv_Situation_init_is_name)) rfl (len_cons len_nil) (da_cons (de_var (pv 2)) da_nil)) fun _ => rfl)) (dss_one ds_nev) dss_nil)
  (dss_cons (ds_if (dt_not (dt_truth (de_call h_is_whole (hr.mono (lv_Situation_init_is_whole)) rfl (len_cons len_nil) (da_cons (de_var (pv 3)) da_nil)) fun _ => rfl)) (dss_one ds_nev) dss_nil)
  (dss_cons (ds_if (dt_not (dt_truth (de_call h_is_name (hr.mono (lv_Situation_init_is_name)) rfl (len_cons len_nil) (da_cons (de_var (pv 4)) da_nil)) fun _ => rfl)) (dss_one ds_nev) dss_nil)
  (dss_cons (ds_atr G.O (ps_fld (de_var (pv 0)) (de_var (pv 1)) rfl))
  (dss_cons (ds_atr G.O (ps_fld (de_var (pv 0)) (de_var (pv 2)) rfl))
  (dss_cons (ds_atr G.O (ps_fld (de_var (pv 0)) (de_var (pv 3)) rfl))
  (dss_one (ds_atr G.O (ps_fld (de_var (pv 0)) (de_var (pv 4)) rfl))))))))))
end T
namespace T
open PySem PySem.Spec PyProof.Rows L2 Dm
/-! Situation.__eq__ -/
abbrev s_Situation_eq : Stmt := clsS (topS 17) 1
abbrev N_Situation_eq : List Str := ["self", "other"]
abbrev P_Situation_eq : List Str := ["self", "other"]
theorem sc_Situation_eq : FnScope N_Situation_eq P_Situation_eq (defScope s_Situation_eq) := ⟨rfl, rfl, rfl, by decide +kernel, rfl, by decide +kernel, by decide +kernel⟩
def b_Situation_eq : SS := (retS (andV (isiS (.own 0) (vaS 1)) (andV (bin2 eqQ (fldS "teller" (vaS 0)) (fldS "teller" (vaS 1))) (andV (bin2 eqQ (fldS "hearer" (vaS 0)) (fldS "hearer" (vaS 1))) (andV (bin2 eqQ (fldS "day" (vaS 0)) (fldS "day" (vaS 1))) (bin2 eqQ (fldS "place" (vaS 0)) (fldS "place" (vaS 1))))))))
def F_Situation_eq : FnD := defD 2 b_Situation_eq
theorem ok_Situation_eq {P : Program} {w : World} {K : PySem.W.Frag} {mg : Str → Option Value} {base : Heap} (G : Gd P w K mg)  {f : Addr} {fd : FuncData}
    (F : FunD K "__eq__" "Situation.__eq__" (defArgs s_Situation_eq) (defBody s_Situation_eq) (defScope s_Situation_eq) [] [] f fd) : FnOk P w K mg base CX0 1 f fd P_Situation_eq (spD ⟨P, w, K⟩ 2 F_Situation_eq) :=
  d_fn F sc_Situation_eq rfl fun cdv A outer s H E hr => by
    have sc := sc_Situation_eq
    exact (dss_one (ds_ret (de_and (de_isi (t := (.own 0)) (pe_callB (call_isiD G.O (.own 0)) rfl G.b_isinstance (by decide +kernel) (pa_cons (de_var (pv 1)) (pa_cons (pe_glob rfl G.k_Situation rfl) pa_nil)))) (de_and (de_cmp opd_eq (de_fld G.O (de_var (pv 0)) rfl) (de_fld G.O (de_var (pv 1)) rfl) (nomark _)) (de_and (de_cmp opd_eq (de_fld G.O (de_var (pv 0)) rfl) (de_fld G.O (de_var (pv 1)) rfl) (nomark _)) (de_and (de_cmp opd_eq (de_fld G.O (de_var (pv 0)) rfl) (de_fld G.O (de_var (pv 1)) rfl) (nomark _)) (de_one (de_cmp opd_eq (de_fld G.O (de_var (pv 0)) rfl) (de_fld G.O (de_var (pv 1)) rfl) (nomark _)))))))))
end T
namespace T
open PySem PySem.Spec PyProof.Rows L2 Dm
/-! Situation.moved -/
abbrev s_Situation_moved : Stmt := clsS (topS 17) 2
abbrev N_Situation_moved : List Str := ["self", "days"]
abbrev P_Situation_moved : List Str := ["self", "days"]
theorem sc_Situation_moved : FnScope N_Situation_moved P_Situation_moved (defScope s_Situation_moved) := ⟨rfl, rfl, rfl, by decide +kernel, rfl, by decide +kernel, by decide +kernel⟩
def b_Situation_moved : SS := (seqS (iffS (notT (trS (callF F_is_whole (consA (vaS 1) nilA)))) nevSS nxS)
  (retS (mkF 0 F_Situation_init (consA (fldS "teller" (vaS 0)) (consA (fldS "hearer" (vaS 0)) (consA (bin2 addQ (fldS "day" (vaS 0)) (vaS 1)) (consA (fldS "place" (vaS 0)) nilA)))))))
def F_Situation_moved : FnD := defD 2 b_Situation_moved
theorem lw_Situation_moved_Situation_init : 3 ≤ 3 := by decide
theorem lv_Situation_moved_is_whole : 1 ≤ 3 := by decide
theorem ok_Situation_moved {P : Program} {w : World} {K : PySem.W.Frag} {mg : Str → Option Value} {base : Heap} (G : Gd P w K mg) (h_Situation_init : HasMk P w K mg base 2 0 4 F_Situation_init) (h_is_whole : HasFn P w K mg base 1 "is_whole" 1 F_is_whole) {f : Addr} {fd : FuncData}
    (F : FunD K "moved" "Situation.moved" (defArgs s_Situation_moved) (defBody s_Situation_moved) (defScope s_Situation_moved) [] [] f fd) : FnOk P w K mg base CX0 4 f fd P_Situation_moved (spD ⟨P, w, K⟩ 2 F_Situation_moved) :=
  d_fn F sc_Situation_moved rfl fun cdv A outer s H E hr => by
    have sc := sc_Situation_moved
    exact (dss_cons (ds_if (dt_not (dt_truth (de_call h_is_whole (hr.mono (lv_Situation_moved_is_whole)) rfl (len_cons len_nil) (da_cons (de_var (pv 1)) da_nil)) fun _ => rfl)) (dss_one ds_nev) dss_nil)
  (dss_one (ds_ret (de_make h_Situation_init rfl (hr.mono (lw_Situation_moved_Situation_init)) rfl (len_cons (len_cons (len_cons (len_cons len_nil)))) (da_cons (de_fld G.O (de_var (pv 0)) rfl) (da_cons (de_fld G.O (de_var (pv 0)) rfl) (da_cons (de_op opd_add (de_fld G.O (de_var (pv 0)) rfl) (de_var (pv 1))) (da_cons (de_fld G.O (de_var (pv 0)) rfl) da_nil))))))))
end T
namespace T
open PySem PySem.Spec PyProof.Rows L2 Dm
/-! Step.__init__ -/
abbrev s_Step_init : Stmt := clsS (topS 28) 0
abbrev N_Step_init : List Str := ["self", "delay", "hearer", "place"]
abbrev P_Step_init : List Str := ["self", "delay", "hearer", "place"]
theorem sc_Step_init : FnScope N_Step_init P_Step_init (defScope s_Step_init) := ⟨rfl, rfl, rfl, by decide +kernel, rfl, by decide +kernel, by decide +kernel⟩
def b_Step_init : SS := (seqS (iffS (orT (notT (trS (callF F_is_whole (consA (vaS 1) nilA)))) (bS (bin2 ltQ (vaS 1) (cS (.int 0))))) nevSS nxS)
  (seqS (iffS (notT (trS (callF F_is_name (consA (vaS 2) nilA)))) nevSS nxS)
  (seqS (iffS (notT (trS (callF F_is_name (consA (vaS 3) nilA)))) nevSS nxS)
  (seqS (atrS "delay" (vaS 0) (vaS 1))
  (seqS (atrS "hearer" (vaS 0) (vaS 2))
  (atrS "place" (vaS 0) (vaS 3)))))))
def F_Step_init : FnD := defD 4 b_Step_init
theorem lv_Step_init_is_name : 1 ≤ 1 := by decide
theorem lv_Step_init_is_whole : 1 ≤ 1 := by decide
theorem ok_Step_init {P : Program} {w : World} {K : PySem.W.Frag} {mg : Str → Option Value} {base : Heap} (G : Gd P w K mg) (h_is_name : HasFn P w K mg base 1 "is_name" 1 F_is_name) (h_is_whole : HasFn P w K mg base 1 "is_whole" 1 F_is_whole) {f : Addr} {fd : FuncData}
    (F : FunD K "__init__" "Step.__init__" (defArgs s_Step_init) (defBody s_Step_init) (defScope s_Step_init) [] [] f fd) : FnOk P w K mg base CX0 2 f fd P_Step_init (spD ⟨P, w, K⟩ 4 F_Step_init) :=
  d_fn F sc_Step_init rfl fun cdv A outer s H E hr => by
    have sc := sc_Step_init
    exact (dss_cons (ds_if (dw_t (dw_or (dt_not (dt_truth (de_call h_is_whole (hr.mono (lv_Step_init_is_whole)) rfl (len_cons len_nil) (da_cons (de_var (pv 1)) da_nil)) fun _ => rfl)) (dw_or1 (dt_cmp opd_lt (de_var (pv 1)) de_int (nomark _))))) (dss_one ds_nev) dss_nil)
  (dss_cons (ds_if (dt_not (dt_truth (de_call h_is_name (hr.mono (lv_Step_init_is_name)) rfl (len_cons len_nil) (da_cons (de_var (pv 2)) da_nil)) fun _ => rfl)) (dss_one ds_nev) dss_nil)
  (dss_cons (ds_if (dt_not (dt_truth (de_call h_is_name (hr.mono (lv_Step_init_is_name)) rfl (len_cons len_nil) (da_cons (de_var (pv 3)) da_nil)) fun _ => rfl)) (dss_one ds_nev) dss_nil)
  (dss_cons (ds_atr G.O (ps_fld (de_var (pv 0)) (de_var (pv 1)) rfl))
  (dss_cons (ds_atr G.O (ps_fld (de_var (pv 0)) (de_var (pv 2)) rfl))
  (dss_one (ds_atr G.O (ps_fld (de_var (pv 0)) (de_var (pv 3)) rfl))))))))
end T
namespace T
open PySem PySem.Spec PyProof.Rows L2 Dm
/-! Step.__eq__ -/
abbrev s_Step_eq : Stmt := clsS (topS 28) 1
abbrev N_Step_eq : List Str := ["self", "other"]
abbrev P_Step_eq : List Str := ["self", "other"]
theorem sc_Step_eq : FnScope N_Step_eq P_Step_eq (defScope s_Step_eq) := ⟨rfl, rfl, rfl, by decide +kernel, rfl, by decide +kernel, by decide +kernel⟩
def b_Step_eq : SS := (retS (andV (isiS (.own 1) (vaS 1)) (andV (bin2 eqQ (fldS "delay" (vaS 0)) (fldS "delay" (vaS 1))) (andV (bin2 eqQ (fldS "hearer" (vaS 0)) (fldS "hearer" (vaS 1))) (bin2 eqQ (fldS "place" (vaS 0)) (fldS "place" (vaS 1)))))))
def F_Step_eq : FnD := defD 2 b_Step_eq
theorem ok_Step_eq {P : Program} {w : World} {K : PySem.W.Frag} {mg : Str → Option Value} {base : Heap} (G : Gd P w K mg)  {f : Addr} {fd : FuncData}
    (F : FunD K "__eq__" "Step.__eq__" (defArgs s_Step_eq) (defBody s_Step_eq) (defScope s_Step_eq) [] [] f fd) : FnOk P w K mg base CX0 1 f fd P_Step_eq (spD ⟨P, w, K⟩ 2 F_Step_eq) :=
  d_fn F sc_Step_eq rfl fun cdv A outer s H E hr => by
    have sc := sc_Step_eq
    exact (dss_one (ds_ret (de_and (de_isi (t := (.own 1)) (pe_callB (call_isiD G.O (.own 1)) rfl G.b_isinstance (by decide +kernel) (pa_cons (de_var (pv 1)) (pa_cons (pe_glob rfl G.k_Step rfl) pa_nil)))) (de_and (de_cmp opd_eq (de_fld G.O (de_var (pv 0)) rfl) (de_fld G.O (de_var (pv 1)) rfl) (nomark _)) (de_and (de_cmp opd_eq (de_fld G.O (de_var (pv 0)) rfl) (de_fld G.O (de_var (pv 1)) rfl) (nomark _)) (de_one (de_cmp opd_eq (de_fld G.O (de_var (pv 0)) rfl) (de_fld G.O (de_var (pv 1)) rfl) (nomark _))))))))
theorem yes_Step : StepYes F_Step_eq := fun i x y mu => by
  simp (decide := true) [F_Step_eq, b_Step_eq, defD, startD, seqS, retS, andV, isiS, isTy, bin2, fldS, fldD, fldIx, clsF, eqQ, eqS, vaS, exitR, List.findIdx?_cons]
end T
namespace T
open PySem PySem.Spec PyProof.Rows L2 Dm
/-! lies_from -/
abbrev s_lies_from : Stmt := topS 29
abbrev N_lies_from : List Str := ["thing", "low", "high"]
abbrev P_lies_from : List Str := ["thing", "low", "high"]
theorem sc_lies_from : FnScope N_lies_from P_lies_from (defScope s_lies_from) := ⟨rfl, rfl, rfl, by decide +kernel, rfl, by decide +kernel, by decide +kernel⟩
def b_lies_from : SS := (retS (andV (callF F_is_whole (consA (vaS 0) nilA)) (chS leQ leQ (vaS 1) (vaS 0) (vaS 2))))
def F_lies_from : FnD := defD 3 b_lies_from
theorem lv_lies_from_is_whole : 1 ≤ 1 := by decide
theorem ok_lies_from {P : Program} {w : World} {K : PySem.W.Frag} {mg : Str → Option Value} {base : Heap} (G : Gd P w K mg) (h_is_whole : HasFn P w K mg base 1 "is_whole" 1 F_is_whole) {f : Addr} {fd : FuncData}
    (F : FunD K "lies_from" "lies_from" (defArgs s_lies_from) (defBody s_lies_from) (defScope s_lies_from) [] [] f fd) : FnOk P w K mg base CX0 2 f fd P_lies_from (spD ⟨P, w, K⟩ 3 F_lies_from) :=
  d_fn F sc_lies_from rfl fun cdv A outer s H E hr => by
    have sc := sc_lies_from
    exact (dss_one (ds_ret (de_and (de_call h_is_whole (hr.mono (lv_lies_from_is_whole)) rfl (len_cons len_nil) (da_cons (de_var (pv 0)) da_nil)) (de_one (de_chain opd_le opd_le (de_var (pv 1)) (de_var (pv 0)) (de_var (pv 2)) (pe_chain opd_le opd_le (de_var (pv 1)) (de_var (pv 0)) (de_var (pv 2))))))))
end T
namespace T
open PySem PySem.Spec PyProof.Rows L2 Dm
/-! is_answer -/
abbrev s_is_answer : Stmt := topS 30
abbrev N_is_answer : List Str := ["thing"]
abbrev P_is_answer : List Str := ["thing"]
theorem sc_is_answer : FnScope N_is_answer P_is_answer (defScope s_is_answer) := ⟨rfl, rfl, rfl, by decide +kernel, rfl, by decide +kernel, by decide +kernel⟩
def b_is_answer : SS := (retS (orV (bin2 isNQ (vaS 0) (cS .non)) (isiS .bool (vaS 0))))
def F_is_answer : FnD := defD 1 b_is_answer
theorem ok_is_answer {P : Program} {w : World} {K : PySem.W.Frag} {mg : Str → Option Value} {base : Heap} (G : Gd P w K mg)  {f : Addr} {fd : FuncData}
    (F : FunD K "is_answer" "is_answer" (defArgs s_is_answer) (defBody s_is_answer) (defScope s_is_answer) [] [] f fd) : FnOk P w K mg base CX0 1 f fd P_is_answer (spD ⟨P, w, K⟩ 1 F_is_answer) :=
  d_fn F sc_is_answer rfl fun cdv A outer s H E hr => by
    have sc := sc_is_answer
    exact (dss_one (ds_ret (de_or (de_cmp opd_is (de_var (pv 0)) de_non (nomark _)) (de_one (de_isi (t := .bool) (pe_callB (call_isiD G.O .bool) rfl G.b_isinstance (by decide +kernel) (pa_cons (de_var (pv 0)) (pa_cons (pe_bltn rfl G.b_bool (by decide +kernel) rfl) pa_nil))))))))
end T
namespace T
open PySem PySem.Spec PyProof.Rows L2 Dm
/-! check_day_rule -/
abbrev s_check_day_rule : Stmt := topS 31
abbrev N_check_day_rule : List Str := ["index", "rule", "sort", "low", "high", "least", "most", "action"]
abbrev P_check_day_rule : List Str := ["index", "rule"]
theorem sc_check_day_rule : FnScope N_check_day_rule P_check_day_rule (defScope s_check_day_rule) := ⟨rfl, rfl, rfl, by decide +kernel, rfl, by decide +kernel, by decide +kernel⟩
def b_check_day_rule : SS := (seqS (iffS (orT (notT (trS (isiS2 .list .tuple (vaS 1)))) (bS (bin2 neQ (callQ lenQ (consA (vaS 1) nilA)) (cS (.int 6))))) nevSS nxS)
  (seqS (asgS (vaS 1) (unlG 6 (consG (nmG 2) (consG (nmG 3) (consG (nmG 4) (consG (nmG 5) (consG (nmG 6) (consG (nmG 7) nilG))))))))
  (seqS (iffS (bS (bin2 ninQ (vaS 2) (cS c_DAY_SORTS))) nevSS nxS)
  (seqS (iffS (orT (notT (trS (callF F_lies_from (consA (vaS 3) (consA (negS (cS c_MOST_OFFSET)) (consA (cS c_MOST_OFFSET) nilA)))))) (notT (trS (callF F_lies_from (consA (vaS 4) (consA (vaS 3) (consA (cS c_MOST_OFFSET) nilA))))))) nevSS nxS)
  (seqS (iffS (orT (notT (trS (callF F_lies_from (consA (vaS 5) (consA (cS (.int 0)) (consA (cS (.int 9)) nilA)))))) (notT (orT (bS (bin2 isNQ (vaS 6) (cS .non))) (trS (callF F_lies_from (consA (vaS 6) (consA (vaS 5) (consA (cS (.int 9)) nilA)))))))) nevSS nxS)
  (iffS (andT (notT (trS (callF F_lies_from (consA (vaS 7) (consA (cS (.int 0)) (consA (cS (.int 9)) nilA)))))) (bS (bin2 ninQ (vaS 7) (cS c_DAY_ACTIONS)))) nevSS nxS))))))
def F_check_day_rule : FnD := defD 8 b_check_day_rule
theorem lv_check_day_rule_lies_from : 2 ≤ 2 := by decide
theorem ok_check_day_rule {P : Program} {w : World} {K : PySem.W.Frag} {mg : Str → Option Value} {base : Heap} (G : Gd P w K mg) (h_lies_from : HasFn P w K mg base 2 "lies_from" 3 F_lies_from) {f : Addr} {fd : FuncData}
    (F : FunD K "check_day_rule" "check_day_rule" (defArgs s_check_day_rule) (defBody s_check_day_rule) (defScope s_check_day_rule) [] [] f fd) : FnOk P w K mg base CX0 3 f fd P_check_day_rule (spD ⟨P, w, K⟩ 2 F_check_day_rule) :=
  d_fn F sc_check_day_rule rfl fun cdv A outer s H E hr => by
    have sc := sc_check_day_rule
    exact (dss_cons (ds_if (dw_t (dw_or (dt_not (dt_truth (de_isi2 (t1 := .list) (t2 := .tuple) (pe_callB (call_isiD2 G.O .list .tuple) rfl G.b_isinstance (by decide +kernel) (pa_cons (de_var (pv 1)) (pa_cons (pe_tup (pa_cons (pe_bltn rfl G.b_list (by decide +kernel) rfl) (pa_cons (pe_bltn rfl G.b_tuple (by decide +kernel) rfl) pa_nil))) pa_nil)))) fun _ => rfl)) (dw_or1 (dt_cmp opd_ne (de_callP (pe_callB (cd_len) rfl G.b_len (by decide +kernel) (da_cons (de_var (pv 1)) da_nil))) de_int (nomark _))))) (dss_one ds_nev) dss_nil)
  (dss_cons (ds_asg (de_var (pv 1)) (dg_unl (pg_unl rfl (dgs_cons (dg_name (i := 2) (pg_name (i := 2) sc.nd rfl (by first | exact Or.inl rfl | exact Or.inr rfl))) (dgs_cons (dg_name (i := 3) (pg_name (i := 3) sc.nd rfl (by first | exact Or.inl rfl | exact Or.inr rfl))) (dgs_cons (dg_name (i := 4) (pg_name (i := 4) sc.nd rfl (by first | exact Or.inl rfl | exact Or.inr rfl))) (dgs_cons (dg_name (i := 5) (pg_name (i := 5) sc.nd rfl (by first | exact Or.inl rfl | exact Or.inr rfl))) (dgs_cons (dg_name (i := 6) (pg_name (i := 6) sc.nd rfl (by first | exact Or.inl rfl | exact Or.inr rfl))) (dgs_cons (dg_name (i := 7) (pg_name (i := 7) sc.nd rfl (by first | exact Or.inl rfl | exact Or.inr rfl))) dgs_nil)))))))))
  (dss_cons (ds_if (dt_cmp opd_notin (de_var (pv 2)) (de_gl G.c_DAY_SORTS rfl) (by with_unfolding_all rfl)) (dss_one ds_nev) dss_nil)
  (dss_cons (ds_if (dw_t (dw_or (dt_not (dt_truth (de_call h_lies_from (hr.mono (lv_check_day_rule_lies_from)) rfl (len_cons (len_cons (len_cons len_nil))) (da_cons (de_var (pv 3)) (da_cons (de_neg (de_gl G.c_MOST_OFFSET rfl)) (da_cons (de_gl G.c_MOST_OFFSET rfl) da_nil)))) fun _ => rfl)) (dw_or1 (dt_not (dt_truth (de_call h_lies_from (hr.mono (lv_check_day_rule_lies_from)) rfl (len_cons (len_cons (len_cons len_nil))) (da_cons (de_var (pv 4)) (da_cons (de_var (pv 3)) (da_cons (de_gl G.c_MOST_OFFSET rfl) da_nil)))) fun _ => rfl))))) (dss_one ds_nev) dss_nil)
  (dss_cons (ds_if (dw_t (dw_or (dt_not (dt_truth (de_call h_lies_from (hr.mono (lv_check_day_rule_lies_from)) rfl (len_cons (len_cons (len_cons len_nil))) (da_cons (de_var (pv 5)) (da_cons de_int (da_cons de_int da_nil)))) fun _ => rfl)) (dw_or1 (dt_not (dw_t (dw_or (dt_cmp opd_is (de_var (pv 6)) de_non (nomark _)) (dw_or1 (dt_truth (de_call h_lies_from (hr.mono (lv_check_day_rule_lies_from)) rfl (len_cons (len_cons (len_cons len_nil))) (da_cons (de_var (pv 6)) (da_cons (de_var (pv 5)) (da_cons de_int da_nil)))) fun _ => rfl)))))))) (dss_one ds_nev) dss_nil)
  (dss_one (ds_if (dw_t (dw_and (dt_not (dt_truth (de_call h_lies_from (hr.mono (lv_check_day_rule_lies_from)) rfl (len_cons (len_cons (len_cons len_nil))) (da_cons (de_var (pv 7)) (da_cons de_int (da_cons de_int da_nil)))) fun _ => rfl)) (dw_and1 (dt_cmp opd_notin (de_var (pv 7)) (de_gl G.c_DAY_ACTIONS rfl) (by with_unfolding_all rfl))))) (dss_one ds_nev) dss_nil)))))))
end T
namespace T
open PySem PySem.Spec PyProof.Rows L2 Dm
/-! check_person_rule -/
abbrev s_check_person_rule : Stmt := topS 32
abbrev N_check_person_rule : List Str := ["index", "rule", "sort", "mine", "yours", "action"]
abbrev P_check_person_rule : List Str := ["index", "rule"]
theorem sc_check_person_rule : FnScope N_check_person_rule P_check_person_rule (defScope s_check_person_rule) := ⟨rfl, rfl, rfl, by decide +kernel, rfl, by decide +kernel, by decide +kernel⟩
def b_check_person_rule : SS := (seqS (iffS (orT (notT (trS (isiS2 .list .tuple (vaS 1)))) (bS (bin2 neQ (callQ lenQ (consA (vaS 1) nilA)) (cS (.int 4))))) nevSS nxS)
  (seqS (asgS (vaS 1) (tupG 4 (consG (nmG 2) (consG (nmG 3) (consG (nmG 4) (consG (nmG 5) nilG))))))
  (seqS (iffS (bS (bin2 ninQ (vaS 2) (cS c_PERSON_SORTS))) nevSS nxS)
  (seqS (iffS (orT (notT (trS (callF F_is_answer (consA (vaS 3) nilA)))) (notT (trS (callF F_is_answer (consA (vaS 4) nilA))))) nevSS nxS)
  (iffS (bS (bin2 ninQ (vaS 5) (cS c_PERSON_ACTIONS))) nevSS nxS)))))
def F_check_person_rule : FnD := defD 6 b_check_person_rule
theorem lv_check_person_rule_is_answer : 1 ≤ 1 := by decide
theorem ok_check_person_rule {P : Program} {w : World} {K : PySem.W.Frag} {mg : Str → Option Value} {base : Heap} (G : Gd P w K mg) (h_is_answer : HasFn P w K mg base 1 "is_answer" 1 F_is_answer) {f : Addr} {fd : FuncData}
    (F : FunD K "check_person_rule" "check_person_rule" (defArgs s_check_person_rule) (defBody s_check_person_rule) (defScope s_check_person_rule) [] [] f fd) : FnOk P w K mg base CX0 2 f fd P_check_person_rule (spD ⟨P, w, K⟩ 2 F_check_person_rule) :=
  d_fn F sc_check_person_rule rfl fun cdv A outer s H E hr => by
    have sc := sc_check_person_rule
    exact (dss_cons (ds_if (dw_t (dw_or (dt_not (dt_truth (de_isi2 (t1 := .list) (t2 := .tuple) (pe_callB (call_isiD2 G.O .list .tuple) rfl G.b_isinstance (by decide +kernel) (pa_cons (de_var (pv 1)) (pa_cons (pe_tup (pa_cons (pe_bltn rfl G.b_list (by decide +kernel) rfl) (pa_cons (pe_bltn rfl G.b_tuple (by decide +kernel) rfl) pa_nil))) pa_nil)))) fun _ => rfl)) (dw_or1 (dt_cmp opd_ne (de_callP (pe_callB (cd_len) rfl G.b_len (by decide +kernel) (da_cons (de_var (pv 1)) da_nil))) de_int (nomark _))))) (dss_one ds_nev) dss_nil)
  (dss_cons (ds_asg (de_var (pv 1)) (dg_tup (pg_tup rfl (dgs_cons (dg_name (i := 2) (pg_name (i := 2) sc.nd rfl (by first | exact Or.inl rfl | exact Or.inr rfl))) (dgs_cons (dg_name (i := 3) (pg_name (i := 3) sc.nd rfl (by first | exact Or.inl rfl | exact Or.inr rfl))) (dgs_cons (dg_name (i := 4) (pg_name (i := 4) sc.nd rfl (by first | exact Or.inl rfl | exact Or.inr rfl))) (dgs_cons (dg_name (i := 5) (pg_name (i := 5) sc.nd rfl (by first | exact Or.inl rfl | exact Or.inr rfl))) dgs_nil)))))))
  (dss_cons (ds_if (dt_cmp opd_notin (de_var (pv 2)) (de_gl G.c_PERSON_SORTS rfl) (by with_unfolding_all rfl)) (dss_one ds_nev) dss_nil)
  (dss_cons (ds_if (dw_t (dw_or (dt_not (dt_truth (de_call h_is_answer (hr.mono (lv_check_person_rule_is_answer)) rfl (len_cons len_nil) (da_cons (de_var (pv 3)) da_nil)) fun _ => rfl)) (dw_or1 (dt_not (dt_truth (de_call h_is_answer (hr.mono (lv_check_person_rule_is_answer)) rfl (len_cons len_nil) (da_cons (de_var (pv 4)) da_nil)) fun _ => rfl))))) (dss_one ds_nev) dss_nil)
  (dss_one (ds_if (dt_cmp opd_notin (de_var (pv 5)) (de_gl G.c_PERSON_ACTIONS rfl) (by with_unfolding_all rfl)) (dss_one ds_nev) dss_nil))))))
end T
namespace T
open PySem PySem.Spec PyProof.Rows L2 Dm
/-! check_place_rule -/
abbrev s_check_place_rule : Stmt := topS 33
abbrev N_check_place_rule : List Str := ["index", "rule", "sort", "here", "action"]
abbrev P_check_place_rule : List Str := ["index", "rule"]
theorem sc_check_place_rule : FnScope N_check_place_rule P_check_place_rule (defScope s_check_place_rule) := ⟨rfl, rfl, rfl, by decide +kernel, rfl, by decide +kernel, by decide +kernel⟩
def b_check_place_rule : SS := (seqS (iffS (orT (notT (trS (isiS2 .list .tuple (vaS 1)))) (bS (bin2 neQ (callQ lenQ (consA (vaS 1) nilA)) (cS (.int 3))))) nevSS nxS)
  (seqS (asgS (vaS 1) (tupG 3 (consG (nmG 2) (consG (nmG 3) (consG (nmG 4) nilG)))))
  (seqS (iffS (bS (bin2 ninQ (vaS 2) (cS c_PLACE_SORTS))) nevSS nxS)
  (seqS (iffS (notT (trS (callF F_is_answer (consA (vaS 3) nilA)))) nevSS nxS)
  (iffS (bS (bin2 ninQ (vaS 4) (cS c_PLACE_ACTIONS))) nevSS nxS)))))
def F_check_place_rule : FnD := defD 5 b_check_place_rule
theorem lv_check_place_rule_is_answer : 1 ≤ 1 := by decide
theorem ok_check_place_rule {P : Program} {w : World} {K : PySem.W.Frag} {mg : Str → Option Value} {base : Heap} (G : Gd P w K mg) (h_is_answer : HasFn P w K mg base 1 "is_answer" 1 F_is_answer) {f : Addr} {fd : FuncData}
    (F : FunD K "check_place_rule" "check_place_rule" (defArgs s_check_place_rule) (defBody s_check_place_rule) (defScope s_check_place_rule) [] [] f fd) : FnOk P w K mg base CX0 2 f fd P_check_place_rule (spD ⟨P, w, K⟩ 2 F_check_place_rule) :=
  d_fn F sc_check_place_rule rfl fun cdv A outer s H E hr => by
    have sc := sc_check_place_rule
    exact (dss_cons (ds_if (dw_t (dw_or (dt_not (dt_truth (de_isi2 (t1 := .list) (t2 := .tuple) (pe_callB (call_isiD2 G.O .list .tuple) rfl G.b_isinstance (by decide +kernel) (pa_cons (de_var (pv 1)) (pa_cons (pe_tup (pa_cons (pe_bltn rfl G.b_list (by decide +kernel) rfl) (pa_cons (pe_bltn rfl G.b_tuple (by decide +kernel) rfl) pa_nil))) pa_nil)))) fun _ => rfl)) (dw_or1 (dt_cmp opd_ne (de_callP (pe_callB (cd_len) rfl G.b_len (by decide +kernel) (da_cons (de_var (pv 1)) da_nil))) de_int (nomark _))))) (dss_one ds_nev) dss_nil)
  (dss_cons (ds_asg (de_var (pv 1)) (dg_tup (pg_tup rfl (dgs_cons (dg_name (i := 2) (pg_name (i := 2) sc.nd rfl (by first | exact Or.inl rfl | exact Or.inr rfl))) (dgs_cons (dg_name (i := 3) (pg_name (i := 3) sc.nd rfl (by first | exact Or.inl rfl | exact Or.inr rfl))) (dgs_cons (dg_name (i := 4) (pg_name (i := 4) sc.nd rfl (by first | exact Or.inl rfl | exact Or.inr rfl))) dgs_nil))))))
  (dss_cons (ds_if (dt_cmp opd_notin (de_var (pv 2)) (de_gl G.c_PLACE_SORTS rfl) (by with_unfolding_all rfl)) (dss_one ds_nev) dss_nil)
  (dss_cons (ds_if (dt_not (dt_truth (de_call h_is_answer (hr.mono (lv_check_place_rule_is_answer)) rfl (len_cons len_nil) (da_cons (de_var (pv 3)) da_nil)) fun _ => rfl)) (dss_one ds_nev) dss_nil)
  (dss_one (ds_if (dt_cmp opd_notin (de_var (pv 4)) (de_gl G.c_PLACE_ACTIONS rfl) (by with_unfolding_all rfl)) (dss_one ds_nev) dss_nil))))))
end T
namespace T
open PySem PySem.Spec PyProof.Rows L2 Dm
/-! Book.__init__ -/
abbrev s_Book_init : Stmt := clsS (topS 34) 0
abbrev N_Book_init : List Str := ["self", "days", "persons", "places", "index", "rules", "rule"]
abbrev P_Book_init : List Str := ["self", "days", "persons", "places"]
theorem sc_Book_init : FnScope N_Book_init P_Book_init (defScope s_Book_init) := ⟨rfl, rfl, rfl, by decide +kernel, rfl, by decide +kernel, by decide +kernel⟩
def b_Book_init : SS := (seqS (forS (itES (consA (lstS (consA (vaS 1) (consA (vaS 2) (consA (vaS 3) nilA)))) nilA)) (tupG 2 (consG (nmG 4) (consG (nmG 5) nilG))) (iffS (orT (notT (trS (isiS2 .list .tuple (vaS 5)))) (bS (bin2 gtQ (callQ lenQ (consA (vaS 5) nilA)) (bin2 ixQ (cS c_MOST_RULES) (vaS 4))))) nevSS nxS))
  (seqS (forS (itES (consA (vaS 1) nilA)) (tupG 2 (consG (nmG 4) (consG (nmG 6) nilG))) (dropS (callF F_check_day_rule (consA (vaS 4) (consA (vaS 6) nilA)))))
  (seqS (forS (itES (consA (vaS 2) nilA)) (tupG 2 (consG (nmG 4) (consG (nmG 6) nilG))) (dropS (callF F_check_person_rule (consA (bin2 addQ (callQ lenQ (consA (vaS 1) nilA)) (vaS 4)) (consA (vaS 6) nilA)))))
  (seqS (forS (itES (consA (vaS 3) nilA)) (tupG 2 (consG (nmG 4) (consG (nmG 6) nilG))) (dropS (callF F_check_place_rule (consA (bin2 addQ (bin2 addQ (callQ lenQ (consA (vaS 1) nilA)) (callQ lenQ (consA (vaS 2) nilA))) (vaS 4)) (consA (vaS 6) nilA)))))
  (seqS (atrS "days" (vaS 0) (callQ tupQ (consA (lcS [6] (itLS (vaS 1)) (nmG 6) yesT (callQ tupQ (consA (vaS 6) nilA))) nilA)))
  (seqS (atrS "persons" (vaS 0) (callQ tupQ (consA (lcS [6] (itTS (vaS 2)) (nmG 6) yesT (callQ tupQ (consA (vaS 6) nilA))) nilA)))
  (seqS (atrS "places" (vaS 0) (callQ tupQ (consA (lcS [6] (itLS (vaS 3)) (nmG 6) yesT (callQ tupQ (consA (vaS 6) nilA))) nilA)))
  (atrS "rules" (vaS 0) (bin2 addQ (bin2 addQ (fldS "days" (vaS 0)) (fldS "persons" (vaS 0))) (fldS "places" (vaS 0)))))))))))
def F_Book_init : FnD := defD 7 b_Book_init
theorem lv_Book_init_check_day_rule : 3 ≤ 3 := by decide
theorem lv_Book_init_check_person_rule : 2 ≤ 3 := by decide
theorem lv_Book_init_check_place_rule : 2 ≤ 3 := by decide
theorem ok_Book_init {P : Program} {w : World} {K : PySem.W.Frag} {mg : Str → Option Value} {base : Heap} (G : Gd P w K mg) (h_check_day_rule : HasFn P w K mg base 3 "check_day_rule" 2 F_check_day_rule) (h_check_person_rule : HasFn P w K mg base 2 "check_person_rule" 2 F_check_person_rule) (h_check_place_rule : HasFn P w K mg base 2 "check_place_rule" 2 F_check_place_rule) {f : Addr} {fd : FuncData}
    (F : FunD K "__init__" "Book.__init__" (defArgs s_Book_init) (defBody s_Book_init) (defScope s_Book_init) [] [] f fd) : FnOk P w K mg base CX0 4 f fd P_Book_init (spD ⟨P, w, K⟩ 4 F_Book_init) :=
  d_fn F sc_Book_init rfl fun cdv A outer s H E hr => by
    have sc := sc_Book_init
    exact (dss_cons (ds_for PassesOwn.never rfl (di_enum (pi_enumA rfl G.b_enumerate (da_cons (de_lst (da_cons (de_var (pv 1)) (da_cons (de_var (pv 2)) (da_cons (de_var (pv 3)) da_nil)))) da_nil))) (dg_tup (pg_tup rfl (dgs_cons (dg_name (i := 4) (pg_name (i := 4) sc.nd rfl (by first | exact Or.inl rfl | exact Or.inr rfl))) (dgs_cons (dg_name (i := 5) (pg_name (i := 5) sc.nd rfl (by first | exact Or.inl rfl | exact Or.inr rfl))) dgs_nil)))) (dss_one (ds_if (dw_t (dw_or (dt_not (dt_truth (de_isi2 (t1 := .list) (t2 := .tuple) (pe_callB (call_isiD2 G.O .list .tuple) rfl G.b_isinstance (by decide +kernel) (pa_cons (de_var (pv 5)) (pa_cons (pe_tup (pa_cons (pe_bltn rfl G.b_list (by decide +kernel) rfl) (pa_cons (pe_bltn rfl G.b_tuple (by decide +kernel) rfl) pa_nil))) pa_nil)))) fun _ => rfl)) (dw_or1 (dt_cmp opd_gt (de_callP (pe_callB (cd_len) rfl G.b_len (by decide +kernel) (da_cons (de_var (pv 5)) da_nil))) (de_ix (de_gl G.c_MOST_RULES rfl) (de_var (pv 4)) fun _ _ => rfl) (nomark _))))) (dss_one ds_nev) dss_nil)))
  (dss_cons (ds_for PassesOwn.never rfl (di_enum (pi_enumA rfl G.b_enumerate (da_cons (de_var (pv 1)) da_nil))) (dg_tup (pg_tup rfl (dgs_cons (dg_name (i := 4) (pg_name (i := 4) sc.nd rfl (by first | exact Or.inl rfl | exact Or.inr rfl))) (dgs_cons (dg_name (i := 6) (pg_name (i := 6) sc.nd rfl (by first | exact Or.inl rfl | exact Or.inr rfl))) dgs_nil)))) (dss_one (ds_expr (de_call h_check_day_rule (hr.mono (lv_Book_init_check_day_rule)) rfl (len_cons (len_cons len_nil)) (da_cons (de_var (pv 4)) (da_cons (de_var (pv 6)) da_nil))))))
  (dss_cons (ds_for PassesOwn.never rfl (di_enum (pi_enumA rfl G.b_enumerate (da_cons (de_var (pv 2)) da_nil))) (dg_tup (pg_tup rfl (dgs_cons (dg_name (i := 4) (pg_name (i := 4) sc.nd rfl (by first | exact Or.inl rfl | exact Or.inr rfl))) (dgs_cons (dg_name (i := 6) (pg_name (i := 6) sc.nd rfl (by first | exact Or.inl rfl | exact Or.inr rfl))) dgs_nil)))) (dss_one (ds_expr (de_call h_check_person_rule (hr.mono (lv_Book_init_check_person_rule)) rfl (len_cons (len_cons len_nil)) (da_cons (de_op opd_add (de_callP (pe_callB (cd_len) rfl G.b_len (by decide +kernel) (da_cons (de_var (pv 1)) da_nil))) (de_var (pv 4))) (da_cons (de_var (pv 6)) da_nil))))))
  (dss_cons (ds_for PassesOwn.never rfl (di_enum (pi_enumA rfl G.b_enumerate (da_cons (de_var (pv 3)) da_nil))) (dg_tup (pg_tup rfl (dgs_cons (dg_name (i := 4) (pg_name (i := 4) sc.nd rfl (by first | exact Or.inl rfl | exact Or.inr rfl))) (dgs_cons (dg_name (i := 6) (pg_name (i := 6) sc.nd rfl (by first | exact Or.inl rfl | exact Or.inr rfl))) dgs_nil)))) (dss_one (ds_expr (de_call h_check_place_rule (hr.mono (lv_Book_init_check_place_rule)) rfl (len_cons (len_cons len_nil)) (da_cons (de_op opd_add (de_op opd_add (de_callP (pe_callB (cd_len) rfl G.b_len (by decide +kernel) (da_cons (de_var (pv 1)) da_nil))) (de_callP (pe_callB (cd_len) rfl G.b_len (by decide +kernel) (da_cons (de_var (pv 2)) da_nil)))) (de_var (pv 4))) (da_cons (de_var (pv 6)) da_nil))))))
  (dss_cons (ds_atr G.O (ps_fld (de_var (pv 0)) (de_callP (pe_callTy cd_tuple rfl G.b_tuple (by decide +kernel) (da_cons (de_lc (tgt_name (by decide)) (pe_lc rfl sc.nd (di_list (de_var (pv 1))) (own := [("rule", 6)]) (BlkOk.mk (N := N_Book_init) (sc := defScope s_Book_init) rfl (by decide +kernel) (by decide +kernel) (by decide +kernel) (by decide +kernel)) (fun s H C cl fp => (pg_name (i := 6) sc.nd rfl (by first | exact Or.inl rfl | exact Or.inr rfl))) (fun s H C cl fp => dts_nil) (fun s H C cl fp => (de_callP (pe_callTy cd_tuple rfl G.b_tuple (by decide +kernel) (da_cons (de_var (pv 6)) da_nil)))))) da_nil))) rfl))
  (dss_cons (ds_atr G.O (ps_fld (de_var (pv 0)) (de_callP (pe_callTy cd_tuple rfl G.b_tuple (by decide +kernel) (da_cons (de_lc (tgt_name (by decide)) (pe_lc rfl sc.nd (di_tup (de_var (pv 2))) (own := [("rule", 6)]) (BlkOk.mk (N := N_Book_init) (sc := defScope s_Book_init) rfl (by decide +kernel) (by decide +kernel) (by decide +kernel) (by decide +kernel)) (fun s H C cl fp => (pg_name (i := 6) sc.nd rfl (by first | exact Or.inl rfl | exact Or.inr rfl))) (fun s H C cl fp => dts_nil) (fun s H C cl fp => (de_callP (pe_callTy cd_tuple rfl G.b_tuple (by decide +kernel) (da_cons (de_var (pv 6)) da_nil)))))) da_nil))) rfl))
  (dss_cons (ds_atr G.O (ps_fld (de_var (pv 0)) (de_callP (pe_callTy cd_tuple rfl G.b_tuple (by decide +kernel) (da_cons (de_lc (tgt_name (by decide)) (pe_lc rfl sc.nd (di_list (de_var (pv 3))) (own := [("rule", 6)]) (BlkOk.mk (N := N_Book_init) (sc := defScope s_Book_init) rfl (by decide +kernel) (by decide +kernel) (by decide +kernel) (by decide +kernel)) (fun s H C cl fp => (pg_name (i := 6) sc.nd rfl (by first | exact Or.inl rfl | exact Or.inr rfl))) (fun s H C cl fp => dts_nil) (fun s H C cl fp => (de_callP (pe_callTy cd_tuple rfl G.b_tuple (by decide +kernel) (da_cons (de_var (pv 6)) da_nil)))))) da_nil))) rfl))
  (dss_one (ds_atr G.O (ps_fld (de_var (pv 0)) (de_op opd_add (de_op opd_add (de_fld G.O (de_var (pv 0)) rfl) (de_fld G.O (de_var (pv 0)) rfl)) (de_fld G.O (de_var (pv 0)) rfl)) rfl))))))))))
end T
namespace T
open PySem PySem.Spec PyProof.Rows L2 Dm
/-! check_chain_word -/
abbrev s_check_chain_word : Stmt := topS 35
abbrev N_check_chain_word : List Str := ["word", "kind"]
abbrev P_check_chain_word : List Str := ["word"]
theorem sc_check_chain_word : FnScope N_check_chain_word P_check_chain_word (defScope s_check_chain_word) := ⟨rfl, rfl, rfl, by decide +kernel, rfl, by decide +kernel, by decide +kernel⟩
def b_check_chain_word : SS := (seqS (setS 1 (callF F_find_kind (consA (vaS 0) nilA)))
  (seqS (iffS (orT (bS (bin2 isNQ (vaS 1) (cS .non))) (bS (bin2 ninQ (bin2 ixQ (vaS 0) (cS (.int 0))) (bin2 addQ (bin2 addQ (cS c_DAY_SORTS) (cS c_PERSON_SORTS)) (cS c_PLACE_SORTS))))) nevSS nxS)
  (retS (vaS 1))))
def F_check_chain_word : FnD := defD 2 b_check_chain_word
theorem lv_check_chain_word_find_kind : 2 ≤ 2 := by decide
theorem ok_check_chain_word {P : Program} {w : World} {K : PySem.W.Frag} {mg : Str → Option Value} {base : Heap} (G : Gd P w K mg) (h_find_kind : HasFn P w K mg base 2 "find_kind" 1 F_find_kind) {f : Addr} {fd : FuncData}
    (F : FunD K "check_chain_word" "check_chain_word" (defArgs s_check_chain_word) (defBody s_check_chain_word) (defScope s_check_chain_word) [] [] f fd) : FnOk P w K mg base CX0 3 f fd P_check_chain_word (spD ⟨P, w, K⟩ 1 F_check_chain_word) :=
  d_fn F sc_check_chain_word rfl fun cdv A outer s H E hr => by
    have sc := sc_check_chain_word
    exact (dss_cons (ds_set (ps_set (i := 1) sc.nd rfl (by first | exact Or.inl rfl | exact Or.inr rfl) (de_call h_find_kind (hr.mono (lv_check_chain_word_find_kind)) rfl (len_cons len_nil) (da_cons (de_var (pv 0)) da_nil))))
  (dss_cons (ds_if (dw_t (dw_or (dt_cmp opd_is (de_var (pv 1)) de_non (nomark _)) (dw_or1 (dt_cmp opd_notin (de_ix (de_var (pv 0)) de_int fun _ _ => rfl) (de_op opd_add (de_op opd_add (de_gl G.c_DAY_SORTS rfl) (de_gl G.c_PERSON_SORTS rfl)) (de_gl G.c_PLACE_SORTS rfl)) (by with_unfolding_all rfl))))) (dss_one ds_nev) dss_nil)
  (dss_one (ds_ret (de_var (pv 1))))))
end T
namespace T
open PySem PySem.Spec PyProof.Rows L2 Dm
/-! meant_at -/
abbrev s_meant_at : Stmt := topS 36
abbrev N_meant_at : List Str := ["word", "spot", "head"]
abbrev P_meant_at : List Str := ["word", "spot"]
theorem sc_meant_at : FnScope N_meant_at P_meant_at (defScope s_meant_at) := ⟨rfl, rfl, rfl, by decide +kernel, rfl, by decide +kernel, by decide +kernel⟩
def b_meant_at : SS := (seqS (setS 2 (bin2 ixQ (vaS 0) (cS (.int 0))))
  (seqS (iffS (bS (bin2 eqQ (vaS 2) (cS (.str "I")))) (retS (bin2 ixQ (vaS 1) (cS (.int 0)))) nxS)
  (seqS (iffS (bS (bin2 eqQ (vaS 2) (cS (.str "you")))) (retS (bin2 ixQ (vaS 1) (cS (.int 1)))) nxS)
  (seqS (iffS (bS (bin2 eqQ (vaS 2) (cS (.str "here")))) (retS (bin2 ixQ (vaS 1) (cS (.int 3)))) nxS)
  (seqS (iffS (bS (bin2 eqQ (vaS 2) (cS (.str "today")))) nevSS nxS)
  (seqS (iffS (bS (bin2 eqQ (vaS 2) (cS (.str "coming")))) nevSS nxS)
  (seqS (iffS (bS (bin2 eqQ (vaS 2) (cS (.str "last")))) nevSS nxS)
  (retS (bin2 ixQ (vaS 0) (cS (.int 1)))))))))))
def F_meant_at : FnD := defD 3 b_meant_at
theorem ok_meant_at {P : Program} {w : World} {K : PySem.W.Frag} {mg : Str → Option Value} {base : Heap} (G : Gd P w K mg)  {f : Addr} {fd : FuncData}
    (F : FunD K "meant_at" "meant_at" (defArgs s_meant_at) (defBody s_meant_at) (defScope s_meant_at) [] [] f fd) : FnOk P w K mg base CX0 1 f fd P_meant_at (spD ⟨P, w, K⟩ 2 F_meant_at) :=
  d_fn F sc_meant_at rfl fun cdv A outer s H E hr => by
    have sc := sc_meant_at
    exact (dss_cons (ds_set (ps_set (i := 2) sc.nd rfl (by first | exact Or.inl rfl | exact Or.inr rfl) (de_ix (de_var (pv 0)) de_int fun _ _ => rfl)))
  (dss_cons (ds_if (dt_cmp opd_eq (de_var (pv 2)) de_str (nomark _)) (dss_one (ds_ret (de_ix (de_var (pv 1)) de_int fun _ _ => rfl))) dss_nil)
  (dss_cons (ds_if (dt_cmp opd_eq (de_var (pv 2)) de_str (nomark _)) (dss_one (ds_ret (de_ix (de_var (pv 1)) de_int fun _ _ => rfl))) dss_nil)
  (dss_cons (ds_if (dt_cmp opd_eq (de_var (pv 2)) de_str (nomark _)) (dss_one (ds_ret (de_ix (de_var (pv 1)) de_int fun _ _ => rfl))) dss_nil)
  (dss_cons (ds_if (dt_cmp opd_eq (de_var (pv 2)) de_str (nomark _)) dss_nev dss_nil)
  (dss_cons (ds_if (dt_cmp opd_eq (de_var (pv 2)) de_str (nomark _)) dss_nev dss_nil)
  (dss_cons (ds_if (dt_cmp opd_eq (de_var (pv 2)) de_str (nomark _)) dss_nev dss_nil)
  (dss_one (ds_ret (de_ix (de_var (pv 0)) de_int fun _ _ => rfl))))))))))
end T
namespace T
open PySem PySem.Spec PyProof.Rows L2 Dm
/-! spot_after -/
abbrev s_spot_after : Stmt := topS 37
abbrev N_spot_after : List Str := ["spot", "move"]
abbrev P_spot_after : List Str := ["spot", "move"]
theorem sc_spot_after : FnScope N_spot_after P_spot_after (defScope s_spot_after) := ⟨rfl, rfl, rfl, by decide +kernel, rfl, by decide +kernel, by decide +kernel⟩
def b_spot_after : SS := (retS (tupS (consA (bin2 ixQ (vaS 0) (cS (.int 1))) (consA (bin2 ixQ (vaS 1) (cS (.int 1))) (consA (bin2 addQ (bin2 ixQ (vaS 0) (cS (.int 2))) (bin2 ixQ (vaS 1) (cS (.int 0)))) (consA (bin2 ixQ (vaS 1) (cS (.int 2))) nilA))))))
def F_spot_after : FnD := defD 2 b_spot_after
theorem ok_spot_after {P : Program} {w : World} {K : PySem.W.Frag} {mg : Str → Option Value} {base : Heap} (G : Gd P w K mg)  {f : Addr} {fd : FuncData}
    (F : FunD K "spot_after" "spot_after" (defArgs s_spot_after) (defBody s_spot_after) (defScope s_spot_after) [] [] f fd) : FnOk P w K mg base CX0 1 f fd P_spot_after (spD ⟨P, w, K⟩ 2 F_spot_after) :=
  d_fn F sc_spot_after rfl fun cdv A outer s H E hr => by
    have sc := sc_spot_after
    exact (dss_one (ds_ret (de_tup (da_cons (de_ix (de_var (pv 0)) de_int fun _ _ => rfl) (da_cons (de_ix (de_var (pv 1)) de_int fun _ _ => rfl) (da_cons (de_op opd_add (de_ix (de_var (pv 0)) de_int fun _ _ => rfl) (de_ix (de_var (pv 1)) de_int fun _ _ => rfl)) (da_cons (de_ix (de_var (pv 1)) de_int fun _ _ => rfl) da_nil)))))))
end T
namespace T
open PySem PySem.Spec PyProof.Rows L2 Dm
/-! find_rule -/
abbrev s_find_rule : Stmt := topS 39
abbrev N_find_rule : List Str := ["book", "word", "spot", "move", "meant", "first", "number", "sort", "mine", "yours", "_", "fits", "here"]
abbrev P_find_rule : List Str := ["book", "word", "spot", "move"]
theorem sc_find_rule : FnScope N_find_rule P_find_rule (defScope s_find_rule) := ⟨rfl, rfl, rfl, by decide +kernel, rfl, by decide +kernel, by decide +kernel⟩
def b_find_rule : SS := (seqS (setS 4 (callF F_meant_at (consA (vaS 1) (consA (vaS 2) nilA))))
  (seqS (iffS (bS (bin2 inQ (bin2 ixQ (vaS 1) (cS (.int 0))) (cS c_DAY_SORTS))) nevSS nxS)
  (seqS (setS 5 (callQ lenQ (consA (fldS "days" (vaS 0)) nilA)))
  (seqS (iffS (bS (bin2 inQ (bin2 ixQ (vaS 1) (cS (.int 0))) (cS c_PERSON_SORTS))) (seqS (forS (itES (consA (fldS "persons" (vaS 0)) nilA)) (tupG 2 (consG (nmG 6) (consG (tupG 4 (consG (nmG 7) (consG (nmG 8) (consG (nmG 9) (consG (nmG 10) nilG))))) nilG))) (seqS (setS 11 (andV (bin2 eqQ (vaS 7) (bin2 ixQ (vaS 1) (cS (.int 0)))) (andV (bin2 inQ (vaS 8) (tupS (consA (cS .non) (consA (bin2 eqQ (vaS 4) (bin2 ixQ (vaS 2) (cS (.int 1)))) nilA)))) (bin2 inQ (vaS 9) (tupS (consA (cS .non) (consA (bin2 eqQ (vaS 4) (bin2 ixQ (vaS 3) (cS (.int 1)))) nilA)))))))
  (iffS (trS (vaS 11)) (retS (bin2 addQ (vaS 5) (vaS 6))) nxS)))
  (retS (cS .non))) nxS)
  (seqS (forS (itES (consA (fldS "places" (vaS 0)) nilA)) (tupG 2 (consG (nmG 6) (consG (tupG 3 (consG (nmG 7) (consG (nmG 12) (consG (nmG 10) nilG)))) nilG))) (iffS (andT (bS (bin2 eqQ (vaS 7) (bin2 ixQ (vaS 1) (cS (.int 0))))) (bS (bin2 inQ (vaS 12) (tupS (consA (cS .non) (consA (bin2 eqQ (vaS 4) (bin2 ixQ (vaS 3) (cS (.int 2)))) nilA)))))) (retS (bin2 addQ (bin2 addQ (vaS 5) (callQ lenQ (consA (fldS "persons" (vaS 0)) nilA))) (vaS 6))) nxS))
  (retS (cS .non)))))))
def F_find_rule : FnD := defD 13 b_find_rule
theorem lv_find_rule_meant_at : 1 ≤ 1 := by decide
theorem ok_find_rule {P : Program} {w : World} {K : PySem.W.Frag} {mg : Str → Option Value} {base : Heap} (G : Gd P w K mg) (h_meant_at : HasFn P w K mg base 1 "meant_at" 2 F_meant_at) {f : Addr} {fd : FuncData}
    (F : FunD K "find_rule" "find_rule" (defArgs s_find_rule) (defBody s_find_rule) (defScope s_find_rule) [] [] f fd) : FnOk P w K mg base CX0 2 f fd P_find_rule (spD ⟨P, w, K⟩ 4 F_find_rule) :=
  d_fn F sc_find_rule rfl fun cdv A outer s H E hr => by
    have sc := sc_find_rule
    exact (dss_cons (ds_set (ps_set (i := 4) sc.nd rfl (by first | exact Or.inl rfl | exact Or.inr rfl) (de_call h_meant_at (hr.mono (lv_find_rule_meant_at)) rfl (len_cons (len_cons len_nil)) (da_cons (de_var (pv 1)) (da_cons (de_var (pv 2)) da_nil)))))
  (dss_cons (ds_if (dt_cmp opd_in (de_ix (de_var (pv 1)) de_int fun _ _ => rfl) (de_gl G.c_DAY_SORTS rfl) (by with_unfolding_all rfl)) dss_nev dss_nil)
  (dss_cons (ds_set (ps_set (i := 5) sc.nd rfl (by first | exact Or.inl rfl | exact Or.inr rfl) (de_callP (pe_callB (cd_len) rfl G.b_len (by decide +kernel) (da_cons (de_fld G.O (de_var (pv 0)) rfl) da_nil)))))
  (dss_cons (ds_if (dt_cmp opd_in (de_ix (de_var (pv 1)) de_int fun _ _ => rfl) (de_gl G.c_PERSON_SORTS rfl) (by with_unfolding_all rfl)) (dss_cons (ds_for PassesOwn.never rfl (di_enum (pi_enumA rfl G.b_enumerate (da_cons (de_fld G.O (de_var (pv 0)) rfl) da_nil))) (dg_tup (pg_tup rfl (dgs_cons (dg_name (i := 6) (pg_name (i := 6) sc.nd rfl (by first | exact Or.inl rfl | exact Or.inr rfl))) (dgs_cons (dg_tup (pg_tup rfl (dgs_cons (dg_name (i := 7) (pg_name (i := 7) sc.nd rfl (by first | exact Or.inl rfl | exact Or.inr rfl))) (dgs_cons (dg_name (i := 8) (pg_name (i := 8) sc.nd rfl (by first | exact Or.inl rfl | exact Or.inr rfl))) (dgs_cons (dg_name (i := 9) (pg_name (i := 9) sc.nd rfl (by first | exact Or.inl rfl | exact Or.inr rfl))) (dgs_cons (dg_name (i := 10) (pg_name (i := 10) sc.nd rfl (by first | exact Or.inl rfl | exact Or.inr rfl))) dgs_nil)))))) dgs_nil)))) (dss_cons (ds_set (ps_set (i := 11) sc.nd rfl (by first | exact Or.inl rfl | exact Or.inr rfl) (de_and (de_cmp opd_eq (de_var (pv 7)) (de_ix (de_var (pv 1)) de_int fun _ _ => rfl) (nomark _)) (de_and (de_cmp opd_in (de_var (pv 8)) (de_tup (da_cons de_non (da_cons (de_cmp opd_eq (de_var (pv 4)) (de_ix (de_var (pv 2)) de_int fun _ _ => rfl) (nomark _)) da_nil))) (by with_unfolding_all rfl)) (de_one (de_cmp opd_in (de_var (pv 9)) (de_tup (da_cons de_non (da_cons (de_cmp opd_eq (de_var (pv 4)) (de_ix (de_var (pv 3)) de_int fun _ _ => rfl) (nomark _)) da_nil))) (by with_unfolding_all rfl)))))))
  (dss_one (ds_if (dt_truth (de_var (pv 11)) fun _ => rfl) (dss_one (ds_ret (de_op opd_add (de_var (pv 5)) (de_var (pv 6))))) dss_nil))))
  (dss_one (ds_ret de_non))) dss_nil)
  (dss_cons (ds_for PassesOwn.never rfl (di_enum (pi_enumA rfl G.b_enumerate (da_cons (de_fld G.O (de_var (pv 0)) rfl) da_nil))) (dg_tup (pg_tup rfl (dgs_cons (dg_name (i := 6) (pg_name (i := 6) sc.nd rfl (by first | exact Or.inl rfl | exact Or.inr rfl))) (dgs_cons (dg_tup (pg_tup rfl (dgs_cons (dg_name (i := 7) (pg_name (i := 7) sc.nd rfl (by first | exact Or.inl rfl | exact Or.inr rfl))) (dgs_cons (dg_name (i := 12) (pg_name (i := 12) sc.nd rfl (by first | exact Or.inl rfl | exact Or.inr rfl))) (dgs_cons (dg_name (i := 10) (pg_name (i := 10) sc.nd rfl (by first | exact Or.inl rfl | exact Or.inr rfl))) dgs_nil))))) dgs_nil)))) (dss_one (ds_if (dw_t (dw_and (dt_cmp opd_eq (de_var (pv 7)) (de_ix (de_var (pv 1)) de_int fun _ _ => rfl) (nomark _)) (dw_and1 (dt_cmp opd_in (de_var (pv 12)) (de_tup (da_cons de_non (da_cons (de_cmp opd_eq (de_var (pv 4)) (de_ix (de_var (pv 3)) de_int fun _ _ => rfl) (nomark _)) da_nil))) (by with_unfolding_all rfl))))) (dss_one (ds_ret (de_op opd_add (de_op opd_add (de_var (pv 5)) (de_callP (pe_callB (cd_len) rfl G.b_len (by decide +kernel) (da_cons (de_fld G.O (de_var (pv 0)) rfl) da_nil)))) (de_var (pv 6))))) dss_nil)))
  (dss_one (ds_ret de_non)))))))
end T
namespace T
open PySem PySem.Spec PyProof.Rows L2 Dm
/-! write_word -/
abbrev s_write_word : Stmt := topS 41
abbrev N_write_word : List Str := ["book", "word", "spot", "move", "number", "action", "meant"]
abbrev P_write_word : List Str := ["book", "word", "spot", "move"]
theorem sc_write_word : FnScope N_write_word P_write_word (defScope s_write_word) := ⟨rfl, rfl, rfl, by decide +kernel, rfl, by decide +kernel, by decide +kernel⟩
def b_write_word : SS := (seqS (setS 4 (callF F_find_rule (consA (vaS 0) (consA (vaS 1) (consA (vaS 2) (consA (vaS 3) nilA))))))
  (seqS (setS 5 (ifS (bS (bin2 isNQ (vaS 4) (cS .non))) (cS .non) (bin2 ixQ (bin2 ixQ (fldS "rules" (vaS 0)) (vaS 4)) (negS (cS (.int 1))))))
  (seqS (setS 6 (callF F_meant_at (consA (vaS 1) (consA (vaS 2) nilA))))
  (seqS (iffS (bS (bin2 inQ (bin2 ixQ (vaS 1) (cS (.int 0))) (cS c_DAY_SORTS))) nevSS nxS)
  (seqS (iffS (bS (bin2 eqQ (vaS 5) (cS (.str "keep")))) (retS (tupS (consA (vaS 4) (consA (vaS 1) nilA)))) nxS)
  (seqS (iffS (bS (bin2 inQ (vaS 5) (tupS (consA (cS (.str "I")) (consA (cS (.str "you")) (consA (cS (.str "here")) nilA)))))) (retS (tupS (consA (vaS 4) (consA (tupS (consA (vaS 5) nilA)) nilA)))) nxS)
  (retS (tupS (consA (vaS 4) (consA (tupS (consA (ifS (bS (bin2 inQ (bin2 ixQ (vaS 1) (cS (.int 0))) (cS c_PERSON_SORTS))) (cS (.str "name")) (cS (.str "place"))) (consA (vaS 6) nilA))) nilA))))))))))
def F_write_word : FnD := defD 7 b_write_word
theorem lv_write_word_find_rule : 2 ≤ 2 := by decide
theorem lv_write_word_meant_at : 1 ≤ 2 := by decide
theorem ok_write_word {P : Program} {w : World} {K : PySem.W.Frag} {mg : Str → Option Value} {base : Heap} (G : Gd P w K mg) (h_find_rule : HasFn P w K mg base 2 "find_rule" 4 F_find_rule) (h_meant_at : HasFn P w K mg base 1 "meant_at" 2 F_meant_at) {f : Addr} {fd : FuncData}
    (F : FunD K "write_word" "write_word" (defArgs s_write_word) (defBody s_write_word) (defScope s_write_word) [] [] f fd) : FnOk P w K mg base CX0 3 f fd P_write_word (spD ⟨P, w, K⟩ 4 F_write_word) :=
  d_fn F sc_write_word rfl fun cdv A outer s H E hr => by
    have sc := sc_write_word
    exact (dss_cons (ds_set (ps_set (i := 4) sc.nd rfl (by first | exact Or.inl rfl | exact Or.inr rfl) (de_call h_find_rule (hr.mono (lv_write_word_find_rule)) rfl (len_cons (len_cons (len_cons (len_cons len_nil)))) (da_cons (de_var (pv 0)) (da_cons (de_var (pv 1)) (da_cons (de_var (pv 2)) (da_cons (de_var (pv 3)) da_nil)))))))
  (dss_cons (ds_set (ps_set (i := 5) sc.nd rfl (by first | exact Or.inl rfl | exact Or.inr rfl) (de_if (dt_cmp opd_is (de_var (pv 4)) de_non (nomark _)) de_non (de_ix (de_ix (de_fld G.O (de_var (pv 0)) rfl) (de_var (pv 4)) fun _ _ => rfl) (de_neg de_int) fun _ _ => rfl))))
  (dss_cons (ds_set (ps_set (i := 6) sc.nd rfl (by first | exact Or.inl rfl | exact Or.inr rfl) (de_call h_meant_at (hr.mono (lv_write_word_meant_at)) rfl (len_cons (len_cons len_nil)) (da_cons (de_var (pv 1)) (da_cons (de_var (pv 2)) da_nil)))))
  (dss_cons (ds_if (dt_cmp opd_in (de_ix (de_var (pv 1)) de_int fun _ _ => rfl) (de_gl G.c_DAY_SORTS rfl) (by with_unfolding_all rfl)) dss_nev dss_nil)
  (dss_cons (ds_if (dt_cmp opd_eq (de_var (pv 5)) de_str (nomark _)) (dss_one (ds_ret (de_tup (da_cons (de_var (pv 4)) (da_cons (de_var (pv 1)) da_nil))))) dss_nil)
  (dss_cons (ds_if (dt_cmp opd_in (de_var (pv 5)) (de_tup (da_cons de_str (da_cons de_str (da_cons de_str da_nil)))) (by with_unfolding_all rfl)) (dss_one (ds_ret (de_tup (da_cons (de_var (pv 4)) (da_cons (de_tup (da_cons (de_var (pv 5)) da_nil)) da_nil))))) dss_nil)
  (dss_one (ds_ret (de_tup (da_cons (de_var (pv 4)) (da_cons (de_tup (da_cons (de_if (dt_cmp opd_in (de_ix (de_var (pv 1)) de_int fun _ _ => rfl) (de_gl G.c_PERSON_SORTS rfl) (by with_unfolding_all rfl)) de_str de_str) (da_cons (de_var (pv 6)) da_nil))) da_nil)))))))))))
end T
namespace T
open PySem PySem.Spec PyProof.Rows L2 Dm
/-! Closed.__init__ -/
abbrev s_Closed_init : Stmt := clsS (topS 45) 0
abbrev N_Closed_init : List Str := ["self", "rows"]
abbrev P_Closed_init : List Str := ["self", "rows"]
theorem sc_Closed_init : FnScope N_Closed_init P_Closed_init (defScope s_Closed_init) := ⟨rfl, rfl, rfl, by decide +kernel, rfl, by decide +kernel, by decide +kernel⟩
def b_Closed_init : SS := (atrS "rows" (vaS 0) (vaS 1))
def F_Closed_init : FnD := defD 2 b_Closed_init
theorem ok_Closed_init {P : Program} {w : World} {K : PySem.W.Frag} {mg : Str → Option Value} {base : Heap} (G : Gd P w K mg)  {f : Addr} {fd : FuncData}
    (F : FunD K "__init__" "Closed.__init__" (defArgs s_Closed_init) (defBody s_Closed_init) (defScope s_Closed_init) [] [] f fd) : FnOk P w K mg base CX0 1 f fd P_Closed_init (spD ⟨P, w, K⟩ 2 F_Closed_init) :=
  d_fn F sc_Closed_init rfl fun cdv A outer s H E hr => by
    have sc := sc_Closed_init
    exact (dss_one (ds_atr G.O (ps_fld (de_var (pv 0)) (de_var (pv 1)) rfl)))
end T
namespace T
open PySem PySem.Spec PyProof.Rows L2 Dm
/-! WrongChain.__init__ -/
abbrev s_WrongChain_init : Stmt := clsS (topS 46) 0
abbrev N_WrongChain_init : List Str := ["self", "situation", "steps"]
abbrev P_WrongChain_init : List Str := ["self", "situation", "steps"]
theorem sc_WrongChain_init : FnScope N_WrongChain_init P_WrongChain_init (defScope s_WrongChain_init) := ⟨rfl, rfl, rfl, by decide +kernel, rfl, by decide +kernel, by decide +kernel⟩
def b_WrongChain_init : SS := (seqS (atrS "situation" (vaS 0) (vaS 1))
  (atrS "steps" (vaS 0) (vaS 2)))
def F_WrongChain_init : FnD := defD 3 b_WrongChain_init
theorem ok_WrongChain_init {P : Program} {w : World} {K : PySem.W.Frag} {mg : Str → Option Value} {base : Heap} (G : Gd P w K mg)  {f : Addr} {fd : FuncData}
    (F : FunD K "__init__" "WrongChain.__init__" (defArgs s_WrongChain_init) (defBody s_WrongChain_init) (defScope s_WrongChain_init) [] [] f fd) : FnOk P w K mg base CX0 1 f fd P_WrongChain_init (spD ⟨P, w, K⟩ 3 F_WrongChain_init) :=
  d_fn F sc_WrongChain_init rfl fun cdv A outer s H E hr => by
    have sc := sc_WrongChain_init
    exact (dss_cons (ds_atr G.O (ps_fld (de_var (pv 0)) (de_var (pv 1)) rfl))
  (dss_one (ds_atr G.O (ps_fld (de_var (pv 0)) (de_var (pv 2)) rfl))))
end T
namespace T
open PySem PySem.Spec PyProof.Rows L2 Dm
/-! WrongChain.__eq__ -/
abbrev s_WrongChain_eq : Stmt := clsS (topS 46) 1
abbrev N_WrongChain_eq : List Str := ["self", "other"]
abbrev P_WrongChain_eq : List Str := ["self", "other"]
theorem sc_WrongChain_eq : FnScope N_WrongChain_eq P_WrongChain_eq (defScope s_WrongChain_eq) := ⟨rfl, rfl, rfl, by decide +kernel, rfl, by decide +kernel, by decide +kernel⟩
def b_WrongChain_eq : SS := (retS (andV (isiS (.own 4) (vaS 1)) (andV (eqIS 0 F_Situation_eq (fldS "situation" (vaS 0)) (fldS "situation" (vaS 1))) (bin2 eqTQ (fldS "steps" (vaS 0)) (fldS "steps" (vaS 1))))))
def F_WrongChain_eq : FnD := defD 2 b_WrongChain_eq
theorem lv_WrongChain_eq_Situation_eq : 1 ≤ 2 := by decide
theorem lw_WrongChain_eq_Step_eq : 2 ≤ 2 := by decide
theorem ok_WrongChain_eq {P : Program} {w : World} {K : PySem.W.Frag} {mg : Str → Option Value} {base : Heap} (G : Gd P w K mg) (h_Situation_eq : HasEq P w K mg base 1 0 F_Situation_eq) (h_Step_eq : HasEq P w K mg base 1 1 F_Step_eq) {f : Addr} {fd : FuncData}
    (F : FunD K "__eq__" "WrongChain.__eq__" (defArgs s_WrongChain_eq) (defBody s_WrongChain_eq) (defScope s_WrongChain_eq) [] [] f fd) : FnOk P w K mg base CX0 3 f fd P_WrongChain_eq (spD ⟨P, w, K⟩ 2 F_WrongChain_eq) :=
  d_fn F sc_WrongChain_eq rfl fun cdv A outer s H E hr => by
    have sc := sc_WrongChain_eq
    exact (dss_one (ds_ret (de_and (de_isi (t := (.own 4)) (pe_callB (call_isiD G.O (.own 4)) rfl G.b_isinstance (by decide +kernel) (pa_cons (de_var (pv 1)) (pa_cons (pe_glob rfl G.k_WrongChain rfl) pa_nil)))) (de_and (de_eqI h_Situation_eq (hr.mono (lv_WrongChain_eq_Situation_eq)) (de_fld G.O (de_var (pv 0)) rfl) (de_fld G.O (de_var (pv 1)) rfl) (nomark _)) (de_one (de_cmp (opd_eqT h_Step_eq yes_Step (hr.mono (lw_WrongChain_eq_Step_eq))) (de_fld G.O (de_var (pv 0)) rfl) (de_fld G.O (de_var (pv 1)) rfl) (nomark _)))))))
end T
namespace T
open PySem PySem.Spec PyProof.Rows L2 Dm
/-! TalkErr.__init__ -/
abbrev s_TalkErr_init : Stmt := clsS (topS 47) 0
abbrev N_TalkErr_init : List Str := ["self", "path", "index", "chain"]
abbrev P_TalkErr_init : List Str := ["self", "path", "index", "chain"]
theorem sc_TalkErr_init : FnScope N_TalkErr_init P_TalkErr_init (defScope s_TalkErr_init) := ⟨rfl, rfl, rfl, by decide +kernel, rfl, by decide +kernel, by decide +kernel⟩
def b_TalkErr_init : SS := (seqS (atrS "path" (vaS 0) (vaS 1))
  (seqS (atrS "index" (vaS 0) (vaS 2))
  (atrS "chain" (vaS 0) (vaS 3))))
def F_TalkErr_init : FnD := defD 4 b_TalkErr_init
theorem ok_TalkErr_init {P : Program} {w : World} {K : PySem.W.Frag} {mg : Str → Option Value} {base : Heap} (G : Gd P w K mg)  {f : Addr} {fd : FuncData}
    (F : FunD K "__init__" "TalkErr.__init__" (defArgs s_TalkErr_init) (defBody s_TalkErr_init) (defScope s_TalkErr_init) [] [] f fd) : FnOk P w K mg base CX0 1 f fd P_TalkErr_init (spD ⟨P, w, K⟩ 4 F_TalkErr_init) :=
  d_fn F sc_TalkErr_init rfl fun cdv A outer s H E hr => by
    have sc := sc_TalkErr_init
    exact (dss_cons (ds_atr G.O (ps_fld (de_var (pv 0)) (de_var (pv 1)) rfl))
  (dss_cons (ds_atr G.O (ps_fld (de_var (pv 0)) (de_var (pv 2)) rfl))
  (dss_one (ds_atr G.O (ps_fld (de_var (pv 0)) (de_var (pv 3)) rfl)))))
end T
namespace T
open PySem PySem.Spec PyProof.Rows L2 Dm
/-! TalkErr.__eq__ -/
abbrev s_TalkErr_eq : Stmt := clsS (topS 47) 1
abbrev N_TalkErr_eq : List Str := ["self", "other"]
abbrev P_TalkErr_eq : List Str := ["self", "other"]
theorem sc_TalkErr_eq : FnScope N_TalkErr_eq P_TalkErr_eq (defScope s_TalkErr_eq) := ⟨rfl, rfl, rfl, by decide +kernel, rfl, by decide +kernel, by decide +kernel⟩
def b_TalkErr_eq : SS := (retS (andV (isiS (.own 5) (vaS 1)) (andV (bin2 eqDQ (fldS "path" (vaS 0)) (fldS "path" (vaS 1))) (andV (bin2 eqQ (fldS "index" (vaS 0)) (fldS "index" (vaS 1))) (eqIS 4 F_WrongChain_eq (fldS "chain" (vaS 0)) (fldS "chain" (vaS 1)))))))
def F_TalkErr_eq : FnD := defD 2 b_TalkErr_eq
theorem lv_TalkErr_eq_WrongChain_eq : 3 ≤ 3 := by decide
theorem ok_TalkErr_eq {P : Program} {w : World} {K : PySem.W.Frag} {mg : Str → Option Value} {base : Heap} (G : Gd P w K mg) (h_WrongChain_eq : HasEq P w K mg base 3 4 F_WrongChain_eq) {f : Addr} {fd : FuncData}
    (F : FunD K "__eq__" "TalkErr.__eq__" (defArgs s_TalkErr_eq) (defBody s_TalkErr_eq) (defScope s_TalkErr_eq) [] [] f fd) : FnOk P w K mg base CX0 4 f fd P_TalkErr_eq (spD ⟨P, w, K⟩ 2 F_TalkErr_eq) :=
  d_fn F sc_TalkErr_eq rfl fun cdv A outer s H E hr => by
    have sc := sc_TalkErr_eq
    exact (dss_one (ds_ret (de_and (de_isi (t := (.own 5)) (pe_callB (call_isiD G.O (.own 5)) rfl G.b_isinstance (by decide +kernel) (pa_cons (de_var (pv 1)) (pa_cons (pe_glob rfl G.k_TalkErr rfl) pa_nil)))) (de_and (de_cmp (opd_eqD (hu64 hr)) (de_fld G.O (de_var (pv 0)) rfl) (de_fld G.O (de_var (pv 1)) rfl) (nomark _)) (de_and (de_cmp opd_eq (de_fld G.O (de_var (pv 0)) rfl) (de_fld G.O (de_var (pv 1)) rfl) (nomark _)) (de_one (de_eqI h_WrongChain_eq (hr.mono (lv_TalkErr_eq_WrongChain_eq)) (de_fld G.O (de_var (pv 0)) rfl) (de_fld G.O (de_var (pv 1)) rfl) (nomark _))))))))
end T
namespace T
open PySem PySem.Spec PyProof.Rows L2 Dm
/-! other_than -/
abbrev s_other_than : Stmt := topS 48
abbrev N_other_than : List Str := ["names", "name"]
abbrev P_other_than : List Str := ["names"]
theorem sc_other_than : FnScope N_other_than P_other_than (defScope s_other_than) := ⟨rfl, rfl, rfl, by decide +kernel, rfl, by decide +kernel, by decide +kernel⟩
def b_other_than : SS := (retS (bin2 ixQ (lcS [1] (itTS (cS c_NAMES)) (nmG 1) (bS (bin2 ninQ (vaS 1) (vaS 0))) (vaS 1)) (cS (.int 0))))
def F_other_than : FnD := defD 2 b_other_than
theorem ok_other_than {P : Program} {w : World} {K : PySem.W.Frag} {mg : Str → Option Value} {base : Heap} (G : Gd P w K mg)  {f : Addr} {fd : FuncData}
    (F : FunD K "other_than" "other_than" (defArgs s_other_than) (defBody s_other_than) (defScope s_other_than) [] [] f fd) : FnOk P w K mg base CX0 1 f fd P_other_than (spD ⟨P, w, K⟩ 1 F_other_than) :=
  d_fn F sc_other_than rfl fun cdv A outer s H E hr => by
    have sc := sc_other_than
    exact (dss_one (ds_ret (de_ix (de_lc (tgt_name (by decide)) (pe_lc rfl sc.nd (di_tup (de_gl G.c_NAMES rfl)) (own := [("name", 1)]) (BlkOk.mk (N := N_other_than) (sc := defScope s_other_than) rfl (by decide +kernel) (by decide +kernel) (by decide +kernel) (by decide +kernel)) (fun s H C cl fp => (pg_name (i := 1) sc.nd rfl (by first | exact Or.inl rfl | exact Or.inr rfl))) (fun s H C cl fp => (dts_one (dt_cmp opd_notin (de_var (pv 1)) (de_var (pv 0)) (by with_unfolding_all rfl)))) (fun s H C cl fp => (de_var (pv 1))))) de_int fun _ _ => rfl)))
end T
namespace T
open PySem PySem.Spec PyProof.Rows L2 Dm
/-! start_spots -/
abbrev s_start_spots : Stmt := topS 49
abbrev N_start_spots : List Str := ["word", "head", "pair", "gap", "offset", "teller", "hearer"]
abbrev P_start_spots : List Str := ["word"]
theorem sc_start_spots : FnScope N_start_spots P_start_spots (defScope s_start_spots) := ⟨rfl, rfl, rfl, by decide +kernel, rfl, by decide +kernel, by decide +kernel⟩
def b_start_spots : SS := (seqS (setS 1 (bin2 ixQ (vaS 0) (cS (.int 0))))
  (seqS (iffS (bS (bin2 eqQ (vaS 1) (cS (.str "today")))) nevSS nxS)
  (seqS (iffS (bS (bin2 eqQ (vaS 1) (cS (.str "coming")))) nevSS nxS)
  (seqS (iffS (bS (bin2 eqQ (vaS 1) (cS (.str "last")))) nevSS nxS)
  (seqS (iffS (bS (bin2 eqQ (vaS 1) (cS (.str "date")))) nevSS nxS)
  (seqS (iffS (bS (bin2 eqQ (vaS 1) (cS (.str "here")))) (retS (lstS (consA (tupS (consA (cS (.str "a")) (consA (cS (.str "b")) (consA (cS (.int 0)) (consA (cS (.str "a")) nilA))))) nilA))) nxS)
  (seqS (iffS (bS (bin2 eqQ (vaS 1) (cS (.str "place")))) (retS (lstS (consA (tupS (consA (cS (.str "a")) (consA (cS (.str "b")) (consA (cS (.int 0)) (consA (bin2 ixQ (vaS 0) (cS (.int 1))) nilA))))) (consA (tupS (consA (cS (.str "a")) (consA (cS (.str "b")) (consA (cS (.int 0)) (consA (callF F_other_than (consA (lstS (consA (bin2 ixQ (vaS 0) (cS (.int 1))) nilA)) nilA)) nilA))))) nilA)))) nxS)
  (seqS (iffS (bS (bin2 eqQ (vaS 1) (cS (.str "I")))) (retS (lstS (consA (tupS (consA (cS (.str "a")) (consA (cS (.str "a")) (consA (cS (.int 0)) (consA (cS (.str "a")) nilA))))) (consA (tupS (consA (cS (.str "a")) (consA (cS (.str "b")) (consA (cS (.int 0)) (consA (cS (.str "a")) nilA))))) nilA)))) nxS)
  (seqS (iffS (bS (bin2 eqQ (vaS 1) (cS (.str "you")))) (retS (lstS (consA (tupS (consA (cS (.str "a")) (consA (cS (.str "a")) (consA (cS (.int 0)) (consA (cS (.str "a")) nilA))))) (consA (tupS (consA (cS (.str "b")) (consA (cS (.str "a")) (consA (cS (.int 0)) (consA (cS (.str "a")) nilA))))) nilA)))) nxS)
  (seqS (setS 2 (tupS (consA (bin2 ixQ (vaS 0) (cS (.int 1))) (consA (callF F_other_than (consA (lstS (consA (bin2 ixQ (vaS 0) (cS (.int 1))) nilA)) nilA)) nilA))))
  (retS (lc2S [5, 6] (itTS (vaS 2)) (nmG 5) (itTS (vaS 2)) [6] (nmG 6) (tupS (consA (vaS 5) (consA (vaS 6) (consA (cS (.int 0)) (consA (cS (.str "a")) nilA)))))))))))))))))
def F_start_spots : FnD := defD 7 b_start_spots
theorem lv_start_spots_other_than : 1 ≤ 1 := by decide
theorem ok_start_spots {P : Program} {w : World} {K : PySem.W.Frag} {mg : Str → Option Value} {base : Heap} (G : Gd P w K mg) (h_other_than : HasFn P w K mg base 1 "other_than" 1 F_other_than) {f : Addr} {fd : FuncData}
    (F : FunD K "start_spots" "start_spots" (defArgs s_start_spots) (defBody s_start_spots) (defScope s_start_spots) [] [] f fd) : FnOk P w K mg base CX0 2 f fd P_start_spots (spD ⟨P, w, K⟩ 1 F_start_spots) :=
  d_fn F sc_start_spots rfl fun cdv A outer s H E hr => by
    have sc := sc_start_spots
    exact (dss_cons (ds_set (ps_set (i := 1) sc.nd rfl (by first | exact Or.inl rfl | exact Or.inr rfl) (de_ix (de_var (pv 0)) de_int fun _ _ => rfl)))
  (dss_cons (ds_if (dt_cmp opd_eq (de_var (pv 1)) de_str (nomark _)) dss_nev dss_nil)
  (dss_cons (ds_if (dt_cmp opd_eq (de_var (pv 1)) de_str (nomark _)) dss_nev dss_nil)
  (dss_cons (ds_if (dt_cmp opd_eq (de_var (pv 1)) de_str (nomark _)) dss_nev dss_nil)
  (dss_cons (ds_if (dt_cmp opd_eq (de_var (pv 1)) de_str (nomark _)) dss_nev dss_nil)
  (dss_cons (ds_if (dt_cmp opd_eq (de_var (pv 1)) de_str (nomark _)) (dss_one (ds_ret (de_lst (da_cons (de_tup (da_cons de_str (da_cons de_str (da_cons de_int (da_cons de_str da_nil))))) da_nil)))) dss_nil)
  (dss_cons (ds_if (dt_cmp opd_eq (de_var (pv 1)) de_str (nomark _)) (dss_one (ds_ret (de_lst (da_cons (de_tup (da_cons de_str (da_cons de_str (da_cons de_int (da_cons (de_ix (de_var (pv 0)) de_int fun _ _ => rfl) da_nil))))) (da_cons (de_tup (da_cons de_str (da_cons de_str (da_cons de_int (da_cons (de_call h_other_than (hr.mono (lv_start_spots_other_than)) rfl (len_cons len_nil) (da_cons (de_lst (da_cons (de_ix (de_var (pv 0)) de_int fun _ _ => rfl) da_nil)) da_nil)) da_nil))))) da_nil))))) dss_nil)
  (dss_cons (ds_if (dt_cmp opd_eq (de_var (pv 1)) de_str (nomark _)) (dss_one (ds_ret (de_lst (da_cons (de_tup (da_cons de_str (da_cons de_str (da_cons de_int (da_cons de_str da_nil))))) (da_cons (de_tup (da_cons de_str (da_cons de_str (da_cons de_int (da_cons de_str da_nil))))) da_nil))))) dss_nil)
  (dss_cons (ds_if (dt_cmp opd_eq (de_var (pv 1)) de_str (nomark _)) (dss_one (ds_ret (de_lst (da_cons (de_tup (da_cons de_str (da_cons de_str (da_cons de_int (da_cons de_str da_nil))))) (da_cons (de_tup (da_cons de_str (da_cons de_str (da_cons de_int (da_cons de_str da_nil))))) da_nil))))) dss_nil)
  (dss_cons (ds_set (ps_set (i := 2) sc.nd rfl (by first | exact Or.inl rfl | exact Or.inr rfl) (de_tup (da_cons (de_ix (de_var (pv 0)) de_int fun _ _ => rfl) (da_cons (de_call h_other_than (hr.mono (lv_start_spots_other_than)) rfl (len_cons len_nil) (da_cons (de_lst (da_cons (de_ix (de_var (pv 0)) de_int fun _ _ => rfl) da_nil)) da_nil)) da_nil)))))
  (dss_one (ds_ret (de_lc2 (tgt_name (by decide)) (tgt_name (by decide)) (pe_lc2 rfl sc.nd (di_tup (de_var (pv 2))) (own := [("teller", 5), ("hearer", 6)]) (vs1 := [6]) (BlkOk.mk (N := N_start_spots) (sc := defScope s_start_spots) rfl (by decide +kernel) (by decide +kernel) (by decide +kernel) (by decide +kernel)) (by decide +kernel) (fun s H C cl fp => (pg_name (i := 5) sc.nd rfl (by first | exact Or.inl rfl | exact Or.inr rfl))) (fun s H C cl fp => dts_nil) (fun s H C cl fp => (di_tup (de_var (pv 2)))) (fun s H C cl fp => (pg_name (i := 6) sc.nd rfl (by first | exact Or.inl rfl | exact Or.inr rfl))) (fun s H C cl fp => dts_nil) (fun s H C cl fp => (de_tup (da_cons (de_var (pv 5)) (da_cons (de_var (pv 6)) (da_cons de_int (da_cons de_str da_nil))))))))))))))))))))
end T
namespace T
open PySem PySem.Spec PyProof.Rows L2 Dm
/-! moves_from -/
abbrev s_moves_from : Stmt := topS 50
abbrev N_moves_from : List Str := ["word", "spot", "least", "meant", "names", "delay", "name"]
abbrev P_moves_from : List Str := ["word", "spot", "least"]
theorem sc_moves_from : FnScope N_moves_from P_moves_from (defScope s_moves_from) := ⟨rfl, rfl, rfl, by decide +kernel, rfl, by decide +kernel, by decide +kernel⟩
def b_moves_from : SS := (seqS (setS 3 (callF F_meant_at (consA (vaS 0) (consA (vaS 1) nilA))))
  (seqS (iffS (bS (bin2 inQ (bin2 ixQ (vaS 0) (cS (.int 0))) (cS c_DAY_SORTS))) nevSS nxS)
  (seqS (iffS (bS (bin2 inQ (bin2 ixQ (vaS 0) (cS (.int 0))) (cS c_PERSON_SORTS))) (seqS (setS 4 (lstM (consA (vaS 3) nilA)))
  (seqS (iffS (bS (bin2 neQ (bin2 ixQ (vaS 1) (cS (.int 1))) (vaS 3))) (dropS (appS (vaS 4) (bin2 ixQ (vaS 1) (cS (.int 1))))) nxS)
  (seqS (dropS (appS (vaS 4) (callF F_other_than (consA (vaS 4) nilA))))
  (retS (lcS [6] (itLS (frzS (vaS 4))) (nmG 6) yesT (tupS (consA (vaS 2) (consA (vaS 6) (consA (cS (.str "a")) nilA))))))))) nxS)
  (retS (lstS (consA (tupS (consA (vaS 2) (consA (cS (.str "a")) (consA (vaS 3) nilA)))) (consA (tupS (consA (vaS 2) (consA (cS (.str "a")) (consA (callF F_other_than (consA (lstS (consA (vaS 3) nilA)) nilA)) nilA)))) nilA)))))))
def F_moves_from : FnD := defD 7 b_moves_from
theorem lv_moves_from_meant_at : 1 ≤ 1 := by decide
theorem lv_moves_from_other_than : 1 ≤ 1 := by decide
theorem ok_moves_from {P : Program} {w : World} {K : PySem.W.Frag} {mg : Str → Option Value} {base : Heap} (G : Gd P w K mg) (h_meant_at : HasFn P w K mg base 1 "meant_at" 2 F_meant_at) (h_other_than : HasFn P w K mg base 1 "other_than" 1 F_other_than) {f : Addr} {fd : FuncData}
    (F : FunD K "moves_from" "moves_from" (defArgs s_moves_from) (defBody s_moves_from) (defScope s_moves_from) [] [] f fd) : FnOk P w K mg base CX0 2 f fd P_moves_from (spD ⟨P, w, K⟩ 3 F_moves_from) :=
  d_fn F sc_moves_from rfl fun cdv A outer s H E hr => by
    have sc := sc_moves_from
    exact (dss_cons (ds_set (ps_set (i := 3) sc.nd rfl (by first | exact Or.inl rfl | exact Or.inr rfl) (de_call h_meant_at (hr.mono (lv_moves_from_meant_at)) rfl (len_cons (len_cons len_nil)) (da_cons (de_var (pv 0)) (da_cons (de_var (pv 1)) da_nil)))))
  (dss_cons (ds_if (dt_cmp opd_in (de_ix (de_var (pv 0)) de_int fun _ _ => rfl) (de_gl G.c_DAY_SORTS rfl) (by with_unfolding_all rfl)) dss_nev dss_nil)
  (dss_cons (ds_if (dt_cmp opd_in (de_ix (de_var (pv 0)) de_int fun _ _ => rfl) (de_gl G.c_PERSON_SORTS rfl) (by with_unfolding_all rfl)) (dss_cons (ds_set (ps_set (i := 4) sc.nd rfl (by first | exact Or.inl rfl | exact Or.inr rfl) (de_lstM (da_cons (de_var (pv 3)) da_nil))))
  (dss_cons (ds_if (dt_cmp opd_ne (de_ix (de_var (pv 1)) de_int fun _ _ => rfl) (de_var (pv 3)) (nomark _)) (dss_one (ds_expr (de_app (pe_bm PySem.F.plainAttrs_list PySem.F.slot_list_append PySem.F.type_list_append mt_append (de_var (pv 4)) (pa_cons (de_ix (de_var (pv 1)) de_int fun _ _ => rfl) pa_nil))))) dss_nil)
  (dss_cons (ds_expr (de_app (pe_bm PySem.F.plainAttrs_list PySem.F.slot_list_append PySem.F.type_list_append mt_append (de_var (pv 4)) (pa_cons (de_call h_other_than (hr.mono (lv_moves_from_other_than)) rfl (len_cons len_nil) (da_cons (de_var (pv 4)) da_nil)) pa_nil))))
  (dss_one (ds_ret (de_lc (tgt_name (by decide)) (pe_lc rfl sc.nd (di_list (de_frz (de_var (pv 4)))) (own := [("name", 6)]) (BlkOk.mk (N := N_moves_from) (sc := defScope s_moves_from) rfl (by decide +kernel) (by decide +kernel) (by decide +kernel) (by decide +kernel)) (fun s H C cl fp => (pg_name (i := 6) sc.nd rfl (by first | exact Or.inl rfl | exact Or.inr rfl))) (fun s H C cl fp => dts_nil) (fun s H C cl fp => (de_tup (da_cons (de_var (pv 2)) (da_cons (de_var (pv 6)) (da_cons de_str da_nil)))))))))))) dss_nil)
  (dss_one (ds_ret (de_lst (da_cons (de_tup (da_cons (de_var (pv 2)) (da_cons de_str (da_cons (de_var (pv 3)) da_nil)))) (da_cons (de_tup (da_cons (de_var (pv 2)) (da_cons de_str (da_cons (de_call h_other_than (hr.mono (lv_moves_from_other_than)) rfl (len_cons len_nil) (da_cons (de_lst (da_cons (de_var (pv 3)) da_nil)) da_nil)) da_nil)))) da_nil))))))))
end T
namespace T
open PySem PySem.Spec PyProof.Rows L2 Dm
/-! state_of -/
abbrev s_state_of : Stmt := topS 52
abbrev N_state_of : List Str := ["word", "spot", "high", "head", "meant"]
abbrev P_state_of : List Str := ["word", "spot", "high"]
theorem sc_state_of : FnScope N_state_of P_state_of (defScope s_state_of) := ⟨rfl, rfl, rfl, by decide +kernel, rfl, by decide +kernel, by decide +kernel⟩
def b_state_of : SS := (seqS (setS 3 (bin2 ixQ (vaS 0) (cS (.int 0))))
  (seqS (setS 4 (callF F_meant_at (consA (vaS 0) (consA (vaS 1) nilA))))
  (seqS (iffS (bS (bin2 inQ (vaS 3) (cS c_DAY_SORTS))) nevSS nxS)
  (seqS (iffS (bS (bin2 eqQ (vaS 3) (cS (.str "I")))) (retS (tupS (consA (vaS 3) (consA (bin2 eqQ (vaS 4) (bin2 ixQ (vaS 1) (cS (.int 1)))) nilA)))) nxS)
  (seqS (iffS (bS (bin2 eqQ (vaS 3) (cS (.str "you")))) (retS (tupS (consA (vaS 3) (consA (bin2 eqQ (vaS 4) (bin2 ixQ (vaS 1) (cS (.int 0)))) nilA)))) nxS)
  (seqS (iffS (bS (bin2 eqQ (vaS 3) (cS (.str "name")))) (retS (tupS (consA (vaS 3) (consA (bin2 eqQ (vaS 4) (bin2 ixQ (vaS 1) (cS (.int 0)))) (consA (bin2 eqQ (vaS 4) (bin2 ixQ (vaS 1) (cS (.int 1)))) nilA))))) nxS)
  (seqS (iffS (bS (bin2 eqQ (vaS 3) (cS (.str "here")))) (retS (tupS (consA (vaS 3) nilA))) nxS)
  (retS (tupS (consA (vaS 3) (consA (bin2 eqQ (vaS 4) (bin2 ixQ (vaS 1) (cS (.int 3)))) nilA)))))))))))
def F_state_of : FnD := defD 5 b_state_of
theorem lv_state_of_meant_at : 1 ≤ 1 := by decide
theorem ok_state_of {P : Program} {w : World} {K : PySem.W.Frag} {mg : Str → Option Value} {base : Heap} (G : Gd P w K mg) (h_meant_at : HasFn P w K mg base 1 "meant_at" 2 F_meant_at) {f : Addr} {fd : FuncData}
    (F : FunD K "state_of" "state_of" (defArgs s_state_of) (defBody s_state_of) (defScope s_state_of) [V.int 10] [] f fd) : FnOk P w K mg base CX0 2 f fd P_state_of (spD ⟨P, w, K⟩ 3 F_state_of) :=
  d_fn F sc_state_of rfl fun cdv A outer s H E hr => by
    have sc := sc_state_of
    exact (dss_cons (ds_set (ps_set (i := 3) sc.nd rfl (by first | exact Or.inl rfl | exact Or.inr rfl) (de_ix (de_var (pv 0)) de_int fun _ _ => rfl)))
  (dss_cons (ds_set (ps_set (i := 4) sc.nd rfl (by first | exact Or.inl rfl | exact Or.inr rfl) (de_call h_meant_at (hr.mono (lv_state_of_meant_at)) rfl (len_cons (len_cons len_nil)) (da_cons (de_var (pv 0)) (da_cons (de_var (pv 1)) da_nil)))))
  (dss_cons (ds_if (dt_cmp opd_in (de_var (pv 3)) (de_gl G.c_DAY_SORTS rfl) (by with_unfolding_all rfl)) dss_nev dss_nil)
  (dss_cons (ds_if (dt_cmp opd_eq (de_var (pv 3)) de_str (nomark _)) (dss_one (ds_ret (de_tup (da_cons (de_var (pv 3)) (da_cons (de_cmp opd_eq (de_var (pv 4)) (de_ix (de_var (pv 1)) de_int fun _ _ => rfl) (nomark _)) da_nil))))) dss_nil)
  (dss_cons (ds_if (dt_cmp opd_eq (de_var (pv 3)) de_str (nomark _)) (dss_one (ds_ret (de_tup (da_cons (de_var (pv 3)) (da_cons (de_cmp opd_eq (de_var (pv 4)) (de_ix (de_var (pv 1)) de_int fun _ _ => rfl) (nomark _)) da_nil))))) dss_nil)
  (dss_cons (ds_if (dt_cmp opd_eq (de_var (pv 3)) de_str (nomark _)) (dss_one (ds_ret (de_tup (da_cons (de_var (pv 3)) (da_cons (de_cmp opd_eq (de_var (pv 4)) (de_ix (de_var (pv 1)) de_int fun _ _ => rfl) (nomark _)) (da_cons (de_cmp opd_eq (de_var (pv 4)) (de_ix (de_var (pv 1)) de_int fun _ _ => rfl) (nomark _)) da_nil)))))) dss_nil)
  (dss_cons (ds_if (dt_cmp opd_eq (de_var (pv 3)) de_str (nomark _)) (dss_one (ds_ret (de_tup (da_cons (de_var (pv 3)) da_nil)))) dss_nil)
  (dss_one (ds_ret (de_tup (da_cons (de_var (pv 3)) (da_cons (de_cmp opd_eq (de_var (pv 4)) (de_ix (de_var (pv 1)) de_int fun _ _ => rfl) (nomark _)) da_nil))))))))))))
end T
namespace T
open PySem PySem.Spec PyProof.Rows L2 Dm
/-! explore -/
abbrev s_explore : Stmt := topS 53
abbrev N_explore : List Str := ["book", "word", "whole", "nodes", "known", "used", "wrong", "spot", "at", "said", "_", "meant", "move", "number", "new", "there"]
abbrev P_explore : List Str := ["book", "word", "whole"]
theorem sc_explore : FnScope N_explore P_explore (defScope s_explore) := ⟨rfl, rfl, rfl, by decide +kernel, rfl, by decide +kernel, by decide +kernel⟩
def b_explore : SS := (seqS (setS 3 (lstM nilA))
  (seqS (setS 4 dicTM)
  (seqS (setS 5 dicIM)
  (seqS (setS 6 (cS .non))
  (seqS (forS (itLS (callF F_start_spots (consA (vaS 1) nilA))) (nmG 7) (seqS (putS (vaS 4) (callFd F_state_of [.int 10] (consA (vaS 1) (consA (vaS 7) nilA))) (cS (.bl true)))
  (dropS (appS (vaS 3) (tupS (consA (vaS 1) (consA (vaS 7) (consA (cS .non) (consA (cS .non) nilA)))))))))
  (seqS (setS 8 (cS (.int 0)))
  (seqS (whS 40 (bS (bin2 ltQ (vaS 8) (callQ lenQ (consA (vaS 3) nilA)))) (seqS (asgS (bin2 ixQ (vaS 3) (vaS 8)) (tupG 4 (consG (nmG 9) (consG (nmG 7) (consG (nmG 10) (consG (nmG 10) nilG))))))
  (seqS (setS 11 (callF F_meant_at (consA (vaS 9) (consA (vaS 7) nilA))))
  (seqS (forS (itLS (callF F_moves_from (consA (vaS 9) (consA (vaS 7) (consA (cS (.int 0)) nilA))))) (nmG 12) (seqS (asgS (callF F_write_word (consA (vaS 0) (consA (vaS 9) (consA (vaS 7) (consA (vaS 12) nilA))))) (tupG 2 (consG (nmG 13) (consG (nmG 14) nilG))))
  (seqS (setS 15 (callF F_spot_after (consA (vaS 7) (consA (vaS 12) nilA))))
  (seqS (iffS (bS (bin2 isnNQ (vaS 13) (cS .non))) (putS (vaS 5) (vaS 13) (cS (.bl true))) nxS)
  (iffS (bS (bin2 neQ (callF F_meant_at (consA (vaS 14) (consA (vaS 15) nilA))) (vaS 11))) (seqS (iffS (bS (bin2 isNQ (vaS 6) (cS .non))) (setS 6 (tupS (consA (vaS 8) (consA (vaS 12) nilA)))) nxS)
  (iffS (notT (trS (vaS 2))) (retS (tupS (consA (frzS (vaS 3)) (consA (vaS 6) (consA (callQ srtIQ (consA (vaS 5) nilA)) nilA))))) nxS)) (iffS (bS (bin2 ninTQ (callFd F_state_of [.int 10] (consA (vaS 14) (consA (vaS 15) nilA))) (vaS 4))) (seqS (putS (vaS 4) (callFd F_state_of [.int 10] (consA (vaS 14) (consA (vaS 15) nilA))) (cS (.bl true)))
  (dropS (appS (vaS 3) (tupS (consA (vaS 14) (consA (vaS 15) (consA (vaS 8) (consA (vaS 12) nilA)))))))) nxS))))))
  (augS 8 (cS (.int 1)))))))
  (retS (tupS (consA (frzS (vaS 3)) (consA (vaS 6) (consA (callQ srtIQ (consA (vaS 5) nilA)) nilA))))))))))))
def F_explore : FnD := defD 16 b_explore
theorem lv_explore_meant_at : 1 ≤ 3 := by decide
theorem lv_explore_moves_from : 2 ≤ 3 := by decide
theorem lv_explore_spot_after : 1 ≤ 3 := by decide
theorem lv_explore_start_spots : 2 ≤ 3 := by decide
theorem lv_explore_state_of : 2 ≤ 3 := by decide
theorem lv_explore_write_word : 3 ≤ 3 := by decide
theorem ok_explore {P : Program} {w : World} {K : PySem.W.Frag} {mg : Str → Option Value} {base : Heap} (G : Gd P w K mg) (h_meant_at : HasFn P w K mg base 1 "meant_at" 2 F_meant_at) (h_moves_from : HasFn P w K mg base 2 "moves_from" 3 F_moves_from) (h_spot_after : HasFn P w K mg base 1 "spot_after" 2 F_spot_after) (h_start_spots : HasFn P w K mg base 2 "start_spots" 1 F_start_spots) (h_state_of : HasFnD P w K mg base 2 "state_of" 2 F_state_of [.int 10]) (h_write_word : HasFn P w K mg base 3 "write_word" 4 F_write_word) {f : Addr} {fd : FuncData}
    (F : FunD K "explore" "explore" (defArgs s_explore) (defBody s_explore) (defScope s_explore) [] [] f fd) : FnOk P w K mg base CX0 4 f fd P_explore (spD ⟨P, w, K⟩ 3 F_explore) :=
  d_fn F sc_explore rfl fun cdv A outer s H E hr => by
    have sc := sc_explore
    exact (dss_cons (ds_set (ps_set (i := 3) sc.nd rfl (by first | exact Or.inl rfl | exact Or.inr rfl) (de_lstM da_nil)))
  (dss_cons (ds_set (ps_set (i := 4) sc.nd rfl (by first | exact Or.inl rfl | exact Or.inr rfl) de_dicT))
  (dss_cons (ds_set (ps_set (i := 5) sc.nd rfl (by first | exact Or.inl rfl | exact Or.inr rfl) (de_dicI pe_dnewK)))
  (dss_cons (ds_set (ps_set (i := 6) sc.nd rfl (by first | exact Or.inl rfl | exact Or.inr rfl) de_non))
  (dss_cons (ds_for PassesOwn.never rfl (di_list (de_call h_start_spots (hr.mono (lv_explore_start_spots)) rfl (len_cons len_nil) (da_cons (de_var (pv 1)) da_nil))) (dg_name (i := 7) (pg_name (i := 7) sc.nd rfl (by first | exact Or.inl rfl | exact Or.inr rfl))) (dss_cons (ds_put (ps_asg de_bl (pg_sub (de_var (pv 4)) (de_calld h_state_of (hr.mono (lv_explore_state_of)) rfl (len_cons (len_cons len_nil)) (da_cons (de_var (pv 1)) (da_cons (de_var (pv 7)) da_nil))) (set_dict (hu9 hr)))))
  (dss_one (ds_expr (de_app (pe_bm PySem.F.plainAttrs_list PySem.F.slot_list_append PySem.F.type_list_append mt_append (de_var (pv 3)) (pa_cons (de_tup (da_cons (de_var (pv 1)) (da_cons (de_var (pv 7)) (da_cons de_non (da_cons de_non da_nil))))) pa_nil)))))))
  (dss_cons (ds_set (ps_set (i := 8) sc.nd rfl (by first | exact Or.inl rfl | exact Or.inr rfl) de_int))
  (dss_cons (ds_while 40 PassesOwn.never (dt_cmp opd_lt (de_var (pv 8)) (de_callP (pe_callB (cd_len) rfl G.b_len (by decide +kernel) (da_cons (de_var (pv 3)) da_nil))) (nomark _)) (dss_cons (ds_asg (de_ix (de_var (pv 3)) (de_var (pv 8)) fun _ _ => rfl) (dg_tup (pg_tup rfl (dgs_cons (dg_name (i := 9) (pg_name (i := 9) sc.nd rfl (by first | exact Or.inl rfl | exact Or.inr rfl))) (dgs_cons (dg_name (i := 7) (pg_name (i := 7) sc.nd rfl (by first | exact Or.inl rfl | exact Or.inr rfl))) (dgs_cons (dg_name (i := 10) (pg_name (i := 10) sc.nd rfl (by first | exact Or.inl rfl | exact Or.inr rfl))) (dgs_cons (dg_name (i := 10) (pg_name (i := 10) sc.nd rfl (by first | exact Or.inl rfl | exact Or.inr rfl))) dgs_nil)))))))
  (dss_cons (ds_set (ps_set (i := 11) sc.nd rfl (by first | exact Or.inl rfl | exact Or.inr rfl) (de_call h_meant_at (hr.mono (lv_explore_meant_at)) rfl (len_cons (len_cons len_nil)) (da_cons (de_var (pv 9)) (da_cons (de_var (pv 7)) da_nil)))))
  (dss_cons (ds_for PassesOwn.never rfl (di_list (de_call h_moves_from (hr.mono (lv_explore_moves_from)) rfl (len_cons (len_cons (len_cons len_nil))) (da_cons (de_var (pv 9)) (da_cons (de_var (pv 7)) (da_cons de_int da_nil))))) (dg_name (i := 12) (pg_name (i := 12) sc.nd rfl (by first | exact Or.inl rfl | exact Or.inr rfl))) (dss_cons (ds_asg (de_call h_write_word (hr.mono (lv_explore_write_word)) rfl (len_cons (len_cons (len_cons (len_cons len_nil)))) (da_cons (de_var (pv 0)) (da_cons (de_var (pv 9)) (da_cons (de_var (pv 7)) (da_cons (de_var (pv 12)) da_nil))))) (dg_tup (pg_tup rfl (dgs_cons (dg_name (i := 13) (pg_name (i := 13) sc.nd rfl (by first | exact Or.inl rfl | exact Or.inr rfl))) (dgs_cons (dg_name (i := 14) (pg_name (i := 14) sc.nd rfl (by first | exact Or.inl rfl | exact Or.inr rfl))) dgs_nil)))))
  (dss_cons (ds_set (ps_set (i := 15) sc.nd rfl (by first | exact Or.inl rfl | exact Or.inr rfl) (de_call h_spot_after (hr.mono (lv_explore_spot_after)) rfl (len_cons (len_cons len_nil)) (da_cons (de_var (pv 7)) (da_cons (de_var (pv 12)) da_nil)))))
  (dss_cons (ds_if (dt_cmp opd_isnot (de_var (pv 13)) de_non (nomark _)) (dss_one (ds_put (ps_asg de_bl (pg_sub (de_var (pv 5)) (de_var (pv 13)) (set_dict (hu9 hr)))))) dss_nil)
  (dss_one (ds_if (dt_cmp opd_ne (de_call h_meant_at (hr.mono (lv_explore_meant_at)) rfl (len_cons (len_cons len_nil)) (da_cons (de_var (pv 14)) (da_cons (de_var (pv 15)) da_nil))) (de_var (pv 11)) (nomark _)) (dss_cons (ds_if (dt_cmp opd_is (de_var (pv 6)) de_non (nomark _)) (dss_one (ds_set (ps_set (i := 6) sc.nd rfl (by first | exact Or.inl rfl | exact Or.inr rfl) (de_tup (da_cons (de_var (pv 8)) (da_cons (de_var (pv 12)) da_nil)))))) dss_nil)
  (dss_one (ds_if (dt_not (dt_truth (de_var (pv 2)) fun _ => rfl)) (dss_one (ds_ret (de_tup (da_cons (de_frz (de_var (pv 3))) (da_cons (de_var (pv 6)) (da_cons (de_callP (pe_callB (cd_sortI rfl) rfl G.b_sorted (by decide +kernel) (da_cons (de_var (pv 5)) da_nil))) da_nil)))))) dss_nil))) (dss_one (ds_if (dt_cmp (opd_ninT (hu9 hr)) (de_calld h_state_of (hr.mono (lv_explore_state_of)) rfl (len_cons (len_cons len_nil)) (da_cons (de_var (pv 14)) (da_cons (de_var (pv 15)) da_nil))) (de_var (pv 4)) (by with_unfolding_all rfl)) (dss_cons (ds_put (ps_asg de_bl (pg_sub (de_var (pv 4)) (de_calld h_state_of (hr.mono (lv_explore_state_of)) rfl (len_cons (len_cons len_nil)) (da_cons (de_var (pv 14)) (da_cons (de_var (pv 15)) da_nil))) (set_dict (hu9 hr)))))
  (dss_one (ds_expr (de_app (pe_bm PySem.F.plainAttrs_list PySem.F.slot_list_append PySem.F.type_list_append mt_append (de_var (pv 3)) (pa_cons (de_tup (da_cons (de_var (pv 14)) (da_cons (de_var (pv 15)) (da_cons (de_var (pv 8)) (da_cons (de_var (pv 12)) da_nil))))) pa_nil)))))) dss_nil))))))))
  (dss_one (ds_aug (ps_aug (i := 8) sc.nd rfl (by first | exact Or.inl rfl | exact Or.inr rfl) de_int ip_add)))))))
  (dss_one (ds_ret (de_tup (da_cons (de_frz (de_var (pv 3))) (da_cons (de_var (pv 6)) (da_cons (de_callP (pe_callB (cd_sortI rfl) rfl G.b_sorted (by decide +kernel) (da_cons (de_var (pv 5)) da_nil))) da_nil)))))))))))))
end T
namespace T
open PySem PySem.Spec PyProof.Rows L2 Dm
/-! chain_to -/
abbrev s_chain_to : Stmt := topS 54
abbrev N_chain_to : List Str := ["nodes", "at", "move", "moves", "teller", "hearer", "day", "place", "steps", "delay", "name", "there"]
abbrev P_chain_to : List Str := ["nodes", "at", "move"]
theorem sc_chain_to : FnScope N_chain_to P_chain_to (defScope s_chain_to) := ⟨rfl, rfl, rfl, by decide +kernel, rfl, by decide +kernel, by decide +kernel⟩
def b_chain_to : SS := (seqS (setS 3 (lstM (consA (vaS 2) nilA)))
  (seqS (whS 40 (bS (bin2 isnNQ (bin2 ixQ (bin2 ixQ (vaS 0) (vaS 1)) (negS (cS (.int 2)))) (cS .non))) (seqS (dropS (appS (vaS 3) (bin2 ixQ (bin2 ixQ (vaS 0) (vaS 1)) (negS (cS (.int 1))))))
  (setS 1 (bin2 ixQ (bin2 ixQ (vaS 0) (vaS 1)) (negS (cS (.int 2)))))))
  (seqS (asgS (bin2 ixQ (bin2 ixQ (vaS 0) (vaS 1)) (negS (cS (.int 3)))) (tupG 4 (consG (nmG 4) (consG (nmG 5) (consG (nmG 6) (consG (nmG 7) nilG))))))
  (seqS (setS 8 (lcS [9, 10, 11] (itLS (revS (vaS 3))) (tupG 3 (consG (nmG 9) (consG (nmG 10) (consG (nmG 11) nilG)))) yesT (mkF 1 F_Step_init (consA (vaS 9) (consA (vaS 10) (consA (vaS 11) nilA))))))
  (retS (tupS (consA (mkF 0 F_Situation_init (consA (vaS 4) (consA (vaS 5) (consA (vaS 6) (consA (vaS 7) nilA))))) (consA (callQ tupQ (consA (vaS 8) nilA)) nilA))))))))
def F_chain_to : FnD := defD 12 b_chain_to
theorem lw_chain_to_Situation_init : 3 ≤ 3 := by decide
theorem lw_chain_to_Step_init : 3 ≤ 3 := by decide
theorem ok_chain_to {P : Program} {w : World} {K : PySem.W.Frag} {mg : Str → Option Value} {base : Heap} (G : Gd P w K mg) (h_Situation_init : HasMk P w K mg base 2 0 4 F_Situation_init) (h_Step_init : HasMk P w K mg base 2 1 3 F_Step_init) {f : Addr} {fd : FuncData}
    (F : FunD K "chain_to" "chain_to" (defArgs s_chain_to) (defBody s_chain_to) (defScope s_chain_to) [] [] f fd) : FnOk P w K mg base CX0 4 f fd P_chain_to (spD ⟨P, w, K⟩ 3 F_chain_to) :=
  d_fn F sc_chain_to rfl fun cdv A outer s H E hr => by
    have sc := sc_chain_to
    exact (dss_cons (ds_set (ps_set (i := 3) sc.nd rfl (by first | exact Or.inl rfl | exact Or.inr rfl) (de_lstM (da_cons (de_var (pv 2)) da_nil))))
  (dss_cons (ds_while 40 PassesOwn.never (dt_cmp opd_isnot (de_ix (de_ix (de_var (pv 0)) (de_var (pv 1)) fun _ _ => rfl) (de_neg de_int) fun _ _ => rfl) de_non (nomark _)) (dss_cons (ds_expr (de_app (pe_bm PySem.F.plainAttrs_list PySem.F.slot_list_append PySem.F.type_list_append mt_append (de_var (pv 3)) (pa_cons (de_ix (de_ix (de_var (pv 0)) (de_var (pv 1)) fun _ _ => rfl) (de_neg de_int) fun _ _ => rfl) pa_nil))))
  (dss_one (ds_set (ps_set (i := 1) sc.nd rfl (by first | exact Or.inl rfl | exact Or.inr rfl) (de_ix (de_ix (de_var (pv 0)) (de_var (pv 1)) fun _ _ => rfl) (de_neg de_int) fun _ _ => rfl))))))
  (dss_cons (ds_asg (de_ix (de_ix (de_var (pv 0)) (de_var (pv 1)) fun _ _ => rfl) (de_neg de_int) fun _ _ => rfl) (dg_tup (pg_tup rfl (dgs_cons (dg_name (i := 4) (pg_name (i := 4) sc.nd rfl (by first | exact Or.inl rfl | exact Or.inr rfl))) (dgs_cons (dg_name (i := 5) (pg_name (i := 5) sc.nd rfl (by first | exact Or.inl rfl | exact Or.inr rfl))) (dgs_cons (dg_name (i := 6) (pg_name (i := 6) sc.nd rfl (by first | exact Or.inl rfl | exact Or.inr rfl))) (dgs_cons (dg_name (i := 7) (pg_name (i := 7) sc.nd rfl (by first | exact Or.inl rfl | exact Or.inr rfl))) dgs_nil)))))))
  (dss_cons (ds_setLc (tgt_tup3 (by decide) (by decide) (by decide)) (ps_setLc (i := 8) rfl sc.nd rfl rfl rfl (di_list (de_rev (pe_revL (de_var (pv 3))))) (own := [("delay", 9), ("name", 10), ("there", 11)]) (BlkOk.mk (N := N_chain_to) (sc := defScope s_chain_to) rfl (by decide +kernel) (by decide +kernel) (by decide +kernel) (by decide +kernel)) (fun s H C cl fp => (pg_tup rfl (pgs_cons (pg_name (i := 9) sc.nd rfl (by first | exact Or.inl rfl | exact Or.inr rfl)) (pgs_cons (pg_name (i := 10) sc.nd rfl (by first | exact Or.inl rfl | exact Or.inr rfl)) (pgs_cons (pg_name (i := 11) sc.nd rfl (by first | exact Or.inl rfl | exact Or.inr rfl)) pgs_nil))))) (fun s H C cl fp => dts_nil) (fun s H C cl fp => (de_make h_Step_init rfl (hr.mono (lw_chain_to_Step_init)) rfl (len_cons (len_cons (len_cons len_nil))) (da_cons (de_var (pv 9)) (da_cons (de_var (pv 10)) (da_cons (de_var (pv 11)) da_nil)))))))
  (dss_one (ds_ret (de_tup (da_cons (de_make h_Situation_init rfl (hr.mono (lw_chain_to_Situation_init)) rfl (len_cons (len_cons (len_cons (len_cons len_nil)))) (da_cons (de_var (pv 4)) (da_cons (de_var (pv 5)) (da_cons (de_var (pv 6)) (da_cons (de_var (pv 7)) da_nil))))) (da_cons (de_callP (pe_callTy cd_tuple rfl G.b_tuple (by decide +kernel) (da_cons (de_var (pv 8)) da_nil))) da_nil)))))))))
end T
namespace T
open PySem PySem.Spec PyProof.Rows L2 Dm
/-! always_right -/
abbrev s_always_right : Stmt := topS 55
abbrev N_always_right : List Str := ["book", "word", "nodes", "wrong", "_", "situation", "steps", "node"]
abbrev P_always_right : List Str := ["book", "word"]
theorem sc_always_right : FnScope N_always_right P_always_right (defScope s_always_right) := ⟨rfl, rfl, rfl, by decide +kernel, rfl, by decide +kernel, by decide +kernel⟩
def b_always_right : SS := (seqS (dropS (callF F_check_chain_word (consA (vaS 1) nilA)))
  (seqS (asgS (callF F_explore (consA (vaS 0) (consA (vaS 1) (consA (cS (.bl false)) nilA)))) (tupG 3 (consG (nmG 2) (consG (nmG 3) (consG (nmG 4) nilG)))))
  (seqS (iffS (bS (bin2 isnNQ (vaS 3) (cS .non))) (seqS (asgS (callF F_chain_to (consA (vaS 2) (consA (bin2 ixQ (vaS 3) (cS (.int 0))) (consA (bin2 ixQ (vaS 3) (cS (.int 1))) nilA)))) (tupG 2 (consG (nmG 5) (consG (nmG 6) nilG))))
  (retS (mkF 4 F_WrongChain_init (consA (vaS 5) (consA (vaS 6) nilA))))) nxS)
  (retS (mkF 3 F_Closed_init (consA (callQ tupQ (consA (callQ srtLQ (consA (lcS [7] (itLS (vaS 2)) (nmG 7) yesT (callFd F_state_of [.int 10] (consA (bin2 ixQ (vaS 7) (cS (.int 0))) (consA (bin2 ixQ (vaS 7) (cS (.int 1))) nilA)))) nilA)) nilA)) nilA))))))
def F_always_right : FnD := defD 8 b_always_right
theorem lw_always_right_Closed_init : 2 ≤ 4 := by decide
theorem lw_always_right_WrongChain_init : 2 ≤ 4 := by decide
theorem lv_always_right_chain_to : 4 ≤ 4 := by decide
theorem lv_always_right_check_chain_word : 3 ≤ 4 := by decide
theorem lv_always_right_explore : 4 ≤ 4 := by decide
theorem lv_always_right_state_of : 2 ≤ 4 := by decide
theorem ok_always_right {P : Program} {w : World} {K : PySem.W.Frag} {mg : Str → Option Value} {base : Heap} (G : Gd P w K mg) (h_Closed_init : HasMk P w K mg base 1 3 1 F_Closed_init) (h_WrongChain_init : HasMk P w K mg base 1 4 2 F_WrongChain_init) (h_chain_to : HasFn P w K mg base 4 "chain_to" 3 F_chain_to) (h_check_chain_word : HasFn P w K mg base 3 "check_chain_word" 1 F_check_chain_word) (h_explore : HasFn P w K mg base 4 "explore" 3 F_explore) (h_state_of : HasFnD P w K mg base 2 "state_of" 2 F_state_of [.int 10]) {f : Addr} {fd : FuncData}
    (F : FunD K "always_right" "always_right" (defArgs s_always_right) (defBody s_always_right) (defScope s_always_right) [] [] f fd) : FnOk P w K mg base CX0 5 f fd P_always_right (spD ⟨P, w, K⟩ 2 F_always_right) :=
  d_fn F sc_always_right rfl fun cdv A outer s H E hr => by
    have sc := sc_always_right
    exact (dss_cons (ds_expr (de_call h_check_chain_word (hr.mono (lv_always_right_check_chain_word)) rfl (len_cons len_nil) (da_cons (de_var (pv 1)) da_nil)))
  (dss_cons (ds_asg (de_call h_explore (hr.mono (lv_always_right_explore)) rfl (len_cons (len_cons (len_cons len_nil))) (da_cons (de_var (pv 0)) (da_cons (de_var (pv 1)) (da_cons de_bl da_nil)))) (dg_tup (pg_tup rfl (dgs_cons (dg_name (i := 2) (pg_name (i := 2) sc.nd rfl (by first | exact Or.inl rfl | exact Or.inr rfl))) (dgs_cons (dg_name (i := 3) (pg_name (i := 3) sc.nd rfl (by first | exact Or.inl rfl | exact Or.inr rfl))) (dgs_cons (dg_name (i := 4) (pg_name (i := 4) sc.nd rfl (by first | exact Or.inl rfl | exact Or.inr rfl))) dgs_nil))))))
  (dss_cons (ds_if (dt_cmp opd_isnot (de_var (pv 3)) de_non (nomark _)) (dss_cons (ds_asg (de_call h_chain_to (hr.mono (lv_always_right_chain_to)) rfl (len_cons (len_cons (len_cons len_nil))) (da_cons (de_var (pv 2)) (da_cons (de_ix (de_var (pv 3)) de_int fun _ _ => rfl) (da_cons (de_ix (de_var (pv 3)) de_int fun _ _ => rfl) da_nil)))) (dg_tup (pg_tup rfl (dgs_cons (dg_name (i := 5) (pg_name (i := 5) sc.nd rfl (by first | exact Or.inl rfl | exact Or.inr rfl))) (dgs_cons (dg_name (i := 6) (pg_name (i := 6) sc.nd rfl (by first | exact Or.inl rfl | exact Or.inr rfl))) dgs_nil)))))
  (dss_one (ds_ret (de_make h_WrongChain_init rfl (hr.mono (lw_always_right_WrongChain_init)) rfl (len_cons (len_cons len_nil)) (da_cons (de_var (pv 5)) (da_cons (de_var (pv 6)) da_nil)))))) dss_nil)
  (dss_one (ds_ret (de_make h_Closed_init rfl (hr.mono (lw_always_right_Closed_init)) rfl (len_cons len_nil) (da_cons (de_callP (pe_callTy cd_tuple rfl G.b_tuple (by decide +kernel) (da_cons (de_callP (pe_callB (cd_sortL rfl (hu64 hr)) rfl G.b_sorted (by decide +kernel) (da_cons (de_lc (tgt_name (by decide)) (pe_lc rfl sc.nd (di_list (de_var (pv 2))) (own := [("node", 7)]) (BlkOk.mk (N := N_always_right) (sc := defScope s_always_right) rfl (by decide +kernel) (by decide +kernel) (by decide +kernel) (by decide +kernel)) (fun s H C cl fp => (pg_name (i := 7) sc.nd rfl (by first | exact Or.inl rfl | exact Or.inr rfl))) (fun s H C cl fp => dts_nil) (fun s H C cl fp => (de_calld h_state_of (hr.mono (lv_always_right_state_of)) rfl (len_cons (len_cons len_nil)) (da_cons (de_ix (de_var (pv 7)) de_int fun _ _ => rfl) (da_cons (de_ix (de_var (pv 7)) de_int fun _ _ => rfl) da_nil)))))) da_nil))) da_nil))) da_nil)))))))
end T
namespace T
open PySem PySem.Spec PyProof.Rows L2 Dm
/-! rules_reached -/
abbrev s_rules_reached : Stmt := topS 56
abbrev N_rules_reached : List Str := ["book", "word"]
abbrev P_rules_reached : List Str := ["book", "word"]
theorem sc_rules_reached : FnScope N_rules_reached P_rules_reached (defScope s_rules_reached) := ⟨rfl, rfl, rfl, by decide +kernel, rfl, by decide +kernel, by decide +kernel⟩
def b_rules_reached : SS := (seqS (dropS (callF F_check_chain_word (consA (vaS 1) nilA)))
  (retS (callQ tupQ (consA (bin2 ixQ (callF F_explore (consA (vaS 0) (consA (vaS 1) (consA (cS (.bl true)) nilA)))) (cS (.int 2))) nilA))))
def F_rules_reached : FnD := defD 2 b_rules_reached
theorem lv_rules_reached_check_chain_word : 3 ≤ 4 := by decide
theorem lv_rules_reached_explore : 4 ≤ 4 := by decide
theorem ok_rules_reached {P : Program} {w : World} {K : PySem.W.Frag} {mg : Str → Option Value} {base : Heap} (G : Gd P w K mg) (h_check_chain_word : HasFn P w K mg base 3 "check_chain_word" 1 F_check_chain_word) (h_explore : HasFn P w K mg base 4 "explore" 3 F_explore) {f : Addr} {fd : FuncData}
    (F : FunD K "rules_reached" "rules_reached" (defArgs s_rules_reached) (defBody s_rules_reached) (defScope s_rules_reached) [] [] f fd) : FnOk P w K mg base CX0 5 f fd P_rules_reached (spD ⟨P, w, K⟩ 2 F_rules_reached) :=
  d_fn F sc_rules_reached rfl fun cdv A outer s H E hr => by
    have sc := sc_rules_reached
    exact (dss_cons (ds_expr (de_call h_check_chain_word (hr.mono (lv_rules_reached_check_chain_word)) rfl (len_cons len_nil) (da_cons (de_var (pv 1)) da_nil)))
  (dss_one (ds_ret (de_callP (pe_callTy cd_tuple rfl G.b_tuple (by decide +kernel) (da_cons (de_ix (de_call h_explore (hr.mono (lv_rules_reached_explore)) rfl (len_cons (len_cons (len_cons len_nil))) (da_cons (de_var (pv 0)) (da_cons (de_var (pv 1)) (da_cons de_bl da_nil)))) de_int fun _ _ => rfl) da_nil))))))
end T
namespace T
open PySem PySem.Spec PyProof.Rows L2 Dm
/-! _law_hand -/
abbrev s__law_hand : Stmt := topS 58
abbrev N__law_hand : List Str := ["_law_script", "_law_total", "_law_cells", "_law_cell"]
abbrev P__law_hand : List Str := ["_law_script"]
theorem sc__law_hand : FnScope N__law_hand P__law_hand (defScope s__law_hand) := ⟨rfl, rfl, rfl, by decide +kernel, rfl, by decide +kernel, by decide +kernel⟩
def b__law_hand : SS := (seqS (setS 1 (bin2 addQ (callQ lenQ (consA (vaS 0) nilA)) (cS (.int 17))))
  (seqS (setS 2 (lstM nilA))
  (seqS (forS (itLS (vaS 0)) (nmG 3) (seqS (setS 1 (bin2 modQ (callQ intQ (consA (bin2 addQ (bin2 mulQ (vaS 1) (cS (.int 1009))) (callQ intQ (consA (vaS 3) nilA))) nilA)) (cS (.int 2147483629))))
  (dropS (appS (vaS 2) (ifS (bS (bin2 geQ (vaS 3) (cS (.int 0)))) (callQ intQ (consA (vaS 3) nilA)) (negS (callQ intQ (consA (vaS 3) nilA))))))))
  (retS (lstM (consA (frzS (vaS 2)) (consA (cS (.int 0)) (consA (cS (.int 0)) (consA (vaS 1) nilA)))))))))
def F__law_hand : FnD := defD 4 b__law_hand
theorem ok__law_hand {P : Program} {w : World} {K : PySem.W.Frag} {mg : Str → Option Value} {base : Heap} (G : Gd P w K mg)  {f : Addr} {fd : FuncData}
    (F : FunD K "_law_hand" "_law_hand" (defArgs s__law_hand) (defBody s__law_hand) (defScope s__law_hand) [] [] f fd) : FnOk P w K mg base CX0 1 f fd P__law_hand (spD ⟨P, w, K⟩ 1 F__law_hand) :=
  d_fn F sc__law_hand rfl fun cdv A outer s H E hr => by
    have sc := sc__law_hand
    exact (dss_cons (ds_set (ps_set (i := 1) sc.nd rfl (by first | exact Or.inl rfl | exact Or.inr rfl) (de_op opd_add (de_callP (pe_callB (cd_len) rfl G.b_len (by decide +kernel) (da_cons (de_var (pv 0)) da_nil))) de_int)))
  (dss_cons (ds_set (ps_set (i := 2) sc.nd rfl (by first | exact Or.inl rfl | exact Or.inr rfl) (de_lstM da_nil)))
  (dss_cons (ds_for PassesOwn.never rfl (di_list (de_var (pv 0))) (dg_name (i := 3) (pg_name (i := 3) sc.nd rfl (by first | exact Or.inl rfl | exact Or.inr rfl))) (dss_cons (ds_set (ps_set (i := 1) sc.nd rfl (by first | exact Or.inl rfl | exact Or.inr rfl) (de_op opd_mod (de_callP (pe_callTy cd_int rfl G.b_int (by decide +kernel) (da_cons (de_op opd_add (de_op opd_mul (de_var (pv 1)) de_int) (de_callP (pe_callTy cd_int rfl G.b_int (by decide +kernel) (da_cons (de_var (pv 3)) da_nil)))) da_nil))) de_int)))
  (dss_one (ds_expr (de_app (pe_bm PySem.F.plainAttrs_list PySem.F.slot_list_append PySem.F.type_list_append mt_append (de_var (pv 2)) (pa_cons (de_if (dt_cmp opd_ge (de_var (pv 3)) de_int (nomark _)) (de_callP (pe_callTy cd_int rfl G.b_int (by decide +kernel) (da_cons (de_var (pv 3)) da_nil))) (de_neg (de_callP (pe_callTy cd_int rfl G.b_int (by decide +kernel) (da_cons (de_var (pv 3)) da_nil))))) pa_nil)))))))
  (dss_one (ds_ret (de_lstM (da_cons (de_frz (de_var (pv 2))) (da_cons de_int (da_cons de_int (da_cons (de_var (pv 1)) da_nil))))))))))
end T
namespace T
open PySem PySem.Spec PyProof.Rows L2 Dm
/-! _law_mixed -/
abbrev s__law_mixed : Stmt := topS 59
abbrev N__law_mixed : List Str := ["_law_number", "_law_turn", "_law_once", "_law_twice"]
abbrev P__law_mixed : List Str := ["_law_number", "_law_turn"]
theorem sc__law_mixed : FnScope N__law_mixed P__law_mixed (defScope s__law_mixed) := ⟨rfl, rfl, rfl, by decide +kernel, rfl, by decide +kernel, by decide +kernel⟩
def b__law_mixed : SS := (seqS (setS 2 (bin2 modQ (callQ intQ (consA (bin2 addQ (bin2 addQ (bin2 mulQ (vaS 0) (cS (.int 48271))) (bin2 mulQ (vaS 1) (cS (.int 7919)))) (cS (.int 12345))) nilA)) (cS (.int 2147483647))))
  (seqS (setS 3 (bin2 modQ (callQ intQ (consA (bin2 addQ (bin2 addQ (bin2 mulQ (vaS 2) (vaS 2)) (bin2 mulQ (vaS 1) (cS (.int 104729)))) (bin2 divQ (vaS 2) (cS (.int 127)))) nilA)) (cS (.int 2147483629))))
  (retS (bin2 divQ (callQ intQ (consA (bin2 modQ (callQ intQ (consA (bin2 addQ (bin2 mulQ (vaS 3) (cS (.int 69621))) (bin2 divQ (vaS 2) (cS (.int 3)))) nilA)) (cS (.int 2147483587))) nilA)) (cS (.int 8))))))
def F__law_mixed : FnD := defD 4 b__law_mixed
theorem ok__law_mixed {P : Program} {w : World} {K : PySem.W.Frag} {mg : Str → Option Value} {base : Heap} (G : Gd P w K mg)  {f : Addr} {fd : FuncData}
    (F : FunD K "_law_mixed" "_law_mixed" (defArgs s__law_mixed) (defBody s__law_mixed) (defScope s__law_mixed) [] [] f fd) : FnOk P w K mg base CX0 1 f fd P__law_mixed (spD ⟨P, w, K⟩ 2 F__law_mixed) :=
  d_fn F sc__law_mixed rfl fun cdv A outer s H E hr => by
    have sc := sc__law_mixed
    exact (dss_cons (ds_set (ps_set (i := 2) sc.nd rfl (by first | exact Or.inl rfl | exact Or.inr rfl) (de_op opd_mod (de_callP (pe_callTy cd_int rfl G.b_int (by decide +kernel) (da_cons (de_op opd_add (de_op opd_add (de_op opd_mul (de_var (pv 0)) de_int) (de_op opd_mul (de_var (pv 1)) de_int)) de_int) da_nil))) de_int)))
  (dss_cons (ds_set (ps_set (i := 3) sc.nd rfl (by first | exact Or.inl rfl | exact Or.inr rfl) (de_op opd_mod (de_callP (pe_callTy cd_int rfl G.b_int (by decide +kernel) (da_cons (de_op opd_add (de_op opd_add (de_op opd_mul (de_var (pv 2)) (de_var (pv 2))) (de_op opd_mul (de_var (pv 1)) de_int)) (de_op opd_div (de_var (pv 2)) de_int)) da_nil))) de_int)))
  (dss_one (ds_ret (de_op opd_div (de_callP (pe_callTy cd_int rfl G.b_int (by decide +kernel) (da_cons (de_op opd_mod (de_callP (pe_callTy cd_int rfl G.b_int (by decide +kernel) (da_cons (de_op opd_add (de_op opd_mul (de_var (pv 3)) de_int) (de_op opd_div (de_var (pv 2)) de_int)) da_nil))) de_int) da_nil))) de_int)))))
end T
namespace T
open PySem PySem.Spec PyProof.Rows L2 Dm
/-! _law_take -/
abbrev s__law_take : Stmt := topS 60
abbrev N__law_take : List Str := ["_law_hand_here", "_law_many", "_law_cell", "_law_rest"]
abbrev P__law_take : List Str := ["_law_hand_here", "_law_many"]
theorem sc__law_take : FnScope N__law_take P__law_take (defScope s__law_take) := ⟨rfl, rfl, rfl, by decide +kernel, rfl, by decide +kernel, by decide +kernel⟩
def b__law_take : SS := (seqS (iffS (andT (bS (bin2 eqQ (bin2 ixQ (vaS 0) (cS (.int 2))) (cS (.int 0)))) (bS (bin2 ltQ (bin2 ixQ (vaS 0) (cS (.int 1))) (callQ lenQ (consA (bin2 ixQ (vaS 0) (cS (.int 0))) nilA))))) (seqS (setS 2 (bin2 ixQ (bin2 ixQ (vaS 0) (cS (.int 0))) (bin2 ixQ (vaS 0) (cS (.int 1)))))
  (seqS (stoS (vaS 0) (cS (.int 1)) (bin2 addQ (bin2 ixQ (vaS 0) (cS (.int 1))) (cS (.int 1))))
  (seqS (iffS (bS (bin2 ltQ (vaS 2) (bin2 powQ (cS (.int 10)) (cS (.int 18))))) (retS (bin2 modQ (callQ intQ (consA (callF F__law_mixed (consA (bin2 modQ (callQ intQ (consA (vaS 2) nilA)) (cS (.int 2147483647))) (consA (bin2 ixQ (vaS 0) (cS (.int 1))) nilA))) nilA)) (vaS 1))) nxS)
  (stoS (vaS 0) (cS (.int 2)) (vaS 2))))) nxS)
  (seqS (iffS (bS (bin2 gtQ (bin2 ixQ (vaS 0) (cS (.int 2))) (cS (.int 0)))) (seqS (setS 3 (bin2 ixQ (vaS 0) (cS (.int 2))))
  (seqS (stoS (vaS 0) (cS (.int 2)) (bin2 divQ (callQ intQ (consA (vaS 3) nilA)) (vaS 1)))
  (retS (bin2 modQ (callQ intQ (consA (vaS 3) nilA)) (vaS 1))))) nxS)
  (seqS (stoS (vaS 0) (cS (.int 3)) (bin2 modQ (callQ intQ (consA (bin2 addQ (bin2 ixQ (vaS 0) (cS (.int 3))) (cS (.int 1))) nilA)) (cS (.int 2147483629))))
  (retS (bin2 modQ (callQ intQ (consA (callF F__law_mixed (consA (bin2 ixQ (vaS 0) (cS (.int 3))) (consA (bin2 ixQ (vaS 0) (cS (.int 1))) nilA))) nilA)) (vaS 1))))))
def F__law_take : FnD := defD 4 b__law_take
theorem lv__law_take__law_mixed : 1 ≤ 1 := by decide
theorem ok__law_take {P : Program} {w : World} {K : PySem.W.Frag} {mg : Str → Option Value} {base : Heap} (G : Gd P w K mg) (h__law_mixed : HasFn P w K mg base 1 "_law_mixed" 2 F__law_mixed) {f : Addr} {fd : FuncData}
    (F : FunD K "_law_take" "_law_take" (defArgs s__law_take) (defBody s__law_take) (defScope s__law_take) [] [] f fd) : FnOk P w K mg base CX0 2 f fd P__law_take (spD ⟨P, w, K⟩ 2 F__law_take) :=
  d_fn F sc__law_take rfl fun cdv A outer s H E hr => by
    have sc := sc__law_take
    exact (dss_cons (ds_if (dw_t (dw_and (dt_cmp opd_eq (de_ix (de_var (pv 0)) de_int fun _ _ => rfl) de_int (nomark _)) (dw_and1 (dt_cmp opd_lt (de_ix (de_var (pv 0)) de_int fun _ _ => rfl) (de_callP (pe_callB (cd_len) rfl G.b_len (by decide +kernel) (da_cons (de_ix (de_var (pv 0)) de_int fun _ _ => rfl) da_nil))) (nomark _))))) (dss_cons (ds_set (ps_set (i := 2) sc.nd rfl (by first | exact Or.inl rfl | exact Or.inr rfl) (de_ix (de_ix (de_var (pv 0)) de_int fun _ _ => rfl) (de_ix (de_var (pv 0)) de_int fun _ _ => rfl) fun _ _ => rfl)))
  (dss_cons (ds_sto (ps_asg (de_op opd_add (de_ix (de_var (pv 0)) de_int fun _ _ => rfl) de_int) (pg_sub (de_var (pv 0)) de_int set_list)))
  (dss_cons (ds_if (dt_cmp opd_lt (de_var (pv 2)) (de_op opd_pow de_int de_int) (nomark _)) (dss_one (ds_ret (de_op opd_mod (de_callP (pe_callTy cd_int rfl G.b_int (by decide +kernel) (da_cons (de_call h__law_mixed (hr.mono (lv__law_take__law_mixed)) rfl (len_cons (len_cons len_nil)) (da_cons (de_op opd_mod (de_callP (pe_callTy cd_int rfl G.b_int (by decide +kernel) (da_cons (de_var (pv 2)) da_nil))) de_int) (da_cons (de_ix (de_var (pv 0)) de_int fun _ _ => rfl) da_nil))) da_nil))) (de_var (pv 1))))) dss_nil)
  (dss_one (ds_sto (ps_asg (de_var (pv 2)) (pg_sub (de_var (pv 0)) de_int set_list))))))) dss_nil)
  (dss_cons (ds_if (dt_cmp opd_gt (de_ix (de_var (pv 0)) de_int fun _ _ => rfl) de_int (nomark _)) (dss_cons (ds_set (ps_set (i := 3) sc.nd rfl (by first | exact Or.inl rfl | exact Or.inr rfl) (de_ix (de_var (pv 0)) de_int fun _ _ => rfl)))
  (dss_cons (ds_sto (ps_asg (de_op opd_div (de_callP (pe_callTy cd_int rfl G.b_int (by decide +kernel) (da_cons (de_var (pv 3)) da_nil))) (de_var (pv 1))) (pg_sub (de_var (pv 0)) de_int set_list)))
  (dss_one (ds_ret (de_op opd_mod (de_callP (pe_callTy cd_int rfl G.b_int (by decide +kernel) (da_cons (de_var (pv 3)) da_nil))) (de_var (pv 1))))))) dss_nil)
  (dss_cons (ds_sto (ps_asg (de_op opd_mod (de_callP (pe_callTy cd_int rfl G.b_int (by decide +kernel) (da_cons (de_op opd_add (de_ix (de_var (pv 0)) de_int fun _ _ => rfl) de_int) da_nil))) de_int) (pg_sub (de_var (pv 0)) de_int set_list)))
  (dss_one (ds_ret (de_op opd_mod (de_callP (pe_callTy cd_int rfl G.b_int (by decide +kernel) (da_cons (de_call h__law_mixed (hr.mono (lv__law_take__law_mixed)) rfl (len_cons (len_cons len_nil)) (da_cons (de_ix (de_var (pv 0)) de_int fun _ _ => rfl) (da_cons (de_ix (de_var (pv 0)) de_int fun _ _ => rfl) da_nil))) da_nil))) (de_var (pv 1))))))))
end T
namespace T
open PySem PySem.Spec PyProof.Rows L2 Dm
/-! _law_name -/
abbrev s__law_name : Stmt := topS 61
abbrev N__law_name : List Str := ["_law_hand_here", "_law_text", "_law_turn"]
abbrev P__law_name : List Str := ["_law_hand_here"]
theorem sc__law_name : FnScope N__law_name P__law_name (defScope s__law_name) := ⟨rfl, rfl, rfl, by decide +kernel, rfl, by decide +kernel, by decide +kernel⟩
def b__law_name : SS := (seqS (setS 1 (cS (.str "")))
  (seqS (forS (it1S (consA (bin2 addQ (cS (.int 1)) (callF F__law_take (consA (vaS 0) (consA (cS (.int 8)) nilA)))) nilA)) (nmG 2) (setS 1 (bin2 addQ (vaS 1) (bin2 ixQ (cS (.str "abcdefghijklmnopqrstuvwxyz")) (callF F__law_take (consA (vaS 0) (consA (cS (.int 26)) nilA)))))))
  (retS (vaS 1))))
def F__law_name : FnD := defD 3 b__law_name
theorem lv__law_name__law_take : 2 ≤ 2 := by decide
theorem ok__law_name {P : Program} {w : World} {K : PySem.W.Frag} {mg : Str → Option Value} {base : Heap} (G : Gd P w K mg) (h__law_take : HasFn P w K mg base 2 "_law_take" 2 F__law_take) {f : Addr} {fd : FuncData}
    (F : FunD K "_law_name" "_law_name" (defArgs s__law_name) (defBody s__law_name) (defScope s__law_name) [] [] f fd) : FnOk P w K mg base CX0 3 f fd P__law_name (spD ⟨P, w, K⟩ 1 F__law_name) :=
  d_fn F sc__law_name rfl fun cdv A outer s H E hr => by
    have sc := sc__law_name
    exact (dss_cons (ds_set (ps_set (i := 1) sc.nd rfl (by first | exact Or.inl rfl | exact Or.inr rfl) de_str))
  (dss_cons (ds_for PassesOwn.never rfl (di_range1 (pi_range1 rfl G.b_range (da_cons (de_op opd_add de_int (de_call h__law_take (hr.mono (lv__law_name__law_take)) rfl (len_cons (len_cons len_nil)) (da_cons (de_var (pv 0)) (da_cons de_int da_nil)))) da_nil))) (dg_name (i := 2) (pg_name (i := 2) sc.nd rfl (by first | exact Or.inl rfl | exact Or.inr rfl))) (dss_one (ds_set (ps_set (i := 1) sc.nd rfl (by first | exact Or.inl rfl | exact Or.inr rfl) (de_op opd_add (de_var (pv 1)) (de_ix de_str (de_call h__law_take (hr.mono (lv__law_name__law_take)) rfl (len_cons (len_cons len_nil)) (da_cons (de_var (pv 0)) (da_cons de_int da_nil))) fun _ _ => rfl))))))
  (dss_one (ds_ret (de_var (pv 1))))))
end T
namespace T
open PySem PySem.Spec PyProof.Rows L2 Dm
/-! _law_names -/
abbrev s__law_names : Stmt := topS 62
abbrev N__law_names : List Str := ["_law_hand_here", "_law_many", "_law_names_here", "_law_turn", "_law_name_here", "_law_near"]
abbrev P__law_names : List Str := ["_law_hand_here", "_law_many"]
theorem sc__law_names : FnScope N__law_names P__law_names (defScope s__law_names) := ⟨rfl, rfl, rfl, by decide +kernel, rfl, by decide +kernel, by decide +kernel⟩
def b__law_names : SS := (seqS (setS 2 (lstM nilA))
  (seqS (forS (it1S (consA (vaS 1) nilA)) (nmG 3) (seqS (setS 4 (callF F__law_name (consA (vaS 0) nilA)))
  (seqS (iffS (bS (bin2 inQ (vaS 4) (vaS 2))) (setS 4 (bin2 ixQ (lcS [5] (itLS (lstS (consA (cS (.str "q")) (consA (cS (.str "r")) (consA (cS (.str "s")) (consA (cS (.str "t")) nilA)))))) (nmG 5) (bS (bin2 ninQ (vaS 5) (vaS 2))) (vaS 5)) (cS (.int 0)))) nxS)
  (dropS (appS (vaS 2) (vaS 4))))))
  (retS (frzS (vaS 2)))))
def F__law_names : FnD := defD 6 b__law_names
theorem lv__law_names__law_name : 3 ≤ 3 := by decide
theorem ok__law_names {P : Program} {w : World} {K : PySem.W.Frag} {mg : Str → Option Value} {base : Heap} (G : Gd P w K mg) (h__law_name : HasFn P w K mg base 3 "_law_name" 1 F__law_name) {f : Addr} {fd : FuncData}
    (F : FunD K "_law_names" "_law_names" (defArgs s__law_names) (defBody s__law_names) (defScope s__law_names) [] [] f fd) : FnOk P w K mg base CX0 4 f fd P__law_names (spD ⟨P, w, K⟩ 2 F__law_names) :=
  d_fn F sc__law_names rfl fun cdv A outer s H E hr => by
    have sc := sc__law_names
    exact (dss_cons (ds_set (ps_set (i := 2) sc.nd rfl (by first | exact Or.inl rfl | exact Or.inr rfl) (de_lstM da_nil)))
  (dss_cons (ds_for PassesOwn.never rfl (di_range1 (pi_range1 rfl G.b_range (da_cons (de_var (pv 1)) da_nil))) (dg_name (i := 3) (pg_name (i := 3) sc.nd rfl (by first | exact Or.inl rfl | exact Or.inr rfl))) (dss_cons (ds_set (ps_set (i := 4) sc.nd rfl (by first | exact Or.inl rfl | exact Or.inr rfl) (de_call h__law_name (hr.mono (lv__law_names__law_name)) rfl (len_cons len_nil) (da_cons (de_var (pv 0)) da_nil))))
  (dss_cons (ds_if (dt_cmp opd_in (de_var (pv 4)) (de_var (pv 2)) (by with_unfolding_all rfl)) (dss_one (ds_set (ps_set (i := 4) sc.nd rfl (by first | exact Or.inl rfl | exact Or.inr rfl) (de_ix (de_lc (tgt_name (by decide)) (pe_lc rfl sc.nd (di_list (de_lst (da_cons de_str (da_cons de_str (da_cons de_str (da_cons de_str da_nil)))))) (own := [("_law_near", 5)]) (BlkOk.mk (N := N__law_names) (sc := defScope s__law_names) rfl (by decide +kernel) (by decide +kernel) (by decide +kernel) (by decide +kernel)) (fun s H C cl fp => (pg_name (i := 5) sc.nd rfl (by first | exact Or.inl rfl | exact Or.inr rfl))) (fun s H C cl fp => (dts_one (dt_cmp opd_notin (de_var (pv 5)) (de_var (pv 2)) (by with_unfolding_all rfl)))) (fun s H C cl fp => (de_var (pv 5))))) de_int fun _ _ => rfl)))) dss_nil)
  (dss_one (ds_expr (de_app (pe_bm PySem.F.plainAttrs_list PySem.F.slot_list_append PySem.F.type_list_append mt_append (de_var (pv 2)) (pa_cons (de_var (pv 4)) pa_nil))))))))
  (dss_one (ds_ret (de_frz (de_var (pv 2)))))))
end T
namespace T
open PySem PySem.Spec PyProof.Rows L2 Dm
/-! _law_world -/
abbrev s__law_world : Stmt := topS 63
abbrev N__law_world : List Str := ["_law_hand_here"]
abbrev P__law_world : List Str := ["_law_hand_here"]
theorem sc__law_world : FnScope N__law_world P__law_world (defScope s__law_world) := ⟨rfl, rfl, rfl, by decide +kernel, rfl, by decide +kernel, by decide +kernel⟩
def b__law_world : SS := (retS (lstS (consA (callF F__law_names (consA (vaS 0) (consA (cS (.int 3)) nilA))) (consA (callF F__law_names (consA (vaS 0) (consA (cS (.int 2)) nilA))) nilA))))
def F__law_world : FnD := defD 1 b__law_world
theorem lv__law_world__law_names : 4 ≤ 4 := by decide
theorem ok__law_world {P : Program} {w : World} {K : PySem.W.Frag} {mg : Str → Option Value} {base : Heap} (G : Gd P w K mg) (h__law_names : HasFn P w K mg base 4 "_law_names" 2 F__law_names) {f : Addr} {fd : FuncData}
    (F : FunD K "_law_world" "_law_world" (defArgs s__law_world) (defBody s__law_world) (defScope s__law_world) [] [] f fd) : FnOk P w K mg base CX0 5 f fd P__law_world (spD ⟨P, w, K⟩ 1 F__law_world) :=
  d_fn F sc__law_world rfl fun cdv A outer s H E hr => by
    have sc := sc__law_world
    exact (dss_one (ds_ret (de_lst (da_cons (de_call h__law_names (hr.mono (lv__law_world__law_names)) rfl (len_cons (len_cons len_nil)) (da_cons (de_var (pv 0)) (da_cons de_int da_nil))) (da_cons (de_call h__law_names (hr.mono (lv__law_world__law_names)) rfl (len_cons (len_cons len_nil)) (da_cons (de_var (pv 0)) (da_cons de_int da_nil))) da_nil)))))
end T
namespace T
open PySem PySem.Spec PyProof.Rows L2 Dm
/-! _law_date -/
abbrev s__law_date : Stmt := topS 64
abbrev N__law_date : List Str := ["_law_hand_here"]
abbrev P__law_date : List Str := ["_law_hand_here"]
theorem sc__law_date : FnScope N__law_date P__law_date (defScope s__law_date) := ⟨rfl, rfl, rfl, by decide +kernel, rfl, by decide +kernel, by decide +kernel⟩
def b__law_date : SS := (retS (ifS (bS (bin2 eqQ (callF F__law_take (consA (vaS 0) (consA (cS (.int 8)) nilA))) (cS (.int 0)))) (bin2 subQ (callF F__law_take (consA (vaS 0) (consA (bin2 mulQ (cS (.int 2)) (bin2 powQ (cS (.int 10)) (cS (.int 12)))) nilA))) (bin2 powQ (cS (.int 10)) (cS (.int 12)))) (bin2 subQ (callF F__law_take (consA (vaS 0) (consA (cS (.int 17)) nilA))) (cS (.int 3)))))
def F__law_date : FnD := defD 1 b__law_date
theorem lv__law_date__law_take : 2 ≤ 2 := by decide
theorem ok__law_date {P : Program} {w : World} {K : PySem.W.Frag} {mg : Str → Option Value} {base : Heap} (G : Gd P w K mg) (h__law_take : HasFn P w K mg base 2 "_law_take" 2 F__law_take) {f : Addr} {fd : FuncData}
    (F : FunD K "_law_date" "_law_date" (defArgs s__law_date) (defBody s__law_date) (defScope s__law_date) [] [] f fd) : FnOk P w K mg base CX0 3 f fd P__law_date (spD ⟨P, w, K⟩ 1 F__law_date) :=
  d_fn F sc__law_date rfl fun cdv A outer s H E hr => by
    have sc := sc__law_date
    exact (dss_one (ds_ret (de_if (dt_cmp opd_eq (de_call h__law_take (hr.mono (lv__law_date__law_take)) rfl (len_cons (len_cons len_nil)) (da_cons (de_var (pv 0)) (da_cons de_int da_nil))) de_int (nomark _)) (de_op opd_sub (de_call h__law_take (hr.mono (lv__law_date__law_take)) rfl (len_cons (len_cons len_nil)) (da_cons (de_var (pv 0)) (da_cons (de_op opd_mul de_int (de_op opd_pow de_int de_int)) da_nil))) (de_op opd_pow de_int de_int)) (de_op opd_sub (de_call h__law_take (hr.mono (lv__law_date__law_take)) rfl (len_cons (len_cons len_nil)) (da_cons (de_var (pv 0)) (da_cons de_int da_nil))) de_int))))
end T
namespace T
open PySem PySem.Spec PyProof.Rows L2 Dm
/-! _law_whole -/
abbrev s__law_whole : Stmt := topS 68
abbrev N__law_whole : List Str := ["_law_thing"]
abbrev P__law_whole : List Str := ["_law_thing"]
theorem sc__law_whole : FnScope N__law_whole P__law_whole (defScope s__law_whole) := ⟨rfl, rfl, rfl, by decide +kernel, rfl, by decide +kernel, by decide +kernel⟩
def b__law_whole : SS := (retS (andV (isiS .int (vaS 0)) (notV (isiS .bool (vaS 0)))))
def F__law_whole : FnD := defD 1 b__law_whole
theorem ok__law_whole {P : Program} {w : World} {K : PySem.W.Frag} {mg : Str → Option Value} {base : Heap} (G : Gd P w K mg)  {f : Addr} {fd : FuncData}
    (F : FunD K "_law_whole" "_law_whole" (defArgs s__law_whole) (defBody s__law_whole) (defScope s__law_whole) [] [] f fd) : FnOk P w K mg base CX0 1 f fd P__law_whole (spD ⟨P, w, K⟩ 1 F__law_whole) :=
  d_fn F sc__law_whole rfl fun cdv A outer s H E hr => by
    have sc := sc__law_whole
    exact (dss_one (ds_ret (de_and (de_isi (t := .int) (pe_callB (call_isiD G.O .int) rfl G.b_isinstance (by decide +kernel) (pa_cons (de_var (pv 0)) (pa_cons (pe_bltn rfl G.b_int (by decide +kernel) rfl) pa_nil)))) (de_one (de_not (de_isi (t := .bool) (pe_callB (call_isiD G.O .bool) rfl G.b_isinstance (by decide +kernel) (pa_cons (de_var (pv 0)) (pa_cons (pe_bltn rfl G.b_bool (by decide +kernel) rfl) pa_nil)))))))))
end T
namespace T
open PySem PySem.Spec PyProof.Rows L2 Dm
/-! _law_span -/
abbrev s__law_span : Stmt := topS 69
abbrev N__law_span : List Str := ["_law_hand_here", "_law_low", "_law_high", "_law_one"]
abbrev P__law_span : List Str := ["_law_hand_here", "_law_low", "_law_high"]
theorem sc__law_span : FnScope N__law_span P__law_span (defScope s__law_span) := ⟨rfl, rfl, rfl, by decide +kernel, rfl, by decide +kernel, by decide +kernel⟩
def b__law_span : SS := (seqS (setS 3 (bin2 addQ (vaS 1) (callF F__law_take (consA (vaS 0) (consA (bin2 addQ (bin2 subQ (vaS 2) (vaS 1)) (cS (.int 1))) nilA)))))
  (retS (tupS (consA (vaS 3) (consA (bin2 addQ (vaS 3) (callF F__law_take (consA (vaS 0) (consA (bin2 addQ (bin2 subQ (vaS 2) (vaS 3)) (cS (.int 1))) nilA)))) nilA)))))
def F__law_span : FnD := defD 4 b__law_span
theorem lv__law_span__law_take : 2 ≤ 2 := by decide
theorem ok__law_span {P : Program} {w : World} {K : PySem.W.Frag} {mg : Str → Option Value} {base : Heap} (G : Gd P w K mg) (h__law_take : HasFn P w K mg base 2 "_law_take" 2 F__law_take) {f : Addr} {fd : FuncData}
    (F : FunD K "_law_span" "_law_span" (defArgs s__law_span) (defBody s__law_span) (defScope s__law_span) [] [] f fd) : FnOk P w K mg base CX0 3 f fd P__law_span (spD ⟨P, w, K⟩ 3 F__law_span) :=
  d_fn F sc__law_span rfl fun cdv A outer s H E hr => by
    have sc := sc__law_span
    exact (dss_cons (ds_set (ps_set (i := 3) sc.nd rfl (by first | exact Or.inl rfl | exact Or.inr rfl) (de_op opd_add (de_var (pv 1)) (de_call h__law_take (hr.mono (lv__law_span__law_take)) rfl (len_cons (len_cons len_nil)) (da_cons (de_var (pv 0)) (da_cons (de_op opd_add (de_op opd_sub (de_var (pv 2)) (de_var (pv 1))) de_int) da_nil))))))
  (dss_one (ds_ret (de_tup (da_cons (de_var (pv 3)) (da_cons (de_op opd_add (de_var (pv 3)) (de_call h__law_take (hr.mono (lv__law_span__law_take)) rfl (len_cons (len_cons len_nil)) (da_cons (de_var (pv 0)) (da_cons (de_op opd_add (de_op opd_sub (de_var (pv 2)) (de_var (pv 3))) de_int) da_nil)))) da_nil))))))
end T
namespace T
open PySem PySem.Spec PyProof.Rows L2 Dm
/-! _law_reach -/
abbrev s__law_reach : Stmt := topS 70
abbrev N__law_reach : List Str := ["_law_hand_here"]
abbrev P__law_reach : List Str := ["_law_hand_here"]
theorem sc__law_reach : FnScope N__law_reach P__law_reach (defScope s__law_reach) := ⟨rfl, rfl, rfl, by decide +kernel, rfl, by decide +kernel, by decide +kernel⟩
def b__law_reach : SS := (retS (ifS (bS (bin2 eqQ (callF F__law_take (consA (vaS 0) (consA (cS (.int 2)) nilA))) (cS (.int 0)))) (tupS (consA (negS (cS (.int 9))) (consA (cS (.int 9)) nilA))) (callF F__law_span (consA (vaS 0) (consA (negS (cS (.int 9))) (consA (cS (.int 9)) nilA))))))
def F__law_reach : FnD := defD 1 b__law_reach
theorem lv__law_reach__law_span : 3 ≤ 3 := by decide
theorem lv__law_reach__law_take : 2 ≤ 3 := by decide
theorem ok__law_reach {P : Program} {w : World} {K : PySem.W.Frag} {mg : Str → Option Value} {base : Heap} (G : Gd P w K mg) (h__law_span : HasFn P w K mg base 3 "_law_span" 3 F__law_span) (h__law_take : HasFn P w K mg base 2 "_law_take" 2 F__law_take) {f : Addr} {fd : FuncData}
    (F : FunD K "_law_reach" "_law_reach" (defArgs s__law_reach) (defBody s__law_reach) (defScope s__law_reach) [] [] f fd) : FnOk P w K mg base CX0 4 f fd P__law_reach (spD ⟨P, w, K⟩ 1 F__law_reach) :=
  d_fn F sc__law_reach rfl fun cdv A outer s H E hr => by
    have sc := sc__law_reach
    exact (dss_one (ds_ret (de_if (dt_cmp opd_eq (de_call h__law_take (hr.mono (lv__law_reach__law_take)) rfl (len_cons (len_cons len_nil)) (da_cons (de_var (pv 0)) (da_cons de_int da_nil))) de_int (nomark _)) (de_tup (da_cons (de_neg de_int) (da_cons de_int da_nil))) (de_call h__law_span (hr.mono (lv__law_reach__law_span)) rfl (len_cons (len_cons (len_cons len_nil))) (da_cons (de_var (pv 0)) (da_cons (de_neg de_int) (da_cons de_int da_nil)))))))
end T
namespace T
open PySem PySem.Spec PyProof.Rows L2 Dm
/-! _law_any_rule -/
abbrev s__law_any_rule : Stmt := topS 71
abbrev N__law_any_rule : List Str := ["_law_hand_here", "_law_sort", "_law_low", "_law_high", "_law_least", "_law_most", "_law_way", "_law_action"]
abbrev P__law_any_rule : List Str := ["_law_hand_here", "_law_sort"]
theorem sc__law_any_rule : FnScope N__law_any_rule P__law_any_rule (defScope s__law_any_rule) := ⟨rfl, rfl, rfl, by decide +kernel, rfl, by decide +kernel, by decide +kernel⟩
def b__law_any_rule : SS := (seqS (asgS (callF F__law_reach (consA (vaS 0) nilA)) (tupG 2 (consG (nmG 2) (consG (nmG 3) nilG))))
  (seqS (asgS (ifS (trS (callF F__law_take (consA (vaS 0) (consA (cS (.int 2)) nilA)))) (callF F__law_span (consA (vaS 0) (consA (cS (.int 0)) (consA (cS (.int 9)) nilA)))) (callF F__law_span (consA (vaS 0) (consA (cS (.int 0)) (consA (cS (.int 2)) nilA))))) (tupG 2 (consG (nmG 4) (consG (nmG 5) nilG))))
  (seqS (setS 6 (callF F__law_take (consA (vaS 0) (consA (cS (.int 7)) nilA))))
  (seqS (setS 7 (ifS (bS (bin2 eqQ (vaS 6) (cS (.int 6)))) (callF F__law_take (consA (vaS 0) (consA (cS (.int 10)) nilA))) (bin2 ixQ (lstS (consA (cS (.str "keep")) (consA (cS (.str "move")) (consA (cS (.str "date")) (consA (cS (.str "coming")) (consA (cS (.str "last")) (consA (cS (.str "weekday")) nilA))))))) (vaS 6))))
  (retS (tupS (consA (vaS 1) (consA (vaS 2) (consA (vaS 3) (consA (vaS 4) (consA (ifS (bS (bin2 eqQ (callF F__law_take (consA (vaS 0) (consA (cS (.int 2)) nilA))) (cS (.int 0)))) (cS .non) (vaS 5)) (consA (vaS 7) nilA))))))))))))
def F__law_any_rule : FnD := defD 8 b__law_any_rule
theorem lv__law_any_rule__law_reach : 4 ≤ 4 := by decide
theorem lv__law_any_rule__law_span : 3 ≤ 4 := by decide
theorem lv__law_any_rule__law_take : 2 ≤ 4 := by decide
theorem ok__law_any_rule {P : Program} {w : World} {K : PySem.W.Frag} {mg : Str → Option Value} {base : Heap} (G : Gd P w K mg) (h__law_reach : HasFn P w K mg base 4 "_law_reach" 1 F__law_reach) (h__law_span : HasFn P w K mg base 3 "_law_span" 3 F__law_span) (h__law_take : HasFn P w K mg base 2 "_law_take" 2 F__law_take) {f : Addr} {fd : FuncData}
    (F : FunD K "_law_any_rule" "_law_any_rule" (defArgs s__law_any_rule) (defBody s__law_any_rule) (defScope s__law_any_rule) [] [] f fd) : FnOk P w K mg base CX0 5 f fd P__law_any_rule (spD ⟨P, w, K⟩ 2 F__law_any_rule) :=
  d_fn F sc__law_any_rule rfl fun cdv A outer s H E hr => by
    have sc := sc__law_any_rule
    exact (dss_cons (ds_asg (de_call h__law_reach (hr.mono (lv__law_any_rule__law_reach)) rfl (len_cons len_nil) (da_cons (de_var (pv 0)) da_nil)) (dg_tup (pg_tup rfl (dgs_cons (dg_name (i := 2) (pg_name (i := 2) sc.nd rfl (by first | exact Or.inl rfl | exact Or.inr rfl))) (dgs_cons (dg_name (i := 3) (pg_name (i := 3) sc.nd rfl (by first | exact Or.inl rfl | exact Or.inr rfl))) dgs_nil)))))
  (dss_cons (ds_asg (de_if (dt_truth (de_call h__law_take (hr.mono (lv__law_any_rule__law_take)) rfl (len_cons (len_cons len_nil)) (da_cons (de_var (pv 0)) (da_cons de_int da_nil))) fun _ => rfl) (de_call h__law_span (hr.mono (lv__law_any_rule__law_span)) rfl (len_cons (len_cons (len_cons len_nil))) (da_cons (de_var (pv 0)) (da_cons de_int (da_cons de_int da_nil)))) (de_call h__law_span (hr.mono (lv__law_any_rule__law_span)) rfl (len_cons (len_cons (len_cons len_nil))) (da_cons (de_var (pv 0)) (da_cons de_int (da_cons de_int da_nil))))) (dg_tup (pg_tup rfl (dgs_cons (dg_name (i := 4) (pg_name (i := 4) sc.nd rfl (by first | exact Or.inl rfl | exact Or.inr rfl))) (dgs_cons (dg_name (i := 5) (pg_name (i := 5) sc.nd rfl (by first | exact Or.inl rfl | exact Or.inr rfl))) dgs_nil)))))
  (dss_cons (ds_set (ps_set (i := 6) sc.nd rfl (by first | exact Or.inl rfl | exact Or.inr rfl) (de_call h__law_take (hr.mono (lv__law_any_rule__law_take)) rfl (len_cons (len_cons len_nil)) (da_cons (de_var (pv 0)) (da_cons de_int da_nil)))))
  (dss_cons (ds_set (ps_set (i := 7) sc.nd rfl (by first | exact Or.inl rfl | exact Or.inr rfl) (de_if (dt_cmp opd_eq (de_var (pv 6)) de_int (nomark _)) (de_call h__law_take (hr.mono (lv__law_any_rule__law_take)) rfl (len_cons (len_cons len_nil)) (da_cons (de_var (pv 0)) (da_cons de_int da_nil))) (de_ix (de_lst (da_cons de_str (da_cons de_str (da_cons de_str (da_cons de_str (da_cons de_str (da_cons de_str da_nil))))))) (de_var (pv 6)) fun _ _ => rfl))))
  (dss_one (ds_ret (de_tup (da_cons (de_var (pv 1)) (da_cons (de_var (pv 2)) (da_cons (de_var (pv 3)) (da_cons (de_var (pv 4)) (da_cons (de_if (dt_cmp opd_eq (de_call h__law_take (hr.mono (lv__law_any_rule__law_take)) rfl (len_cons (len_cons len_nil)) (da_cons (de_var (pv 0)) (da_cons de_int da_nil))) de_int (nomark _)) de_non (de_var (pv 5))) (da_cons (de_var (pv 7)) da_nil)))))))))))))
end T
namespace T
open PySem PySem.Spec PyProof.Rows L2 Dm
/-! _law_kept_rule -/
abbrev s__law_kept_rule : Stmt := topS 72
abbrev N__law_kept_rule : List Str := ["_law_hand_here", "_law_sort", "_law_low", "_law_most", "_law_high"]
abbrev P__law_kept_rule : List Str := ["_law_hand_here", "_law_sort"]
theorem sc__law_kept_rule : FnScope N__law_kept_rule P__law_kept_rule (defScope s__law_kept_rule) := ⟨rfl, rfl, rfl, by decide +kernel, rfl, by decide +kernel, by decide +kernel⟩
def b__law_kept_rule : SS := (seqS (iffS (bS (bin2 eqQ (vaS 1) (cS (.str "coming")))) (seqS (setS 2 (bin2 addQ (cS (.int 1)) (callF F__law_take (consA (vaS 0) (consA (cS (.int 7)) nilA)))))
  (seqS (setS 3 (callF F__law_take (consA (vaS 0) (consA (vaS 2) nilA))))
  (retS (tupS (consA (vaS 1) (consA (vaS 2) (consA (bin2 addQ (vaS 2) (callF F__law_take (consA (vaS 0) (consA (bin2 subQ (cS (.int 8)) (vaS 2)) nilA)))) (consA (callF F__law_take (consA (vaS 0) (consA (bin2 addQ (vaS 3) (cS (.int 1))) nilA))) (consA (vaS 3) (consA (cS (.str "keep")) nilA)))))))))) nxS)
  (seqS (iffS (bS (bin2 eqQ (vaS 1) (cS (.str "last")))) (seqS (setS 2 (bin2 subQ (callF F__law_take (consA (vaS 0) (consA (cS (.int 7)) nilA))) (cS (.int 7))))
  (seqS (setS 3 (callF F__law_take (consA (vaS 0) (consA (bin2 addQ (vaS 2) (cS (.int 8))) nilA))))
  (retS (tupS (consA (vaS 1) (consA (vaS 2) (consA (bin2 addQ (vaS 2) (callF F__law_take (consA (vaS 0) (consA (negS (vaS 2)) nilA)))) (consA (callF F__law_take (consA (vaS 0) (consA (bin2 addQ (vaS 3) (cS (.int 1))) nilA))) (consA (vaS 3) (consA (cS (.str "keep")) nilA)))))))))) nxS)
  (seqS (asgS (callF F__law_reach (consA (vaS 0) nilA)) (tupG 2 (consG (nmG 2) (consG (nmG 4) nilG))))
  (retS (ifS (bS (bin2 eqQ (vaS 1) (cS (.str "today")))) (tupS (consA (vaS 1) (consA (vaS 2) (consA (vaS 4) (consA (cS (.int 0)) (consA (cS (.int 0)) (consA (cS (.str "keep")) nilA))))))) (tupS (consA (vaS 1) (consA (vaS 2) (consA (vaS 4) (consA (callF F__law_take (consA (vaS 0) (consA (cS (.int 3)) nilA))) (consA (cS .non) (consA (cS (.str "keep")) nilA))))))))))))
def F__law_kept_rule : FnD := defD 5 b__law_kept_rule
theorem lv__law_kept_rule__law_reach : 4 ≤ 4 := by decide
theorem lv__law_kept_rule__law_take : 2 ≤ 4 := by decide
theorem ok__law_kept_rule {P : Program} {w : World} {K : PySem.W.Frag} {mg : Str → Option Value} {base : Heap} (G : Gd P w K mg) (h__law_reach : HasFn P w K mg base 4 "_law_reach" 1 F__law_reach) (h__law_take : HasFn P w K mg base 2 "_law_take" 2 F__law_take) {f : Addr} {fd : FuncData}
    (F : FunD K "_law_kept_rule" "_law_kept_rule" (defArgs s__law_kept_rule) (defBody s__law_kept_rule) (defScope s__law_kept_rule) [] [] f fd) : FnOk P w K mg base CX0 5 f fd P__law_kept_rule (spD ⟨P, w, K⟩ 2 F__law_kept_rule) :=
  d_fn F sc__law_kept_rule rfl fun cdv A outer s H E hr => by
    have sc := sc__law_kept_rule
    exact (dss_cons (ds_if (dt_cmp opd_eq (de_var (pv 1)) de_str (nomark _)) (dss_cons (ds_set (ps_set (i := 2) sc.nd rfl (by first | exact Or.inl rfl | exact Or.inr rfl) (de_op opd_add de_int (de_call h__law_take (hr.mono (lv__law_kept_rule__law_take)) rfl (len_cons (len_cons len_nil)) (da_cons (de_var (pv 0)) (da_cons de_int da_nil))))))
  (dss_cons (ds_set (ps_set (i := 3) sc.nd rfl (by first | exact Or.inl rfl | exact Or.inr rfl) (de_call h__law_take (hr.mono (lv__law_kept_rule__law_take)) rfl (len_cons (len_cons len_nil)) (da_cons (de_var (pv 0)) (da_cons (de_var (pv 2)) da_nil)))))
  (dss_one (ds_ret (de_tup (da_cons (de_var (pv 1)) (da_cons (de_var (pv 2)) (da_cons (de_op opd_add (de_var (pv 2)) (de_call h__law_take (hr.mono (lv__law_kept_rule__law_take)) rfl (len_cons (len_cons len_nil)) (da_cons (de_var (pv 0)) (da_cons (de_op opd_sub de_int (de_var (pv 2))) da_nil)))) (da_cons (de_call h__law_take (hr.mono (lv__law_kept_rule__law_take)) rfl (len_cons (len_cons len_nil)) (da_cons (de_var (pv 0)) (da_cons (de_op opd_add (de_var (pv 3)) de_int) da_nil))) (da_cons (de_var (pv 3)) (da_cons de_str da_nil))))))))))) dss_nil)
  (dss_cons (ds_if (dt_cmp opd_eq (de_var (pv 1)) de_str (nomark _)) (dss_cons (ds_set (ps_set (i := 2) sc.nd rfl (by first | exact Or.inl rfl | exact Or.inr rfl) (de_op opd_sub (de_call h__law_take (hr.mono (lv__law_kept_rule__law_take)) rfl (len_cons (len_cons len_nil)) (da_cons (de_var (pv 0)) (da_cons de_int da_nil))) de_int)))
  (dss_cons (ds_set (ps_set (i := 3) sc.nd rfl (by first | exact Or.inl rfl | exact Or.inr rfl) (de_call h__law_take (hr.mono (lv__law_kept_rule__law_take)) rfl (len_cons (len_cons len_nil)) (da_cons (de_var (pv 0)) (da_cons (de_op opd_add (de_var (pv 2)) de_int) da_nil)))))
  (dss_one (ds_ret (de_tup (da_cons (de_var (pv 1)) (da_cons (de_var (pv 2)) (da_cons (de_op opd_add (de_var (pv 2)) (de_call h__law_take (hr.mono (lv__law_kept_rule__law_take)) rfl (len_cons (len_cons len_nil)) (da_cons (de_var (pv 0)) (da_cons (de_neg (de_var (pv 2))) da_nil)))) (da_cons (de_call h__law_take (hr.mono (lv__law_kept_rule__law_take)) rfl (len_cons (len_cons len_nil)) (da_cons (de_var (pv 0)) (da_cons (de_op opd_add (de_var (pv 3)) de_int) da_nil))) (da_cons (de_var (pv 3)) (da_cons de_str da_nil))))))))))) dss_nil)
  (dss_cons (ds_asg (de_call h__law_reach (hr.mono (lv__law_kept_rule__law_reach)) rfl (len_cons len_nil) (da_cons (de_var (pv 0)) da_nil)) (dg_tup (pg_tup rfl (dgs_cons (dg_name (i := 2) (pg_name (i := 2) sc.nd rfl (by first | exact Or.inl rfl | exact Or.inr rfl))) (dgs_cons (dg_name (i := 4) (pg_name (i := 4) sc.nd rfl (by first | exact Or.inl rfl | exact Or.inr rfl))) dgs_nil)))))
  (dss_one (ds_ret (de_if (dt_cmp opd_eq (de_var (pv 1)) de_str (nomark _)) (de_tup (da_cons (de_var (pv 1)) (da_cons (de_var (pv 2)) (da_cons (de_var (pv 4)) (da_cons de_int (da_cons de_int (da_cons de_str da_nil))))))) (de_tup (da_cons (de_var (pv 1)) (da_cons (de_var (pv 2)) (da_cons (de_var (pv 4)) (da_cons (de_call h__law_take (hr.mono (lv__law_kept_rule__law_take)) rfl (len_cons (len_cons len_nil)) (da_cons (de_var (pv 0)) (da_cons de_int da_nil))) (da_cons de_non (da_cons de_str da_nil)))))))))))))
end T
namespace T
open PySem PySem.Spec PyProof.Rows L2 Dm
/-! _law_weekday_rule -/
abbrev s__law_weekday_rule : Stmt := topS 73
abbrev N__law_weekday_rule : List Str := ["_law_hand_here", "_law_sort", "_law_action", "_law_least", "_law_most", "_law_top", "_law_low"]
abbrev P__law_weekday_rule : List Str := ["_law_hand_here", "_law_sort", "_law_action"]
theorem sc__law_weekday_rule : FnScope N__law_weekday_rule P__law_weekday_rule (defScope s__law_weekday_rule) := ⟨rfl, rfl, rfl, by decide +kernel, rfl, by decide +kernel, by decide +kernel⟩
def b__law_weekday_rule : SS := (seqS (setS 3 (callF F__law_take (consA (vaS 0) (consA (cS (.int 4)) nilA))))
  (seqS (setS 4 (bin2 addQ (vaS 3) (callF F__law_take (consA (vaS 0) (consA (cS (.int 3)) nilA)))))
  (seqS (iffS (bS (bin2 eqQ (vaS 2) (cS (.str "coming")))) (seqS (setS 5 (callQ minQ (consA (cS (.int 9)) (consA (bin2 addQ (cS (.int 7)) (vaS 3)) nilA))))
  (seqS (setS 6 (bin2 addQ (bin2 addQ (cS (.int 1)) (vaS 4)) (callF F__law_take (consA (vaS 0) (consA (bin2 subQ (vaS 5) (vaS 4)) nilA)))))
  (retS (tupS (consA (vaS 1) (consA (vaS 6) (consA (bin2 addQ (vaS 6) (callF F__law_take (consA (vaS 0) (consA (bin2 addQ (bin2 subQ (vaS 5) (vaS 6)) (cS (.int 1))) nilA)))) (consA (vaS 3) (consA (vaS 4) (consA (vaS 2) nilA)))))))))) nxS)
  (seqS (setS 6 (bin2 addQ (bin2 subQ (vaS 4) (cS (.int 7))) (callF F__law_take (consA (vaS 0) (consA (bin2 addQ (bin2 subQ (vaS 3) (vaS 4)) (cS (.int 7))) nilA)))))
  (retS (tupS (consA (vaS 1) (consA (vaS 6) (consA (bin2 addQ (vaS 6) (callF F__law_take (consA (vaS 0) (consA (bin2 subQ (vaS 3) (vaS 6)) nilA)))) (consA (vaS 3) (consA (vaS 4) (consA (vaS 2) nilA))))))))))))
def F__law_weekday_rule : FnD := defD 7 b__law_weekday_rule
theorem lv__law_weekday_rule__law_take : 2 ≤ 2 := by decide
theorem ok__law_weekday_rule {P : Program} {w : World} {K : PySem.W.Frag} {mg : Str → Option Value} {base : Heap} (G : Gd P w K mg) (h__law_take : HasFn P w K mg base 2 "_law_take" 2 F__law_take) {f : Addr} {fd : FuncData}
    (F : FunD K "_law_weekday_rule" "_law_weekday_rule" (defArgs s__law_weekday_rule) (defBody s__law_weekday_rule) (defScope s__law_weekday_rule) [] [] f fd) : FnOk P w K mg base CX0 3 f fd P__law_weekday_rule (spD ⟨P, w, K⟩ 3 F__law_weekday_rule) :=
  d_fn F sc__law_weekday_rule rfl fun cdv A outer s H E hr => by
    have sc := sc__law_weekday_rule
    exact (dss_cons (ds_set (ps_set (i := 3) sc.nd rfl (by first | exact Or.inl rfl | exact Or.inr rfl) (de_call h__law_take (hr.mono (lv__law_weekday_rule__law_take)) rfl (len_cons (len_cons len_nil)) (da_cons (de_var (pv 0)) (da_cons de_int da_nil)))))
  (dss_cons (ds_set (ps_set (i := 4) sc.nd rfl (by first | exact Or.inl rfl | exact Or.inr rfl) (de_op opd_add (de_var (pv 3)) (de_call h__law_take (hr.mono (lv__law_weekday_rule__law_take)) rfl (len_cons (len_cons len_nil)) (da_cons (de_var (pv 0)) (da_cons de_int da_nil))))))
  (dss_cons (ds_if (dt_cmp opd_eq (de_var (pv 2)) de_str (nomark _)) (dss_cons (ds_set (ps_set (i := 5) sc.nd rfl (by first | exact Or.inl rfl | exact Or.inr rfl) (de_callP (pe_callB (cd_min rfl) rfl G.b_min (by decide +kernel) (da_cons de_int (da_cons (de_op opd_add de_int (de_var (pv 3))) da_nil))))))
  (dss_cons (ds_set (ps_set (i := 6) sc.nd rfl (by first | exact Or.inl rfl | exact Or.inr rfl) (de_op opd_add (de_op opd_add de_int (de_var (pv 4))) (de_call h__law_take (hr.mono (lv__law_weekday_rule__law_take)) rfl (len_cons (len_cons len_nil)) (da_cons (de_var (pv 0)) (da_cons (de_op opd_sub (de_var (pv 5)) (de_var (pv 4))) da_nil))))))
  (dss_one (ds_ret (de_tup (da_cons (de_var (pv 1)) (da_cons (de_var (pv 6)) (da_cons (de_op opd_add (de_var (pv 6)) (de_call h__law_take (hr.mono (lv__law_weekday_rule__law_take)) rfl (len_cons (len_cons len_nil)) (da_cons (de_var (pv 0)) (da_cons (de_op opd_add (de_op opd_sub (de_var (pv 5)) (de_var (pv 6))) de_int) da_nil)))) (da_cons (de_var (pv 3)) (da_cons (de_var (pv 4)) (da_cons (de_var (pv 2)) da_nil))))))))))) dss_nil)
  (dss_cons (ds_set (ps_set (i := 6) sc.nd rfl (by first | exact Or.inl rfl | exact Or.inr rfl) (de_op opd_add (de_op opd_sub (de_var (pv 4)) de_int) (de_call h__law_take (hr.mono (lv__law_weekday_rule__law_take)) rfl (len_cons (len_cons len_nil)) (da_cons (de_var (pv 0)) (da_cons (de_op opd_add (de_op opd_sub (de_var (pv 3)) (de_var (pv 4))) de_int) da_nil))))))
  (dss_one (ds_ret (de_tup (da_cons (de_var (pv 1)) (da_cons (de_var (pv 6)) (da_cons (de_op opd_add (de_var (pv 6)) (de_call h__law_take (hr.mono (lv__law_weekday_rule__law_take)) rfl (len_cons (len_cons len_nil)) (da_cons (de_var (pv 0)) (da_cons (de_op opd_sub (de_var (pv 3)) (de_var (pv 6))) da_nil)))) (da_cons (de_var (pv 3)) (da_cons (de_var (pv 4)) (da_cons (de_var (pv 2)) da_nil)))))))))))))
end T
namespace T
open PySem PySem.Spec PyProof.Rows L2 Dm
/-! _law_bent -/
abbrev s__law_bent : Stmt := topS 74
abbrev N__law_bent : List Str := ["_law_hand_here", "_law_rule", "_law_sort", "_law_low", "_law_high", "_law_least", "_law_most", "_law_action", "_law_way"]
abbrev P__law_bent : List Str := ["_law_hand_here", "_law_rule"]
theorem sc__law_bent : FnScope N__law_bent P__law_bent (defScope s__law_bent) := ⟨rfl, rfl, rfl, by decide +kernel, rfl, by decide +kernel, by decide +kernel⟩
def b__law_bent : SS := (seqS (asgS (vaS 1) (tupG 6 (consG (nmG 2) (consG (nmG 3) (consG (nmG 4) (consG (nmG 5) (consG (nmG 6) (consG (nmG 7) nilG))))))))
  (seqS (setS 8 (callF F__law_take (consA (vaS 0) (consA (cS (.int 4)) nilA))))
  (seqS (iffS (bS (bin2 eqQ (vaS 8) (cS (.int 0)))) (setS 3 (callQ maxQ (consA (negS (cS (.int 9))) (consA (bin2 subQ (vaS 3) (cS (.int 1))) nilA)))) nxS)
  (seqS (iffS (bS (bin2 eqQ (vaS 8) (cS (.int 1)))) (setS 4 (callQ minQ (consA (cS (.int 9)) (consA (bin2 addQ (vaS 4) (cS (.int 1))) nilA)))) nxS)
  (seqS (iffS (bS (bin2 eqQ (vaS 8) (cS (.int 2)))) (setS 5 (callQ maxQ (consA (cS (.int 0)) (consA (bin2 subQ (vaS 5) (cS (.int 1))) nilA)))) nxS)
  (seqS (iffS (andT (bS (bin2 eqQ (vaS 8) (cS (.int 3)))) (bS (bin2 isnNQ (vaS 6) (cS .non)))) (setS 6 (callQ minQ (consA (cS (.int 9)) (consA (bin2 addQ (vaS 6) (cS (.int 1))) nilA)))) nxS)
  (retS (tupS (consA (vaS 2) (consA (vaS 3) (consA (vaS 4) (consA (vaS 5) (consA (vaS 6) (consA (vaS 7) nilA))))))))))))))
def F__law_bent : FnD := defD 9 b__law_bent
theorem lv__law_bent__law_take : 2 ≤ 2 := by decide
theorem ok__law_bent {P : Program} {w : World} {K : PySem.W.Frag} {mg : Str → Option Value} {base : Heap} (G : Gd P w K mg) (h__law_take : HasFn P w K mg base 2 "_law_take" 2 F__law_take) {f : Addr} {fd : FuncData}
    (F : FunD K "_law_bent" "_law_bent" (defArgs s__law_bent) (defBody s__law_bent) (defScope s__law_bent) [] [] f fd) : FnOk P w K mg base CX0 3 f fd P__law_bent (spD ⟨P, w, K⟩ 2 F__law_bent) :=
  d_fn F sc__law_bent rfl fun cdv A outer s H E hr => by
    have sc := sc__law_bent
    exact (dss_cons (ds_asg (de_var (pv 1)) (dg_tup (pg_tup rfl (dgs_cons (dg_name (i := 2) (pg_name (i := 2) sc.nd rfl (by first | exact Or.inl rfl | exact Or.inr rfl))) (dgs_cons (dg_name (i := 3) (pg_name (i := 3) sc.nd rfl (by first | exact Or.inl rfl | exact Or.inr rfl))) (dgs_cons (dg_name (i := 4) (pg_name (i := 4) sc.nd rfl (by first | exact Or.inl rfl | exact Or.inr rfl))) (dgs_cons (dg_name (i := 5) (pg_name (i := 5) sc.nd rfl (by first | exact Or.inl rfl | exact Or.inr rfl))) (dgs_cons (dg_name (i := 6) (pg_name (i := 6) sc.nd rfl (by first | exact Or.inl rfl | exact Or.inr rfl))) (dgs_cons (dg_name (i := 7) (pg_name (i := 7) sc.nd rfl (by first | exact Or.inl rfl | exact Or.inr rfl))) dgs_nil)))))))))
  (dss_cons (ds_set (ps_set (i := 8) sc.nd rfl (by first | exact Or.inl rfl | exact Or.inr rfl) (de_call h__law_take (hr.mono (lv__law_bent__law_take)) rfl (len_cons (len_cons len_nil)) (da_cons (de_var (pv 0)) (da_cons de_int da_nil)))))
  (dss_cons (ds_if (dt_cmp opd_eq (de_var (pv 8)) de_int (nomark _)) (dss_one (ds_set (ps_set (i := 3) sc.nd rfl (by first | exact Or.inl rfl | exact Or.inr rfl) (de_callP (pe_callB (cd_max rfl) rfl G.b_max (by decide +kernel) (da_cons (de_neg de_int) (da_cons (de_op opd_sub (de_var (pv 3)) de_int) da_nil))))))) dss_nil)
  (dss_cons (ds_if (dt_cmp opd_eq (de_var (pv 8)) de_int (nomark _)) (dss_one (ds_set (ps_set (i := 4) sc.nd rfl (by first | exact Or.inl rfl | exact Or.inr rfl) (de_callP (pe_callB (cd_min rfl) rfl G.b_min (by decide +kernel) (da_cons de_int (da_cons (de_op opd_add (de_var (pv 4)) de_int) da_nil))))))) dss_nil)
  (dss_cons (ds_if (dt_cmp opd_eq (de_var (pv 8)) de_int (nomark _)) (dss_one (ds_set (ps_set (i := 5) sc.nd rfl (by first | exact Or.inl rfl | exact Or.inr rfl) (de_callP (pe_callB (cd_max rfl) rfl G.b_max (by decide +kernel) (da_cons de_int (da_cons (de_op opd_sub (de_var (pv 5)) de_int) da_nil))))))) dss_nil)
  (dss_cons (ds_if (dw_t (dw_and (dt_cmp opd_eq (de_var (pv 8)) de_int (nomark _)) (dw_and1 (dt_cmp opd_isnot (de_var (pv 6)) de_non (nomark _))))) (dss_one (ds_set (ps_set (i := 6) sc.nd rfl (by first | exact Or.inl rfl | exact Or.inr rfl) (de_callP (pe_callB (cd_min rfl) rfl G.b_min (by decide +kernel) (da_cons de_int (da_cons (de_op opd_add (de_var (pv 6)) de_int) da_nil))))))) dss_nil)
  (dss_one (ds_ret (de_tup (da_cons (de_var (pv 2)) (da_cons (de_var (pv 3)) (da_cons (de_var (pv 4)) (da_cons (de_var (pv 5)) (da_cons (de_var (pv 6)) (da_cons (de_var (pv 7)) da_nil)))))))))))))))
end T
namespace T
open PySem PySem.Spec PyProof.Rows L2 Dm
/-! _law_day_rule -/
abbrev s__law_day_rule : Stmt := topS 75
abbrev N__law_day_rule : List Str := ["_law_hand_here", "_law_sort", "_law_way", "_law_low", "_law_high", "_law_rule", "_law_gone"]
abbrev P__law_day_rule : List Str := ["_law_hand_here"]
theorem sc__law_day_rule : FnScope N__law_day_rule P__law_day_rule (defScope s__law_day_rule) := ⟨rfl, rfl, rfl, by decide +kernel, rfl, by decide +kernel, by decide +kernel⟩
def b__law_day_rule : SS := (seqS (setS 1 (bin2 ixQ (lstS (consA (cS (.str "today")) (consA (cS (.str "today")) (consA (cS (.str "coming")) (consA (cS (.str "last")) (consA (cS (.str "date")) nilA)))))) (callF F__law_take (consA (vaS 0) (consA (cS (.int 5)) nilA)))))
  (seqS (setS 2 (callF F__law_take (consA (vaS 0) (consA (cS (.int 9)) nilA))))
  (seqS (iffS (orT (bS (bin2 eqQ (vaS 2) (cS (.int 0)))) (bS (bin2 eqQ (vaS 2) (cS (.int 8))))) (retS (callF F__law_any_rule (consA (vaS 0) (consA (vaS 1) nilA)))) nxS)
  (seqS (asgS (callF F__law_reach (consA (vaS 0) nilA)) (tupG 2 (consG (nmG 3) (consG (nmG 4) nilG))))
  (seqS (setS 5 (tupS (consA (vaS 1) (consA (vaS 3) (consA (vaS 4) (consA (callF F__law_take (consA (vaS 0) (consA (cS (.int 3)) nilA))) (consA (cS .non) (consA (bin2 ixQ (lstS (consA (cS (.str "move")) (consA (cS (.str "weekday")) nilA))) (callF F__law_take (consA (vaS 0) (consA (cS (.int 2)) nilA)))) nilA))))))))
  (seqS (iffS (bS (bin2 ltQ (vaS 2) (cS (.int 4)))) (setS 5 (callF F__law_weekday_rule (consA (vaS 0) (consA (vaS 1) (consA (bin2 ixQ (lstS (consA (cS (.str "coming")) (consA (cS (.str "last")) nilA))) (callF F__law_take (consA (vaS 0) (consA (cS (.int 2)) nilA)))) nilA))))) nxS)
  (seqS (iffS (orT (bS (bin2 eqQ (vaS 2) (cS (.int 4)))) (bS (bin2 eqQ (vaS 2) (cS (.int 5))))) (setS 5 (callF F__law_kept_rule (consA (vaS 0) (consA (vaS 1) nilA)))) nxS)
  (seqS (iffS (bS (bin2 eqQ (vaS 2) (cS (.int 6)))) (seqS (setS 6 (callF F__law_take (consA (vaS 0) (consA (cS (.int 10)) nilA))))
  (setS 5 (tupS (consA (vaS 1) (consA (vaS 3) (consA (vaS 4) (consA (vaS 6) (consA (vaS 6) (consA (vaS 6) nilA))))))))) nxS)
  (retS (ifS (bS (bin2 eqQ (callF F__law_take (consA (vaS 0) (consA (cS (.int 3)) nilA))) (cS (.int 0)))) (callF F__law_bent (consA (vaS 0) (consA (vaS 5) nilA))) (vaS 5)))))))))))
def F__law_day_rule : FnD := defD 7 b__law_day_rule
theorem lv__law_day_rule__law_any_rule : 5 ≤ 5 := by decide
theorem lv__law_day_rule__law_bent : 3 ≤ 5 := by decide
theorem lv__law_day_rule__law_kept_rule : 5 ≤ 5 := by decide
theorem lv__law_day_rule__law_reach : 4 ≤ 5 := by decide
theorem lv__law_day_rule__law_take : 2 ≤ 5 := by decide
theorem lv__law_day_rule__law_weekday_rule : 3 ≤ 5 := by decide
theorem ok__law_day_rule {P : Program} {w : World} {K : PySem.W.Frag} {mg : Str → Option Value} {base : Heap} (G : Gd P w K mg) (h__law_any_rule : HasFn P w K mg base 5 "_law_any_rule" 2 F__law_any_rule) (h__law_bent : HasFn P w K mg base 3 "_law_bent" 2 F__law_bent) (h__law_kept_rule : HasFn P w K mg base 5 "_law_kept_rule" 2 F__law_kept_rule) (h__law_reach : HasFn P w K mg base 4 "_law_reach" 1 F__law_reach) (h__law_take : HasFn P w K mg base 2 "_law_take" 2 F__law_take) (h__law_weekday_rule : HasFn P w K mg base 3 "_law_weekday_rule" 3 F__law_weekday_rule) {f : Addr} {fd : FuncData}
    (F : FunD K "_law_day_rule" "_law_day_rule" (defArgs s__law_day_rule) (defBody s__law_day_rule) (defScope s__law_day_rule) [] [] f fd) : FnOk P w K mg base CX0 6 f fd P__law_day_rule (spD ⟨P, w, K⟩ 1 F__law_day_rule) :=
  d_fn F sc__law_day_rule rfl fun cdv A outer s H E hr => by
    have sc := sc__law_day_rule
    exact (dss_cons (ds_set (ps_set (i := 1) sc.nd rfl (by first | exact Or.inl rfl | exact Or.inr rfl) (de_ix (de_lst (da_cons de_str (da_cons de_str (da_cons de_str (da_cons de_str (da_cons de_str da_nil)))))) (de_call h__law_take (hr.mono (lv__law_day_rule__law_take)) rfl (len_cons (len_cons len_nil)) (da_cons (de_var (pv 0)) (da_cons de_int da_nil))) fun _ _ => rfl)))
  (dss_cons (ds_set (ps_set (i := 2) sc.nd rfl (by first | exact Or.inl rfl | exact Or.inr rfl) (de_call h__law_take (hr.mono (lv__law_day_rule__law_take)) rfl (len_cons (len_cons len_nil)) (da_cons (de_var (pv 0)) (da_cons de_int da_nil)))))
  (dss_cons (ds_if (dw_t (dw_or (dt_cmp opd_eq (de_var (pv 2)) de_int (nomark _)) (dw_or1 (dt_cmp opd_eq (de_var (pv 2)) de_int (nomark _))))) (dss_one (ds_ret (de_call h__law_any_rule (hr.mono (lv__law_day_rule__law_any_rule)) rfl (len_cons (len_cons len_nil)) (da_cons (de_var (pv 0)) (da_cons (de_var (pv 1)) da_nil))))) dss_nil)
  (dss_cons (ds_asg (de_call h__law_reach (hr.mono (lv__law_day_rule__law_reach)) rfl (len_cons len_nil) (da_cons (de_var (pv 0)) da_nil)) (dg_tup (pg_tup rfl (dgs_cons (dg_name (i := 3) (pg_name (i := 3) sc.nd rfl (by first | exact Or.inl rfl | exact Or.inr rfl))) (dgs_cons (dg_name (i := 4) (pg_name (i := 4) sc.nd rfl (by first | exact Or.inl rfl | exact Or.inr rfl))) dgs_nil)))))
  (dss_cons (ds_set (ps_set (i := 5) sc.nd rfl (by first | exact Or.inl rfl | exact Or.inr rfl) (de_tup (da_cons (de_var (pv 1)) (da_cons (de_var (pv 3)) (da_cons (de_var (pv 4)) (da_cons (de_call h__law_take (hr.mono (lv__law_day_rule__law_take)) rfl (len_cons (len_cons len_nil)) (da_cons (de_var (pv 0)) (da_cons de_int da_nil))) (da_cons de_non (da_cons (de_ix (de_lst (da_cons de_str (da_cons de_str da_nil))) (de_call h__law_take (hr.mono (lv__law_day_rule__law_take)) rfl (len_cons (len_cons len_nil)) (da_cons (de_var (pv 0)) (da_cons de_int da_nil))) fun _ _ => rfl) da_nil)))))))))
  (dss_cons (ds_if (dt_cmp opd_lt (de_var (pv 2)) de_int (nomark _)) (dss_one (ds_set (ps_set (i := 5) sc.nd rfl (by first | exact Or.inl rfl | exact Or.inr rfl) (de_call h__law_weekday_rule (hr.mono (lv__law_day_rule__law_weekday_rule)) rfl (len_cons (len_cons (len_cons len_nil))) (da_cons (de_var (pv 0)) (da_cons (de_var (pv 1)) (da_cons (de_ix (de_lst (da_cons de_str (da_cons de_str da_nil))) (de_call h__law_take (hr.mono (lv__law_day_rule__law_take)) rfl (len_cons (len_cons len_nil)) (da_cons (de_var (pv 0)) (da_cons de_int da_nil))) fun _ _ => rfl) da_nil))))))) dss_nil)
  (dss_cons (ds_if (dw_t (dw_or (dt_cmp opd_eq (de_var (pv 2)) de_int (nomark _)) (dw_or1 (dt_cmp opd_eq (de_var (pv 2)) de_int (nomark _))))) (dss_one (ds_set (ps_set (i := 5) sc.nd rfl (by first | exact Or.inl rfl | exact Or.inr rfl) (de_call h__law_kept_rule (hr.mono (lv__law_day_rule__law_kept_rule)) rfl (len_cons (len_cons len_nil)) (da_cons (de_var (pv 0)) (da_cons (de_var (pv 1)) da_nil)))))) dss_nil)
  (dss_cons (ds_if (dt_cmp opd_eq (de_var (pv 2)) de_int (nomark _)) (dss_cons (ds_set (ps_set (i := 6) sc.nd rfl (by first | exact Or.inl rfl | exact Or.inr rfl) (de_call h__law_take (hr.mono (lv__law_day_rule__law_take)) rfl (len_cons (len_cons len_nil)) (da_cons (de_var (pv 0)) (da_cons de_int da_nil)))))
  (dss_one (ds_set (ps_set (i := 5) sc.nd rfl (by first | exact Or.inl rfl | exact Or.inr rfl) (de_tup (da_cons (de_var (pv 1)) (da_cons (de_var (pv 3)) (da_cons (de_var (pv 4)) (da_cons (de_var (pv 6)) (da_cons (de_var (pv 6)) (da_cons (de_var (pv 6)) da_nil))))))))))) dss_nil)
  (dss_one (ds_ret (de_if (dt_cmp opd_eq (de_call h__law_take (hr.mono (lv__law_day_rule__law_take)) rfl (len_cons (len_cons len_nil)) (da_cons (de_var (pv 0)) (da_cons de_int da_nil))) de_int (nomark _)) (de_call h__law_bent (hr.mono (lv__law_day_rule__law_bent)) rfl (len_cons (len_cons len_nil)) (da_cons (de_var (pv 0)) (da_cons (de_var (pv 5)) da_nil))) (de_var (pv 5)))))))))))))
end T
namespace T
open PySem PySem.Spec PyProof.Rows L2 Dm
/-! _law_person_rule -/
abbrev s__law_person_rule : Stmt := topS 76
abbrev N__law_person_rule : List Str := ["_law_hand_here", "_law_sort", "_law_action", "_law_mine", "_law_yours"]
abbrev P__law_person_rule : List Str := ["_law_hand_here"]
theorem sc__law_person_rule : FnScope N__law_person_rule P__law_person_rule (defScope s__law_person_rule) := ⟨rfl, rfl, rfl, by decide +kernel, rfl, by decide +kernel, by decide +kernel⟩
def b__law_person_rule : SS := (seqS (setS 1 (bin2 ixQ (lstS (consA (cS (.str "I")) (consA (cS (.str "you")) (consA (cS (.str "name")) nilA)))) (callF F__law_take (consA (vaS 0) (consA (cS (.int 3)) nilA)))))
  (seqS (setS 2 (bin2 ixQ (lstS (consA (cS (.str "keep")) (consA (cS (.str "I")) (consA (cS (.str "you")) (consA (cS (.str "name")) nilA))))) (callF F__law_take (consA (vaS 0) (consA (cS (.int 4)) nilA)))))
  (seqS (setS 3 (bin2 ixQ (lstS (consA (cS (.bl true)) (consA (cS (.bl false)) (consA (cS .non) nilA)))) (callF F__law_take (consA (vaS 0) (consA (cS (.int 3)) nilA)))))
  (seqS (setS 4 (bin2 ixQ (lstS (consA (cS (.bl true)) (consA (cS (.bl false)) (consA (cS .non) nilA)))) (callF F__law_take (consA (vaS 0) (consA (cS (.int 3)) nilA)))))
  (seqS (iffS (trS (callF F__law_take (consA (vaS 0) (consA (cS (.int 2)) nilA)))) (seqS (iffS (orT (bS (bin2 eqQ (vaS 2) (cS (.str "I")))) (andT (bS (bin2 eqQ (vaS 2) (cS (.str "keep")))) (bS (bin2 eqQ (vaS 1) (cS (.str "I")))))) (setS 3 (cS (.bl true))) nxS)
  (iffS (orT (bS (bin2 eqQ (vaS 2) (cS (.str "you")))) (andT (bS (bin2 eqQ (vaS 2) (cS (.str "keep")))) (bS (bin2 eqQ (vaS 1) (cS (.str "you")))))) (setS 4 (cS (.bl true))) nxS)) nxS)
  (retS (tupS (consA (vaS 1) (consA (vaS 3) (consA (vaS 4) (consA (vaS 2) nilA)))))))))))
def F__law_person_rule : FnD := defD 5 b__law_person_rule
theorem lv__law_person_rule__law_take : 2 ≤ 2 := by decide
theorem ok__law_person_rule {P : Program} {w : World} {K : PySem.W.Frag} {mg : Str → Option Value} {base : Heap} (G : Gd P w K mg) (h__law_take : HasFn P w K mg base 2 "_law_take" 2 F__law_take) {f : Addr} {fd : FuncData}
    (F : FunD K "_law_person_rule" "_law_person_rule" (defArgs s__law_person_rule) (defBody s__law_person_rule) (defScope s__law_person_rule) [] [] f fd) : FnOk P w K mg base CX0 3 f fd P__law_person_rule (spD ⟨P, w, K⟩ 1 F__law_person_rule) :=
  d_fn F sc__law_person_rule rfl fun cdv A outer s H E hr => by
    have sc := sc__law_person_rule
    exact (dss_cons (ds_set (ps_set (i := 1) sc.nd rfl (by first | exact Or.inl rfl | exact Or.inr rfl) (de_ix (de_lst (da_cons de_str (da_cons de_str (da_cons de_str da_nil)))) (de_call h__law_take (hr.mono (lv__law_person_rule__law_take)) rfl (len_cons (len_cons len_nil)) (da_cons (de_var (pv 0)) (da_cons de_int da_nil))) fun _ _ => rfl)))
  (dss_cons (ds_set (ps_set (i := 2) sc.nd rfl (by first | exact Or.inl rfl | exact Or.inr rfl) (de_ix (de_lst (da_cons de_str (da_cons de_str (da_cons de_str (da_cons de_str da_nil))))) (de_call h__law_take (hr.mono (lv__law_person_rule__law_take)) rfl (len_cons (len_cons len_nil)) (da_cons (de_var (pv 0)) (da_cons de_int da_nil))) fun _ _ => rfl)))
  (dss_cons (ds_set (ps_set (i := 3) sc.nd rfl (by first | exact Or.inl rfl | exact Or.inr rfl) (de_ix (de_lst (da_cons de_bl (da_cons de_bl (da_cons de_non da_nil)))) (de_call h__law_take (hr.mono (lv__law_person_rule__law_take)) rfl (len_cons (len_cons len_nil)) (da_cons (de_var (pv 0)) (da_cons de_int da_nil))) fun _ _ => rfl)))
  (dss_cons (ds_set (ps_set (i := 4) sc.nd rfl (by first | exact Or.inl rfl | exact Or.inr rfl) (de_ix (de_lst (da_cons de_bl (da_cons de_bl (da_cons de_non da_nil)))) (de_call h__law_take (hr.mono (lv__law_person_rule__law_take)) rfl (len_cons (len_cons len_nil)) (da_cons (de_var (pv 0)) (da_cons de_int da_nil))) fun _ _ => rfl)))
  (dss_cons (ds_if (dt_truth (de_call h__law_take (hr.mono (lv__law_person_rule__law_take)) rfl (len_cons (len_cons len_nil)) (da_cons (de_var (pv 0)) (da_cons de_int da_nil))) fun _ => rfl) (dss_cons (ds_if (dw_t (dw_or (dt_cmp opd_eq (de_var (pv 2)) de_str (nomark _)) (dw_or1 (dw_t (dw_and (dt_cmp opd_eq (de_var (pv 2)) de_str (nomark _)) (dw_and1 (dt_cmp opd_eq (de_var (pv 1)) de_str (nomark _)))))))) (dss_one (ds_set (ps_set (i := 3) sc.nd rfl (by first | exact Or.inl rfl | exact Or.inr rfl) de_bl))) dss_nil)
  (dss_one (ds_if (dw_t (dw_or (dt_cmp opd_eq (de_var (pv 2)) de_str (nomark _)) (dw_or1 (dw_t (dw_and (dt_cmp opd_eq (de_var (pv 2)) de_str (nomark _)) (dw_and1 (dt_cmp opd_eq (de_var (pv 1)) de_str (nomark _)))))))) (dss_one (ds_set (ps_set (i := 4) sc.nd rfl (by first | exact Or.inl rfl | exact Or.inr rfl) de_bl))) dss_nil))) dss_nil)
  (dss_one (ds_ret (de_tup (da_cons (de_var (pv 1)) (da_cons (de_var (pv 3)) (da_cons (de_var (pv 4)) (da_cons (de_var (pv 2)) da_nil))))))))))))
end T
namespace T
open PySem PySem.Spec PyProof.Rows L2 Dm
/-! _law_place_rule -/
abbrev s__law_place_rule : Stmt := topS 77
abbrev N__law_place_rule : List Str := ["_law_hand_here", "_law_sort", "_law_action", "_law_here"]
abbrev P__law_place_rule : List Str := ["_law_hand_here"]
theorem sc__law_place_rule : FnScope N__law_place_rule P__law_place_rule (defScope s__law_place_rule) := ⟨rfl, rfl, rfl, by decide +kernel, rfl, by decide +kernel, by decide +kernel⟩
def b__law_place_rule : SS := (seqS (setS 1 (bin2 ixQ (lstS (consA (cS (.str "here")) (consA (cS (.str "place")) nilA))) (callF F__law_take (consA (vaS 0) (consA (cS (.int 2)) nilA)))))
  (seqS (setS 2 (bin2 ixQ (lstS (consA (cS (.str "keep")) (consA (cS (.str "here")) (consA (cS (.str "place")) nilA)))) (callF F__law_take (consA (vaS 0) (consA (cS (.int 3)) nilA)))))
  (seqS (setS 3 (bin2 ixQ (lstS (consA (cS (.bl true)) (consA (cS (.bl false)) (consA (cS .non) nilA)))) (callF F__law_take (consA (vaS 0) (consA (cS (.int 3)) nilA)))))
  (seqS (iffS (andT (trS (callF F__law_take (consA (vaS 0) (consA (cS (.int 2)) nilA)))) (orT (bS (bin2 eqQ (vaS 2) (cS (.str "here")))) (andT (bS (bin2 eqQ (vaS 2) (cS (.str "keep")))) (bS (bin2 eqQ (vaS 1) (cS (.str "here"))))))) (setS 3 (cS (.bl true))) nxS)
  (retS (tupS (consA (vaS 1) (consA (vaS 3) (consA (vaS 2) nilA)))))))))
def F__law_place_rule : FnD := defD 4 b__law_place_rule
theorem lv__law_place_rule__law_take : 2 ≤ 2 := by decide
theorem ok__law_place_rule {P : Program} {w : World} {K : PySem.W.Frag} {mg : Str → Option Value} {base : Heap} (G : Gd P w K mg) (h__law_take : HasFn P w K mg base 2 "_law_take" 2 F__law_take) {f : Addr} {fd : FuncData}
    (F : FunD K "_law_place_rule" "_law_place_rule" (defArgs s__law_place_rule) (defBody s__law_place_rule) (defScope s__law_place_rule) [] [] f fd) : FnOk P w K mg base CX0 3 f fd P__law_place_rule (spD ⟨P, w, K⟩ 1 F__law_place_rule) :=
  d_fn F sc__law_place_rule rfl fun cdv A outer s H E hr => by
    have sc := sc__law_place_rule
    exact (dss_cons (ds_set (ps_set (i := 1) sc.nd rfl (by first | exact Or.inl rfl | exact Or.inr rfl) (de_ix (de_lst (da_cons de_str (da_cons de_str da_nil))) (de_call h__law_take (hr.mono (lv__law_place_rule__law_take)) rfl (len_cons (len_cons len_nil)) (da_cons (de_var (pv 0)) (da_cons de_int da_nil))) fun _ _ => rfl)))
  (dss_cons (ds_set (ps_set (i := 2) sc.nd rfl (by first | exact Or.inl rfl | exact Or.inr rfl) (de_ix (de_lst (da_cons de_str (da_cons de_str (da_cons de_str da_nil)))) (de_call h__law_take (hr.mono (lv__law_place_rule__law_take)) rfl (len_cons (len_cons len_nil)) (da_cons (de_var (pv 0)) (da_cons de_int da_nil))) fun _ _ => rfl)))
  (dss_cons (ds_set (ps_set (i := 3) sc.nd rfl (by first | exact Or.inl rfl | exact Or.inr rfl) (de_ix (de_lst (da_cons de_bl (da_cons de_bl (da_cons de_non da_nil)))) (de_call h__law_take (hr.mono (lv__law_place_rule__law_take)) rfl (len_cons (len_cons len_nil)) (da_cons (de_var (pv 0)) (da_cons de_int da_nil))) fun _ _ => rfl)))
  (dss_cons (ds_if (dw_t (dw_and (dt_truth (de_call h__law_take (hr.mono (lv__law_place_rule__law_take)) rfl (len_cons (len_cons len_nil)) (da_cons (de_var (pv 0)) (da_cons de_int da_nil))) fun _ => rfl) (dw_and1 (dw_t (dw_or (dt_cmp opd_eq (de_var (pv 2)) de_str (nomark _)) (dw_or1 (dw_t (dw_and (dt_cmp opd_eq (de_var (pv 2)) de_str (nomark _)) (dw_and1 (dt_cmp opd_eq (de_var (pv 1)) de_str (nomark _))))))))))) (dss_one (ds_set (ps_set (i := 3) sc.nd rfl (by first | exact Or.inl rfl | exact Or.inr rfl) de_bl))) dss_nil)
  (dss_one (ds_ret (de_tup (da_cons (de_var (pv 1)) (da_cons (de_var (pv 3)) (da_cons (de_var (pv 2)) da_nil))))))))))
end T
namespace T
open PySem PySem.Spec PyProof.Rows L2 Dm
/-! _law_book -/
abbrev s__law_book : Stmt := topS 78
abbrev N__law_book : List Str := ["_law_hand_here", "_law_most", "_law_days", "_law_persons", "_law_turn"]
abbrev P__law_book : List Str := ["_law_hand_here", "_law_most"]
theorem sc__law_book : FnScope N__law_book P__law_book (defScope s__law_book) := ⟨rfl, rfl, rfl, by decide +kernel, rfl, by decide +kernel, by decide +kernel⟩
def b__law_book : SS := (seqS (setS 2 (lcS [4] (it1S (consA (callQ minQ (consA (vaS 1) (consA (callF F__law_take (consA (vaS 0) (consA (bin2 addQ (vaS 1) (cS (.int 3))) nilA))) nilA))) nilA)) (nmG 4) yesT (callF F__law_day_rule (consA (vaS 0) nilA))))
  (seqS (setS 3 (lcS [4] (it1S (consA (callQ minQ (consA (cS (.int 4)) (consA (callF F__law_take (consA (vaS 0) (consA (cS (.int 7)) nilA))) nilA))) nilA)) (nmG 4) yesT (callF F__law_person_rule (consA (vaS 0) nilA))))
  (retS (lstS (consA (vaS 2) (consA (vaS 3) (consA (lcS [4] (it1S (consA (callF F__law_take (consA (vaS 0) (consA (cS (.int 4)) nilA))) nilA)) (nmG 4) yesT (callF F__law_place_rule (consA (vaS 0) nilA))) nilA)))))))
def F__law_book : FnD := defD 5 b__law_book
theorem lv__law_book__law_day_rule : 6 ≤ 6 := by decide
theorem lv__law_book__law_person_rule : 3 ≤ 6 := by decide
theorem lv__law_book__law_place_rule : 3 ≤ 6 := by decide
theorem lv__law_book__law_take : 2 ≤ 6 := by decide
theorem ok__law_book {P : Program} {w : World} {K : PySem.W.Frag} {mg : Str → Option Value} {base : Heap} (G : Gd P w K mg) (h__law_day_rule : HasFn P w K mg base 6 "_law_day_rule" 1 F__law_day_rule) (h__law_person_rule : HasFn P w K mg base 3 "_law_person_rule" 1 F__law_person_rule) (h__law_place_rule : HasFn P w K mg base 3 "_law_place_rule" 1 F__law_place_rule) (h__law_take : HasFn P w K mg base 2 "_law_take" 2 F__law_take) {f : Addr} {fd : FuncData}
    (F : FunD K "_law_book" "_law_book" (defArgs s__law_book) (defBody s__law_book) (defScope s__law_book) [] [] f fd) : FnOk P w K mg base CX0 7 f fd P__law_book (spD ⟨P, w, K⟩ 2 F__law_book) :=
  d_fn F sc__law_book rfl fun cdv A outer s H E hr => by
    have sc := sc__law_book
    exact (dss_cons (ds_setLc (tgt_name (by decide)) (ps_setLc (i := 2) rfl sc.nd rfl rfl rfl (di_range1 (pi_range1 rfl G.b_range (da_cons (de_callP (pe_callB (cd_min rfl) rfl G.b_min (by decide +kernel) (da_cons (de_var (pv 1)) (da_cons (de_call h__law_take (hr.mono (lv__law_book__law_take)) rfl (len_cons (len_cons len_nil)) (da_cons (de_var (pv 0)) (da_cons (de_op opd_add (de_var (pv 1)) de_int) da_nil))) da_nil)))) da_nil))) (own := [("_law_turn", 4)]) (BlkOk.mk (N := N__law_book) (sc := defScope s__law_book) rfl (by decide +kernel) (by decide +kernel) (by decide +kernel) (by decide +kernel)) (fun s H C cl fp => (pg_name (i := 4) sc.nd rfl (by first | exact Or.inl rfl | exact Or.inr rfl))) (fun s H C cl fp => dts_nil) (fun s H C cl fp => (de_call h__law_day_rule (hr.mono (lv__law_book__law_day_rule)) rfl (len_cons len_nil) (da_cons (de_var (pv 0)) da_nil)))))
  (dss_cons (ds_setLc (tgt_name (by decide)) (ps_setLc (i := 3) rfl sc.nd rfl rfl rfl (di_range1 (pi_range1 rfl G.b_range (da_cons (de_callP (pe_callB (cd_min rfl) rfl G.b_min (by decide +kernel) (da_cons de_int (da_cons (de_call h__law_take (hr.mono (lv__law_book__law_take)) rfl (len_cons (len_cons len_nil)) (da_cons (de_var (pv 0)) (da_cons de_int da_nil))) da_nil)))) da_nil))) (own := [("_law_turn", 4)]) (BlkOk.mk (N := N__law_book) (sc := defScope s__law_book) rfl (by decide +kernel) (by decide +kernel) (by decide +kernel) (by decide +kernel)) (fun s H C cl fp => (pg_name (i := 4) sc.nd rfl (by first | exact Or.inl rfl | exact Or.inr rfl))) (fun s H C cl fp => dts_nil) (fun s H C cl fp => (de_call h__law_person_rule (hr.mono (lv__law_book__law_person_rule)) rfl (len_cons len_nil) (da_cons (de_var (pv 0)) da_nil)))))
  (dss_one (ds_ret (de_lst (da_cons (de_var (pv 2)) (da_cons (de_var (pv 3)) (da_cons (de_lc (tgt_name (by decide)) (pe_lc rfl sc.nd (di_range1 (pi_range1 rfl G.b_range (da_cons (de_call h__law_take (hr.mono (lv__law_book__law_take)) rfl (len_cons (len_cons len_nil)) (da_cons (de_var (pv 0)) (da_cons de_int da_nil))) da_nil))) (own := [("_law_turn", 4)]) (BlkOk.mk (N := N__law_book) (sc := defScope s__law_book) rfl (by decide +kernel) (by decide +kernel) (by decide +kernel) (by decide +kernel)) (fun s H C cl fp => (pg_name (i := 4) sc.nd rfl (by first | exact Or.inl rfl | exact Or.inr rfl))) (fun s H C cl fp => dts_nil) (fun s H C cl fp => (de_call h__law_place_rule (hr.mono (lv__law_book__law_place_rule)) rfl (len_cons len_nil) (da_cons (de_var (pv 0)) da_nil))))) da_nil))))))))
end T
namespace T
open PySem PySem.Spec PyProof.Rows L2 Dm
/-! _law_made_book -/
abbrev s__law_made_book : Stmt := topS 79
abbrev N__law_made_book : List Str := ["_law_book_here", "_law_rule"]
abbrev P__law_made_book : List Str := ["_law_book_here"]
theorem sc__law_made_book : FnScope N__law_made_book P__law_made_book (defScope s__law_made_book) := ⟨rfl, rfl, rfl, by decide +kernel, rfl, by decide +kernel, by decide +kernel⟩
def b__law_made_book : SS := (retS (mkF 2 F_Book_init (consA (lcS [1] (itLS (bin2 ixQ (vaS 0) (cS (.int 0)))) (nmG 1) yesT (callQ lisQ (consA (vaS 1) nilA))) (consA (callQ tupQ (consA (bin2 ixQ (vaS 0) (cS (.int 1))) nilA)) (consA (callQ lisQ (consA (bin2 ixQ (vaS 0) (cS (.int 2))) nilA)) nilA)))))
def F__law_made_book : FnD := defD 2 b__law_made_book
theorem lw__law_made_book_Book_init : 5 ≤ 5 := by decide
theorem ok__law_made_book {P : Program} {w : World} {K : PySem.W.Frag} {mg : Str → Option Value} {base : Heap} (G : Gd P w K mg) (h_Book_init : HasMk P w K mg base 4 2 3 F_Book_init) {f : Addr} {fd : FuncData}
    (F : FunD K "_law_made_book" "_law_made_book" (defArgs s__law_made_book) (defBody s__law_made_book) (defScope s__law_made_book) [] [] f fd) : FnOk P w K mg base CX0 6 f fd P__law_made_book (spD ⟨P, w, K⟩ 1 F__law_made_book) :=
  d_fn F sc__law_made_book rfl fun cdv A outer s H E hr => by
    have sc := sc__law_made_book
    exact (dss_one (ds_ret (de_make h_Book_init rfl (hr.mono (lw__law_made_book_Book_init)) rfl (len_cons (len_cons (len_cons len_nil))) (da_cons (de_lc (tgt_name (by decide)) (pe_lc rfl sc.nd (di_list (de_ix (de_var (pv 0)) de_int fun _ _ => rfl)) (own := [("_law_rule", 1)]) (BlkOk.mk (N := N__law_made_book) (sc := defScope s__law_made_book) rfl (by decide +kernel) (by decide +kernel) (by decide +kernel) (by decide +kernel)) (fun s H C cl fp => (pg_name (i := 1) sc.nd rfl (by first | exact Or.inl rfl | exact Or.inr rfl))) (fun s H C cl fp => dts_nil) (fun s H C cl fp => (de_callP (pe_callTy cd_list rfl G.b_list (by decide +kernel) (da_cons (de_var (pv 1)) da_nil)))))) (da_cons (de_callP (pe_callTy cd_tuple rfl G.b_tuple (by decide +kernel) (da_cons (de_ix (de_var (pv 0)) de_int fun _ _ => rfl) da_nil))) (da_cons (de_callP (pe_callTy cd_list rfl G.b_list (by decide +kernel) (da_cons (de_ix (de_var (pv 0)) de_int fun _ _ => rfl) da_nil))) da_nil))))))
end T
namespace T
open PySem PySem.Spec PyProof.Rows L2 Dm
/-! _law_spot -/
abbrev s__law_spot : Stmt := topS 80
abbrev N__law_spot : List Str := ["_law_hand_here", "_law_names_here", "_law_places"]
abbrev P__law_spot : List Str := ["_law_hand_here", "_law_names_here", "_law_places"]
theorem sc__law_spot : FnScope N__law_spot P__law_spot (defScope s__law_spot) := ⟨rfl, rfl, rfl, by decide +kernel, rfl, by decide +kernel, by decide +kernel⟩
def b__law_spot : SS := (retS (tupS (consA (bin2 ixQ (vaS 1) (callF F__law_take (consA (vaS 0) (consA (callQ lenQ (consA (vaS 1) nilA)) nilA)))) (consA (bin2 ixQ (vaS 1) (callF F__law_take (consA (vaS 0) (consA (callQ lenQ (consA (vaS 1) nilA)) nilA)))) (consA (callF F__law_date (consA (vaS 0) nilA)) (consA (bin2 ixQ (vaS 2) (callF F__law_take (consA (vaS 0) (consA (callQ lenQ (consA (vaS 2) nilA)) nilA)))) nilA))))))
def F__law_spot : FnD := defD 3 b__law_spot
theorem lv__law_spot__law_date : 3 ≤ 3 := by decide
theorem lv__law_spot__law_take : 2 ≤ 3 := by decide
theorem ok__law_spot {P : Program} {w : World} {K : PySem.W.Frag} {mg : Str → Option Value} {base : Heap} (G : Gd P w K mg) (h__law_date : HasFn P w K mg base 3 "_law_date" 1 F__law_date) (h__law_take : HasFn P w K mg base 2 "_law_take" 2 F__law_take) {f : Addr} {fd : FuncData}
    (F : FunD K "_law_spot" "_law_spot" (defArgs s__law_spot) (defBody s__law_spot) (defScope s__law_spot) [] [] f fd) : FnOk P w K mg base CX0 4 f fd P__law_spot (spD ⟨P, w, K⟩ 3 F__law_spot) :=
  d_fn F sc__law_spot rfl fun cdv A outer s H E hr => by
    have sc := sc__law_spot
    exact (dss_one (ds_ret (de_tup (da_cons (de_ix (de_var (pv 1)) (de_call h__law_take (hr.mono (lv__law_spot__law_take)) rfl (len_cons (len_cons len_nil)) (da_cons (de_var (pv 0)) (da_cons (de_callP (pe_callB (cd_len) rfl G.b_len (by decide +kernel) (da_cons (de_var (pv 1)) da_nil))) da_nil))) fun _ _ => rfl) (da_cons (de_ix (de_var (pv 1)) (de_call h__law_take (hr.mono (lv__law_spot__law_take)) rfl (len_cons (len_cons len_nil)) (da_cons (de_var (pv 0)) (da_cons (de_callP (pe_callB (cd_len) rfl G.b_len (by decide +kernel) (da_cons (de_var (pv 1)) da_nil))) da_nil))) fun _ _ => rfl) (da_cons (de_call h__law_date (hr.mono (lv__law_spot__law_date)) rfl (len_cons len_nil) (da_cons (de_var (pv 0)) da_nil)) (da_cons (de_ix (de_var (pv 2)) (de_call h__law_take (hr.mono (lv__law_spot__law_take)) rfl (len_cons (len_cons len_nil)) (da_cons (de_var (pv 0)) (da_cons (de_callP (pe_callB (cd_len) rfl G.b_len (by decide +kernel) (da_cons (de_var (pv 2)) da_nil))) da_nil))) fun _ _ => rfl) da_nil)))))))
end T
namespace T
open PySem PySem.Spec PyProof.Rows L2 Dm
/-! _law_delay -/
abbrev s__law_delay : Stmt := topS 81
abbrev N__law_delay : List Str := ["_law_hand_here", "_law_way"]
abbrev P__law_delay : List Str := ["_law_hand_here"]
theorem sc__law_delay : FnScope N__law_delay P__law_delay (defScope s__law_delay) := ⟨rfl, rfl, rfl, by decide +kernel, rfl, by decide +kernel, by decide +kernel⟩
def b__law_delay : SS := (seqS (setS 1 (callF F__law_take (consA (vaS 0) (consA (cS (.int 16)) nilA))))
  (seqS (iffS (bS (bin2 eqQ (vaS 1) (cS (.int 0)))) (retS (callF F__law_take (consA (vaS 0) (consA (bin2 powQ (cS (.int 10)) (cS (.int 12))) nilA)))) nxS)
  (retS (ifS (bS (bin2 ltQ (vaS 1) (cS (.int 5)))) (callF F__law_take (consA (vaS 0) (consA (cS (.int 21)) nilA))) (callF F__law_take (consA (vaS 0) (consA (cS (.int 4)) nilA)))))))
def F__law_delay : FnD := defD 2 b__law_delay
theorem lv__law_delay__law_take : 2 ≤ 2 := by decide
theorem ok__law_delay {P : Program} {w : World} {K : PySem.W.Frag} {mg : Str → Option Value} {base : Heap} (G : Gd P w K mg) (h__law_take : HasFn P w K mg base 2 "_law_take" 2 F__law_take) {f : Addr} {fd : FuncData}
    (F : FunD K "_law_delay" "_law_delay" (defArgs s__law_delay) (defBody s__law_delay) (defScope s__law_delay) [] [] f fd) : FnOk P w K mg base CX0 3 f fd P__law_delay (spD ⟨P, w, K⟩ 1 F__law_delay) :=
  d_fn F sc__law_delay rfl fun cdv A outer s H E hr => by
    have sc := sc__law_delay
    exact (dss_cons (ds_set (ps_set (i := 1) sc.nd rfl (by first | exact Or.inl rfl | exact Or.inr rfl) (de_call h__law_take (hr.mono (lv__law_delay__law_take)) rfl (len_cons (len_cons len_nil)) (da_cons (de_var (pv 0)) (da_cons de_int da_nil)))))
  (dss_cons (ds_if (dt_cmp opd_eq (de_var (pv 1)) de_int (nomark _)) (dss_one (ds_ret (de_call h__law_take (hr.mono (lv__law_delay__law_take)) rfl (len_cons (len_cons len_nil)) (da_cons (de_var (pv 0)) (da_cons (de_op opd_pow de_int de_int) da_nil))))) dss_nil)
  (dss_one (ds_ret (de_if (dt_cmp opd_lt (de_var (pv 1)) de_int (nomark _)) (de_call h__law_take (hr.mono (lv__law_delay__law_take)) rfl (len_cons (len_cons len_nil)) (da_cons (de_var (pv 0)) (da_cons de_int da_nil))) (de_call h__law_take (hr.mono (lv__law_delay__law_take)) rfl (len_cons (len_cons len_nil)) (da_cons (de_var (pv 0)) (da_cons de_int da_nil))))))))
end T
namespace T
open PySem PySem.Spec PyProof.Rows L2 Dm
/-! _law_moves -/
abbrev s__law_moves : Stmt := topS 82
abbrev N__law_moves : List Str := ["_law_hand_here", "_law_names_here", "_law_places", "_law_most", "_law_rows", "_law_turn"]
abbrev P__law_moves : List Str := ["_law_hand_here", "_law_names_here", "_law_places", "_law_most"]
theorem sc__law_moves : FnScope N__law_moves P__law_moves (defScope s__law_moves) := ⟨rfl, rfl, rfl, by decide +kernel, rfl, by decide +kernel, by decide +kernel⟩
def b__law_moves : SS := (seqS (setS 4 (lstM nilA))
  (seqS (forS (it1S (consA (callF F__law_take (consA (vaS 0) (consA (bin2 addQ (vaS 3) (cS (.int 1))) nilA))) nilA)) (nmG 5) (dropS (appS (vaS 4) (tupS (consA (callF F__law_delay (consA (vaS 0) nilA)) (consA (bin2 ixQ (vaS 1) (callF F__law_take (consA (vaS 0) (consA (callQ lenQ (consA (vaS 1) nilA)) nilA)))) (consA (bin2 ixQ (vaS 2) (callF F__law_take (consA (vaS 0) (consA (callQ lenQ (consA (vaS 2) nilA)) nilA)))) nilA)))))))
  (retS (frzS (vaS 4)))))
def F__law_moves : FnD := defD 6 b__law_moves
theorem lv__law_moves__law_delay : 3 ≤ 3 := by decide
theorem lv__law_moves__law_take : 2 ≤ 3 := by decide
theorem ok__law_moves {P : Program} {w : World} {K : PySem.W.Frag} {mg : Str → Option Value} {base : Heap} (G : Gd P w K mg) (h__law_delay : HasFn P w K mg base 3 "_law_delay" 1 F__law_delay) (h__law_take : HasFn P w K mg base 2 "_law_take" 2 F__law_take) {f : Addr} {fd : FuncData}
    (F : FunD K "_law_moves" "_law_moves" (defArgs s__law_moves) (defBody s__law_moves) (defScope s__law_moves) [] [] f fd) : FnOk P w K mg base CX0 4 f fd P__law_moves (spD ⟨P, w, K⟩ 4 F__law_moves) :=
  d_fn F sc__law_moves rfl fun cdv A outer s H E hr => by
    have sc := sc__law_moves
    exact (dss_cons (ds_set (ps_set (i := 4) sc.nd rfl (by first | exact Or.inl rfl | exact Or.inr rfl) (de_lstM da_nil)))
  (dss_cons (ds_for PassesOwn.never rfl (di_range1 (pi_range1 rfl G.b_range (da_cons (de_call h__law_take (hr.mono (lv__law_moves__law_take)) rfl (len_cons (len_cons len_nil)) (da_cons (de_var (pv 0)) (da_cons (de_op opd_add (de_var (pv 3)) de_int) da_nil))) da_nil))) (dg_name (i := 5) (pg_name (i := 5) sc.nd rfl (by first | exact Or.inl rfl | exact Or.inr rfl))) (dss_one (ds_expr (de_app (pe_bm PySem.F.plainAttrs_list PySem.F.slot_list_append PySem.F.type_list_append mt_append (de_var (pv 4)) (pa_cons (de_tup (da_cons (de_call h__law_delay (hr.mono (lv__law_moves__law_delay)) rfl (len_cons len_nil) (da_cons (de_var (pv 0)) da_nil)) (da_cons (de_ix (de_var (pv 1)) (de_call h__law_take (hr.mono (lv__law_moves__law_take)) rfl (len_cons (len_cons len_nil)) (da_cons (de_var (pv 0)) (da_cons (de_callP (pe_callB (cd_len) rfl G.b_len (by decide +kernel) (da_cons (de_var (pv 1)) da_nil))) da_nil))) fun _ _ => rfl) (da_cons (de_ix (de_var (pv 2)) (de_call h__law_take (hr.mono (lv__law_moves__law_take)) rfl (len_cons (len_cons len_nil)) (da_cons (de_var (pv 0)) (da_cons (de_callP (pe_callB (cd_len) rfl G.b_len (by decide +kernel) (da_cons (de_var (pv 2)) da_nil))) da_nil))) fun _ _ => rfl) da_nil)))) pa_nil))))))
  (dss_one (ds_ret (de_frz (de_var (pv 4)))))))
end T
namespace T
open PySem PySem.Spec PyProof.Rows L2 Dm
/-! _law_made_steps -/
abbrev s__law_made_steps : Stmt := topS 83
abbrev N__law_made_steps : List Str := ["_law_moves_here", "_law_delay_here", "_law_hearer", "_law_place"]
abbrev P__law_made_steps : List Str := ["_law_moves_here"]
theorem sc__law_made_steps : FnScope N__law_made_steps P__law_made_steps (defScope s__law_made_steps) := ⟨rfl, rfl, rfl, by decide +kernel, rfl, by decide +kernel, by decide +kernel⟩
def b__law_made_steps : SS := (retS (lcS [1, 2, 3] (itLS (vaS 0)) (tupG 3 (consG (nmG 1) (consG (nmG 2) (consG (nmG 3) nilG)))) yesT (mkF 1 F_Step_init (consA (vaS 1) (consA (vaS 2) (consA (vaS 3) nilA))))))
def F__law_made_steps : FnD := defD 4 b__law_made_steps
theorem lw__law_made_steps_Step_init : 3 ≤ 3 := by decide
theorem ok__law_made_steps {P : Program} {w : World} {K : PySem.W.Frag} {mg : Str → Option Value} {base : Heap} (G : Gd P w K mg) (h_Step_init : HasMk P w K mg base 2 1 3 F_Step_init) {f : Addr} {fd : FuncData}
    (F : FunD K "_law_made_steps" "_law_made_steps" (defArgs s__law_made_steps) (defBody s__law_made_steps) (defScope s__law_made_steps) [] [] f fd) : FnOk P w K mg base CX0 4 f fd P__law_made_steps (spD ⟨P, w, K⟩ 1 F__law_made_steps) :=
  d_fn F sc__law_made_steps rfl fun cdv A outer s H E hr => by
    have sc := sc__law_made_steps
    exact (dss_one (ds_ret (de_lc (tgt_tup3 (by decide) (by decide) (by decide)) (pe_lc rfl sc.nd (di_list (de_var (pv 0))) (own := [("_law_delay_here", 1), ("_law_hearer", 2), ("_law_place", 3)]) (BlkOk.mk (N := N__law_made_steps) (sc := defScope s__law_made_steps) rfl (by decide +kernel) (by decide +kernel) (by decide +kernel) (by decide +kernel)) (fun s H C cl fp => (pg_tup rfl (pgs_cons (pg_name (i := 1) sc.nd rfl (by first | exact Or.inl rfl | exact Or.inr rfl)) (pgs_cons (pg_name (i := 2) sc.nd rfl (by first | exact Or.inl rfl | exact Or.inr rfl)) (pgs_cons (pg_name (i := 3) sc.nd rfl (by first | exact Or.inl rfl | exact Or.inr rfl)) pgs_nil))))) (fun s H C cl fp => dts_nil) (fun s H C cl fp => (de_make h_Step_init rfl (hr.mono (lw__law_made_steps_Step_init)) rfl (len_cons (len_cons (len_cons len_nil))) (da_cons (de_var (pv 1)) (da_cons (de_var (pv 2)) (da_cons (de_var (pv 3)) da_nil)))))))))
end T
namespace T
open PySem PySem.Spec PyProof.Rows L2 Dm
/-! _law_made_situation -/
abbrev s__law_made_situation : Stmt := topS 84
abbrev N__law_made_situation : List Str := ["_law_spot_here"]
abbrev P__law_made_situation : List Str := ["_law_spot_here"]
theorem sc__law_made_situation : FnScope N__law_made_situation P__law_made_situation (defScope s__law_made_situation) := ⟨rfl, rfl, rfl, by decide +kernel, rfl, by decide +kernel, by decide +kernel⟩
def b__law_made_situation : SS := (retS (mkF 0 F_Situation_init (consA (bin2 ixQ (vaS 0) (cS (.int 0))) (consA (bin2 ixQ (vaS 0) (cS (.int 1))) (consA (bin2 ixQ (vaS 0) (cS (.int 2))) (consA (bin2 ixQ (vaS 0) (cS (.int 3))) nilA))))))
def F__law_made_situation : FnD := defD 1 b__law_made_situation
theorem lw__law_made_situation_Situation_init : 3 ≤ 3 := by decide
theorem ok__law_made_situation {P : Program} {w : World} {K : PySem.W.Frag} {mg : Str → Option Value} {base : Heap} (G : Gd P w K mg) (h_Situation_init : HasMk P w K mg base 2 0 4 F_Situation_init) {f : Addr} {fd : FuncData}
    (F : FunD K "_law_made_situation" "_law_made_situation" (defArgs s__law_made_situation) (defBody s__law_made_situation) (defScope s__law_made_situation) [] [] f fd) : FnOk P w K mg base CX0 4 f fd P__law_made_situation (spD ⟨P, w, K⟩ 1 F__law_made_situation) :=
  d_fn F sc__law_made_situation rfl fun cdv A outer s H E hr => by
    have sc := sc__law_made_situation
    exact (dss_one (ds_ret (de_make h_Situation_init rfl (hr.mono (lw__law_made_situation_Situation_init)) rfl (len_cons (len_cons (len_cons (len_cons len_nil)))) (da_cons (de_ix (de_var (pv 0)) de_int fun _ _ => rfl) (da_cons (de_ix (de_var (pv 0)) de_int fun _ _ => rfl) (da_cons (de_ix (de_var (pv 0)) de_int fun _ _ => rfl) (da_cons (de_ix (de_var (pv 0)) de_int fun _ _ => rfl) da_nil)))))))
end T
namespace T
open PySem PySem.Spec PyProof.Rows L2 Dm
/-! _law_meant -/
abbrev s__law_meant : Stmt := topS 85
abbrev N__law_meant : List Str := ["_law_word", "_law_spot_here", "_law_slot", "_law_head"]
abbrev P__law_meant : List Str := ["_law_word", "_law_spot_here"]
theorem sc__law_meant : FnScope N__law_meant P__law_meant (defScope s__law_meant) := ⟨rfl, rfl, rfl, by decide +kernel, rfl, by decide +kernel, by decide +kernel⟩
def b__law_meant : SS := (seqS (iffS (bS (bin2 inQ (bin2 ixQ (vaS 0) (cS (.int 0))) (lstS (consA (cS (.str "today")) (consA (cS (.str "coming")) (consA (cS (.str "last")) (consA (cS (.str "date")) nilA))))))) nevSS nxS)
  (seqS (forS (itES (consA (lstS (consA (cS (.str "I")) (consA (cS (.str "you")) (consA (cS (.str "")) (consA (cS (.str "here")) nilA))))) nilA)) (tupG 2 (consG (nmG 2) (consG (nmG 3) nilG))) (iffS (bS (bin2 eqQ (bin2 ixQ (vaS 0) (cS (.int 0))) (vaS 3))) (retS (bin2 ixQ (vaS 1) (vaS 2))) nxS))
  (retS (bin2 ixQ (vaS 0) (cS (.int 1))))))
def F__law_meant : FnD := defD 4 b__law_meant
theorem ok__law_meant {P : Program} {w : World} {K : PySem.W.Frag} {mg : Str → Option Value} {base : Heap} (G : Gd P w K mg)  {f : Addr} {fd : FuncData}
    (F : FunD K "_law_meant" "_law_meant" (defArgs s__law_meant) (defBody s__law_meant) (defScope s__law_meant) [] [] f fd) : FnOk P w K mg base CX0 1 f fd P__law_meant (spD ⟨P, w, K⟩ 2 F__law_meant) :=
  d_fn F sc__law_meant rfl fun cdv A outer s H E hr => by
    have sc := sc__law_meant
    exact (dss_cons (ds_if (dt_cmp opd_in (de_ix (de_var (pv 0)) de_int fun _ _ => rfl) (de_lst (da_cons de_str (da_cons de_str (da_cons de_str (da_cons de_str da_nil))))) (by with_unfolding_all rfl)) dss_nev dss_nil)
  (dss_cons (ds_for PassesOwn.never rfl (di_enum (pi_enumA rfl G.b_enumerate (da_cons (de_lst (da_cons de_str (da_cons de_str (da_cons de_str (da_cons de_str da_nil))))) da_nil))) (dg_tup (pg_tup rfl (dgs_cons (dg_name (i := 2) (pg_name (i := 2) sc.nd rfl (by first | exact Or.inl rfl | exact Or.inr rfl))) (dgs_cons (dg_name (i := 3) (pg_name (i := 3) sc.nd rfl (by first | exact Or.inl rfl | exact Or.inr rfl))) dgs_nil)))) (dss_one (ds_if (dt_cmp opd_eq (de_ix (de_var (pv 0)) de_int fun _ _ => rfl) (de_var (pv 3)) (nomark _)) (dss_one (ds_ret (de_ix (de_var (pv 1)) (de_var (pv 2)) fun _ _ => rfl))) dss_nil)))
  (dss_one (ds_ret (de_ix (de_var (pv 0)) de_int fun _ _ => rfl)))))
end T
namespace T
open PySem PySem.Spec PyProof.Rows L2 Dm
/-! _law_after -/
abbrev s__law_after : Stmt := topS 86
abbrev N__law_after : List Str := ["_law_spot_here", "_law_move"]
abbrev P__law_after : List Str := ["_law_spot_here", "_law_move"]
theorem sc__law_after : FnScope N__law_after P__law_after (defScope s__law_after) := ⟨rfl, rfl, rfl, by decide +kernel, rfl, by decide +kernel, by decide +kernel⟩
def b__law_after : SS := (retS (tupS (consA (bin2 ixQ (vaS 0) (cS (.int 1))) (consA (bin2 ixQ (vaS 1) (cS (.int 1))) (consA (bin2 addQ (bin2 ixQ (vaS 0) (cS (.int 2))) (bin2 ixQ (vaS 1) (cS (.int 0)))) (consA (bin2 ixQ (vaS 1) (cS (.int 2))) nilA))))))
def F__law_after : FnD := defD 2 b__law_after
theorem ok__law_after {P : Program} {w : World} {K : PySem.W.Frag} {mg : Str → Option Value} {base : Heap} (G : Gd P w K mg)  {f : Addr} {fd : FuncData}
    (F : FunD K "_law_after" "_law_after" (defArgs s__law_after) (defBody s__law_after) (defScope s__law_after) [] [] f fd) : FnOk P w K mg base CX0 1 f fd P__law_after (spD ⟨P, w, K⟩ 2 F__law_after) :=
  d_fn F sc__law_after rfl fun cdv A outer s H E hr => by
    have sc := sc__law_after
    exact (dss_one (ds_ret (de_tup (da_cons (de_ix (de_var (pv 0)) de_int fun _ _ => rfl) (da_cons (de_ix (de_var (pv 1)) de_int fun _ _ => rfl) (da_cons (de_op opd_add (de_ix (de_var (pv 0)) de_int fun _ _ => rfl) (de_ix (de_var (pv 1)) de_int fun _ _ => rfl)) (da_cons (de_ix (de_var (pv 1)) de_int fun _ _ => rfl) da_nil)))))))
end T
namespace T
open PySem PySem.Spec PyProof.Rows L2 Dm
/-! _law_person_step -/
abbrev s__law_person_step : Stmt := topS 88
abbrev N__law_person_step : List Str := ["_law_persons", "_law_sort", "_law_meant_here", "_law_teller", "_law_hearer", "_law_number", "_law_place", "_law_rule", "_law_action"]
abbrev P__law_person_step : List Str := ["_law_persons", "_law_sort", "_law_meant_here", "_law_teller", "_law_hearer"]
theorem sc__law_person_step : FnScope N__law_person_step P__law_person_step (defScope s__law_person_step) := ⟨rfl, rfl, rfl, by decide +kernel, rfl, by decide +kernel, by decide +kernel⟩
def b__law_person_step : SS := (seqS (setS 5 (cS .non))
  (seqS (forS (itES (consA (vaS 0) nilA)) (tupG 2 (consG (nmG 6) (consG (nmG 7) nilG))) (iffS (andT (bS (bin2 eqQ (bin2 ixQ (vaS 7) (cS (.int 0))) (vaS 1))) (andT (orT (bS (bin2 isNQ (bin2 ixQ (vaS 7) (cS (.int 1))) (cS .non))) (bS (bin2 eqQ (bin2 ixQ (vaS 7) (cS (.int 1))) (bin2 eqQ (vaS 2) (vaS 3))))) (orT (bS (bin2 isNQ (bin2 ixQ (vaS 7) (cS (.int 2))) (cS .non))) (bS (bin2 eqQ (bin2 ixQ (vaS 7) (cS (.int 2))) (bin2 eqQ (vaS 2) (vaS 4))))))) (seqS (setS 5 (vaS 6))
  bkS) nxS))
  (seqS (setS 8 (ifS (bS (bin2 isNQ (vaS 5) (cS .non))) (cS (.str "name")) (bin2 ixQ (bin2 ixQ (vaS 0) (vaS 5)) (cS (.int 3)))))
  (seqS (iffS (bS (bin2 eqQ (vaS 8) (cS (.str "keep")))) (setS 8 (vaS 1)) nxS)
  (seqS (iffS (bS (bin2 eqQ (vaS 8) (cS (.str "name")))) (retS (tupS (consA (vaS 5) (consA (cS (.str "name")) (consA (vaS 2) nilA))))) nxS)
  (retS (tupS (consA (vaS 5) (consA (vaS 8) (consA (ifS (bS (bin2 eqQ (vaS 8) (cS (.str "I")))) (vaS 3) (vaS 4)) nilA))))))))))
def F__law_person_step : FnD := defD 9 b__law_person_step
theorem ok__law_person_step {P : Program} {w : World} {K : PySem.W.Frag} {mg : Str → Option Value} {base : Heap} (G : Gd P w K mg)  {f : Addr} {fd : FuncData}
    (F : FunD K "_law_person_step" "_law_person_step" (defArgs s__law_person_step) (defBody s__law_person_step) (defScope s__law_person_step) [] [] f fd) : FnOk P w K mg base CX0 1 f fd P__law_person_step (spD ⟨P, w, K⟩ 5 F__law_person_step) :=
  d_fn F sc__law_person_step rfl fun cdv A outer s H E hr => by
    have sc := sc__law_person_step
    exact (dss_cons (ds_set (ps_set (i := 5) sc.nd rfl (by first | exact Or.inl rfl | exact Or.inr rfl) de_non))
  (dss_cons (ds_for PassesOwn.never rfl (di_enum (pi_enumA rfl G.b_enumerate (da_cons (de_var (pv 0)) da_nil))) (dg_tup (pg_tup rfl (dgs_cons (dg_name (i := 6) (pg_name (i := 6) sc.nd rfl (by first | exact Or.inl rfl | exact Or.inr rfl))) (dgs_cons (dg_name (i := 7) (pg_name (i := 7) sc.nd rfl (by first | exact Or.inl rfl | exact Or.inr rfl))) dgs_nil)))) (dss_one (ds_if (dw_t (dw_and (dt_cmp opd_eq (de_ix (de_var (pv 7)) de_int fun _ _ => rfl) (de_var (pv 1)) (nomark _)) (dw_and (dw_t (dw_or (dt_cmp opd_is (de_ix (de_var (pv 7)) de_int fun _ _ => rfl) de_non (nomark _)) (dw_or1 (dt_cmp opd_eq (de_ix (de_var (pv 7)) de_int fun _ _ => rfl) (de_cmp opd_eq (de_var (pv 2)) (de_var (pv 3)) (nomark _)) (nomark _))))) (dw_and1 (dw_t (dw_or (dt_cmp opd_is (de_ix (de_var (pv 7)) de_int fun _ _ => rfl) de_non (nomark _)) (dw_or1 (dt_cmp opd_eq (de_ix (de_var (pv 7)) de_int fun _ _ => rfl) (de_cmp opd_eq (de_var (pv 2)) (de_var (pv 4)) (nomark _)) (nomark _))))))))) (dss_cons (ds_set (ps_set (i := 5) sc.nd rfl (by first | exact Or.inl rfl | exact Or.inr rfl) (de_var (pv 6))))
  (dss_one ds_break)) dss_nil)))
  (dss_cons (ds_set (ps_set (i := 8) sc.nd rfl (by first | exact Or.inl rfl | exact Or.inr rfl) (de_if (dt_cmp opd_is (de_var (pv 5)) de_non (nomark _)) de_str (de_ix (de_ix (de_var (pv 0)) (de_var (pv 5)) fun _ _ => rfl) de_int fun _ _ => rfl))))
  (dss_cons (ds_if (dt_cmp opd_eq (de_var (pv 8)) de_str (nomark _)) (dss_one (ds_set (ps_set (i := 8) sc.nd rfl (by first | exact Or.inl rfl | exact Or.inr rfl) (de_var (pv 1))))) dss_nil)
  (dss_cons (ds_if (dt_cmp opd_eq (de_var (pv 8)) de_str (nomark _)) (dss_one (ds_ret (de_tup (da_cons (de_var (pv 5)) (da_cons de_str (da_cons (de_var (pv 2)) da_nil)))))) dss_nil)
  (dss_one (ds_ret (de_tup (da_cons (de_var (pv 5)) (da_cons (de_var (pv 8)) (da_cons (de_if (dt_cmp opd_eq (de_var (pv 8)) de_str (nomark _)) (de_var (pv 3)) (de_var (pv 4))) da_nil)))))))))))
end T
namespace T
open PySem PySem.Spec PyProof.Rows L2 Dm
/-! _law_place_step -/
abbrev s__law_place_step : Stmt := topS 89
abbrev N__law_place_step : List Str := ["_law_places", "_law_sort", "_law_meant_here", "_law_place", "_law_number", "_law_turn", "_law_rule", "_law_action"]
abbrev P__law_place_step : List Str := ["_law_places", "_law_sort", "_law_meant_here", "_law_place"]
theorem sc__law_place_step : FnScope N__law_place_step P__law_place_step (defScope s__law_place_step) := ⟨rfl, rfl, rfl, by decide +kernel, rfl, by decide +kernel, by decide +kernel⟩
def b__law_place_step : SS := (seqS (setS 4 (cS .non))
  (seqS (forS (itES (consA (vaS 0) nilA)) (tupG 2 (consG (nmG 5) (consG (nmG 6) nilG))) (iffS (andT (bS (bin2 eqQ (bin2 ixQ (vaS 6) (cS (.int 0))) (vaS 1))) (orT (bS (bin2 isNQ (bin2 ixQ (vaS 6) (cS (.int 1))) (cS .non))) (bS (bin2 eqQ (bin2 ixQ (vaS 6) (cS (.int 1))) (bin2 eqQ (vaS 2) (vaS 3)))))) (seqS (setS 4 (vaS 5))
  bkS) nxS))
  (seqS (setS 7 (ifS (bS (bin2 isNQ (vaS 4) (cS .non))) (cS (.str "place")) (bin2 ixQ (bin2 ixQ (vaS 0) (vaS 4)) (cS (.int 2)))))
  (seqS (iffS (bS (bin2 eqQ (vaS 7) (cS (.str "keep")))) (setS 7 (vaS 1)) nxS)
  (retS (tupS (consA (vaS 4) (consA (vaS 7) (consA (ifS (bS (bin2 eqQ (vaS 7) (cS (.str "here")))) (vaS 3) (vaS 2)) nilA)))))))))
def F__law_place_step : FnD := defD 8 b__law_place_step
theorem ok__law_place_step {P : Program} {w : World} {K : PySem.W.Frag} {mg : Str → Option Value} {base : Heap} (G : Gd P w K mg)  {f : Addr} {fd : FuncData}
    (F : FunD K "_law_place_step" "_law_place_step" (defArgs s__law_place_step) (defBody s__law_place_step) (defScope s__law_place_step) [] [] f fd) : FnOk P w K mg base CX0 1 f fd P__law_place_step (spD ⟨P, w, K⟩ 4 F__law_place_step) :=
  d_fn F sc__law_place_step rfl fun cdv A outer s H E hr => by
    have sc := sc__law_place_step
    exact (dss_cons (ds_set (ps_set (i := 4) sc.nd rfl (by first | exact Or.inl rfl | exact Or.inr rfl) de_non))
  (dss_cons (ds_for PassesOwn.never rfl (di_enum (pi_enumA rfl G.b_enumerate (da_cons (de_var (pv 0)) da_nil))) (dg_tup (pg_tup rfl (dgs_cons (dg_name (i := 5) (pg_name (i := 5) sc.nd rfl (by first | exact Or.inl rfl | exact Or.inr rfl))) (dgs_cons (dg_name (i := 6) (pg_name (i := 6) sc.nd rfl (by first | exact Or.inl rfl | exact Or.inr rfl))) dgs_nil)))) (dss_one (ds_if (dw_t (dw_and (dt_cmp opd_eq (de_ix (de_var (pv 6)) de_int fun _ _ => rfl) (de_var (pv 1)) (nomark _)) (dw_and1 (dw_t (dw_or (dt_cmp opd_is (de_ix (de_var (pv 6)) de_int fun _ _ => rfl) de_non (nomark _)) (dw_or1 (dt_cmp opd_eq (de_ix (de_var (pv 6)) de_int fun _ _ => rfl) (de_cmp opd_eq (de_var (pv 2)) (de_var (pv 3)) (nomark _)) (nomark _)))))))) (dss_cons (ds_set (ps_set (i := 4) sc.nd rfl (by first | exact Or.inl rfl | exact Or.inr rfl) (de_var (pv 5))))
  (dss_one ds_break)) dss_nil)))
  (dss_cons (ds_set (ps_set (i := 7) sc.nd rfl (by first | exact Or.inl rfl | exact Or.inr rfl) (de_if (dt_cmp opd_is (de_var (pv 4)) de_non (nomark _)) de_str (de_ix (de_ix (de_var (pv 0)) (de_var (pv 4)) fun _ _ => rfl) de_int fun _ _ => rfl))))
  (dss_cons (ds_if (dt_cmp opd_eq (de_var (pv 7)) de_str (nomark _)) (dss_one (ds_set (ps_set (i := 7) sc.nd rfl (by first | exact Or.inl rfl | exact Or.inr rfl) (de_var (pv 1))))) dss_nil)
  (dss_one (ds_ret (de_tup (da_cons (de_var (pv 4)) (da_cons (de_var (pv 7)) (da_cons (de_if (dt_cmp opd_eq (de_var (pv 7)) de_str (nomark _)) (de_var (pv 3)) (de_var (pv 2))) da_nil))))))))))
end T
namespace T
open PySem PySem.Spec PyProof.Rows L2 Dm
/-! _law_written -/
abbrev s__law_written : Stmt := topS 90
abbrev N__law_written : List Str := ["_law_book_here", "_law_word", "_law_spot_here", "_law_move", "_law_offset", "_law_number", "_law_sort", "_law_new", "_law_day", "_law_meant_here"]
abbrev P__law_written : List Str := ["_law_book_here", "_law_word", "_law_spot_here", "_law_move"]
theorem sc__law_written : FnScope N__law_written P__law_written (defScope s__law_written) := ⟨rfl, rfl, rfl, by decide +kernel, rfl, by decide +kernel, by decide +kernel⟩
def b__law_written : SS := (seqS (iffS (bS (bin2 inQ (bin2 ixQ (vaS 1) (cS (.int 0))) (lstS (consA (cS (.str "today")) (consA (cS (.str "coming")) (consA (cS (.str "last")) (consA (cS (.str "date")) nilA))))))) nevSS nxS)
  (seqS (setS 9 (callF F__law_meant (consA (vaS 1) (consA (vaS 2) nilA))))
  (seqS (iffS (bS (bin2 inQ (bin2 ixQ (vaS 1) (cS (.int 0))) (lstS (consA (cS (.str "I")) (consA (cS (.str "you")) (consA (cS (.str "name")) nilA)))))) (seqS (asgS (callF F__law_person_step (consA (bin2 ixQ (vaS 0) (cS (.int 1))) (consA (bin2 ixQ (vaS 1) (cS (.int 0))) (consA (vaS 9) (consA (bin2 ixQ (vaS 2) (cS (.int 1))) (consA (bin2 ixQ (vaS 3) (cS (.int 1))) nilA)))))) (tupG 3 (consG (nmG 5) (consG (nmG 6) (consG (nmG 7) nilG)))))
  (seqS (setS 5 (ifS (bS (bin2 isNQ (vaS 5) (cS .non))) (cS .non) (bin2 addQ (vaS 5) (callQ lenQ (consA (bin2 ixQ (vaS 0) (cS (.int 0))) nilA)))))
  (retS (tupS (consA (vaS 5) (consA (ifS (bS (bin2 eqQ (vaS 6) (cS (.str "name")))) (tupS (consA (cS (.str "name")) (consA (vaS 7) nilA))) (tupS (consA (vaS 6) nilA))) nilA)))))) nxS)
  (seqS (asgS (callF F__law_place_step (consA (bin2 ixQ (vaS 0) (cS (.int 2))) (consA (bin2 ixQ (vaS 1) (cS (.int 0))) (consA (vaS 9) (consA (bin2 ixQ (vaS 3) (cS (.int 2))) nilA))))) (tupG 3 (consG (nmG 5) (consG (nmG 6) (consG (nmG 7) nilG)))))
  (seqS (setS 5 (ifS (bS (bin2 isNQ (vaS 5) (cS .non))) (cS .non) (bin2 addQ (bin2 addQ (vaS 5) (callQ lenQ (consA (bin2 ixQ (vaS 0) (cS (.int 0))) nilA))) (callQ lenQ (consA (bin2 ixQ (vaS 0) (cS (.int 1))) nilA)))))
  (retS (tupS (consA (vaS 5) (consA (ifS (bS (bin2 eqQ (vaS 6) (cS (.str "place")))) (tupS (consA (cS (.str "place")) (consA (vaS 7) nilA))) (tupS (consA (vaS 6) nilA))) nilA)))))))))
def F__law_written : FnD := defD 10 b__law_written
theorem lv__law_written__law_meant : 1 ≤ 1 := by decide
theorem lv__law_written__law_person_step : 1 ≤ 1 := by decide
theorem lv__law_written__law_place_step : 1 ≤ 1 := by decide
theorem ok__law_written {P : Program} {w : World} {K : PySem.W.Frag} {mg : Str → Option Value} {base : Heap} (G : Gd P w K mg) (h__law_meant : HasFn P w K mg base 1 "_law_meant" 2 F__law_meant) (h__law_person_step : HasFn P w K mg base 1 "_law_person_step" 5 F__law_person_step) (h__law_place_step : HasFn P w K mg base 1 "_law_place_step" 4 F__law_place_step) {f : Addr} {fd : FuncData}
    (F : FunD K "_law_written" "_law_written" (defArgs s__law_written) (defBody s__law_written) (defScope s__law_written) [] [] f fd) : FnOk P w K mg base CX0 2 f fd P__law_written (spD ⟨P, w, K⟩ 4 F__law_written) :=
  d_fn F sc__law_written rfl fun cdv A outer s H E hr => by
    have sc := sc__law_written
    exact (dss_cons (ds_if (dt_cmp opd_in (de_ix (de_var (pv 1)) de_int fun _ _ => rfl) (de_lst (da_cons de_str (da_cons de_str (da_cons de_str (da_cons de_str da_nil))))) (by with_unfolding_all rfl)) dss_nev dss_nil)
  (dss_cons (ds_set (ps_set (i := 9) sc.nd rfl (by first | exact Or.inl rfl | exact Or.inr rfl) (de_call h__law_meant (hr.mono (lv__law_written__law_meant)) rfl (len_cons (len_cons len_nil)) (da_cons (de_var (pv 1)) (da_cons (de_var (pv 2)) da_nil)))))
  (dss_cons (ds_if (dt_cmp opd_in (de_ix (de_var (pv 1)) de_int fun _ _ => rfl) (de_lst (da_cons de_str (da_cons de_str (da_cons de_str da_nil)))) (by with_unfolding_all rfl)) (dss_cons (ds_asg (de_call h__law_person_step (hr.mono (lv__law_written__law_person_step)) rfl (len_cons (len_cons (len_cons (len_cons (len_cons len_nil))))) (da_cons (de_ix (de_var (pv 0)) de_int fun _ _ => rfl) (da_cons (de_ix (de_var (pv 1)) de_int fun _ _ => rfl) (da_cons (de_var (pv 9)) (da_cons (de_ix (de_var (pv 2)) de_int fun _ _ => rfl) (da_cons (de_ix (de_var (pv 3)) de_int fun _ _ => rfl) da_nil)))))) (dg_tup (pg_tup rfl (dgs_cons (dg_name (i := 5) (pg_name (i := 5) sc.nd rfl (by first | exact Or.inl rfl | exact Or.inr rfl))) (dgs_cons (dg_name (i := 6) (pg_name (i := 6) sc.nd rfl (by first | exact Or.inl rfl | exact Or.inr rfl))) (dgs_cons (dg_name (i := 7) (pg_name (i := 7) sc.nd rfl (by first | exact Or.inl rfl | exact Or.inr rfl))) dgs_nil))))))
  (dss_cons (ds_set (ps_set (i := 5) sc.nd rfl (by first | exact Or.inl rfl | exact Or.inr rfl) (de_if (dt_cmp opd_is (de_var (pv 5)) de_non (nomark _)) de_non (de_op opd_add (de_var (pv 5)) (de_callP (pe_callB (cd_len) rfl G.b_len (by decide +kernel) (da_cons (de_ix (de_var (pv 0)) de_int fun _ _ => rfl) da_nil)))))))
  (dss_one (ds_ret (de_tup (da_cons (de_var (pv 5)) (da_cons (de_if (dt_cmp opd_eq (de_var (pv 6)) de_str (nomark _)) (de_tup (da_cons de_str (da_cons (de_var (pv 7)) da_nil))) (de_tup (da_cons (de_var (pv 6)) da_nil))) da_nil))))))) dss_nil)
  (dss_cons (ds_asg (de_call h__law_place_step (hr.mono (lv__law_written__law_place_step)) rfl (len_cons (len_cons (len_cons (len_cons len_nil)))) (da_cons (de_ix (de_var (pv 0)) de_int fun _ _ => rfl) (da_cons (de_ix (de_var (pv 1)) de_int fun _ _ => rfl) (da_cons (de_var (pv 9)) (da_cons (de_ix (de_var (pv 3)) de_int fun _ _ => rfl) da_nil))))) (dg_tup (pg_tup rfl (dgs_cons (dg_name (i := 5) (pg_name (i := 5) sc.nd rfl (by first | exact Or.inl rfl | exact Or.inr rfl))) (dgs_cons (dg_name (i := 6) (pg_name (i := 6) sc.nd rfl (by first | exact Or.inl rfl | exact Or.inr rfl))) (dgs_cons (dg_name (i := 7) (pg_name (i := 7) sc.nd rfl (by first | exact Or.inl rfl | exact Or.inr rfl))) dgs_nil))))))
  (dss_cons (ds_set (ps_set (i := 5) sc.nd rfl (by first | exact Or.inl rfl | exact Or.inr rfl) (de_if (dt_cmp opd_is (de_var (pv 5)) de_non (nomark _)) de_non (de_op opd_add (de_op opd_add (de_var (pv 5)) (de_callP (pe_callB (cd_len) rfl G.b_len (by decide +kernel) (da_cons (de_ix (de_var (pv 0)) de_int fun _ _ => rfl) da_nil)))) (de_callP (pe_callB (cd_len) rfl G.b_len (by decide +kernel) (da_cons (de_ix (de_var (pv 0)) de_int fun _ _ => rfl) da_nil)))))))
  (dss_one (ds_ret (de_tup (da_cons (de_var (pv 5)) (da_cons (de_if (dt_cmp opd_eq (de_var (pv 6)) de_str (nomark _)) (de_tup (da_cons de_str (da_cons (de_var (pv 7)) da_nil))) (de_tup (da_cons (de_var (pv 6)) da_nil))) da_nil))))))))))
end T
namespace T
open PySem PySem.Spec PyProof.Rows L2 Dm
/-! _law_person_state -/
abbrev s__law_person_state : Stmt := topS 92
abbrev N__law_person_state : List Str := ["_law_sort", "_law_told", "_law_heard"]
abbrev P__law_person_state : List Str := ["_law_sort", "_law_told", "_law_heard"]
theorem sc__law_person_state : FnScope N__law_person_state P__law_person_state (defScope s__law_person_state) := ⟨rfl, rfl, rfl, by decide +kernel, rfl, by decide +kernel, by decide +kernel⟩
def b__law_person_state : SS := (seqS (iffS (bS (bin2 eqQ (vaS 0) (cS (.str "name")))) (retS (tupS (consA (vaS 0) (consA (vaS 1) (consA (vaS 2) nilA))))) nxS)
  (retS (tupS (consA (vaS 0) (consA (ifS (bS (bin2 eqQ (vaS 0) (cS (.str "I")))) (vaS 2) (vaS 1)) nilA)))))
def F__law_person_state : FnD := defD 3 b__law_person_state
theorem ok__law_person_state {P : Program} {w : World} {K : PySem.W.Frag} {mg : Str → Option Value} {base : Heap} (G : Gd P w K mg)  {f : Addr} {fd : FuncData}
    (F : FunD K "_law_person_state" "_law_person_state" (defArgs s__law_person_state) (defBody s__law_person_state) (defScope s__law_person_state) [] [] f fd) : FnOk P w K mg base CX0 1 f fd P__law_person_state (spD ⟨P, w, K⟩ 3 F__law_person_state) :=
  d_fn F sc__law_person_state rfl fun cdv A outer s H E hr => by
    have sc := sc__law_person_state
    exact (dss_cons (ds_if (dt_cmp opd_eq (de_var (pv 0)) de_str (nomark _)) (dss_one (ds_ret (de_tup (da_cons (de_var (pv 0)) (da_cons (de_var (pv 1)) (da_cons (de_var (pv 2)) da_nil)))))) dss_nil)
  (dss_one (ds_ret (de_tup (da_cons (de_var (pv 0)) (da_cons (de_if (dt_cmp opd_eq (de_var (pv 0)) de_str (nomark _)) (de_var (pv 2)) (de_var (pv 1))) da_nil))))))
end T
namespace T
open PySem PySem.Spec PyProof.Rows L2 Dm
/-! _law_begun -/
abbrev s__law_begun : Stmt := topS 93
abbrev N__law_begun : List Str := ["_law_word", "_law_head", "_law_offset", "_law_way"]
abbrev P__law_begun : List Str := ["_law_word"]
theorem sc__law_begun : FnScope N__law_begun P__law_begun (defScope s__law_begun) := ⟨rfl, rfl, rfl, by decide +kernel, rfl, by decide +kernel, by decide +kernel⟩
def b__law_begun : SS := (seqS (setS 1 (bin2 ixQ (vaS 0) (cS (.int 0))))
  (seqS (iffS (bS (bin2 eqQ (vaS 1) (cS (.str "today")))) nevSS nxS)
  (seqS (iffS (bS (bin2 eqQ (vaS 1) (cS (.str "date")))) nevSS nxS)
  (seqS (iffS (bS (bin2 eqQ (vaS 1) (cS (.str "coming")))) nevSS nxS)
  (seqS (iffS (bS (bin2 eqQ (vaS 1) (cS (.str "last")))) nevSS nxS)
  (seqS (iffS (orT (bS (bin2 eqQ (vaS 1) (cS (.str "I")))) (bS (bin2 eqQ (vaS 1) (cS (.str "you"))))) (retS (lstS (consA (tupS (consA (vaS 1) (consA (cS (.bl false)) nilA))) (consA (tupS (consA (vaS 1) (consA (cS (.bl true)) nilA))) nilA)))) nxS)
  (seqS (iffS (bS (bin2 eqQ (vaS 1) (cS (.str "name")))) (retS (lcS [3] (it1S (consA (cS (.int 4)) nilA)) (nmG 3) yesT (tupS (consA (vaS 1) (consA (bin2 eqQ (bin2 modQ (callQ intQ (consA (vaS 3) nilA)) (cS (.int 2))) (cS (.int 1))) (consA (bin2 geQ (vaS 3) (cS (.int 2))) nilA)))))) nxS)
  (retS (ifS (bS (bin2 eqQ (vaS 1) (cS (.str "here")))) (lstS (consA (tupS (consA (cS (.str "here")) nilA)) nilA)) (lstS (consA (tupS (consA (cS (.str "place")) (consA (cS (.bl false)) nilA))) (consA (tupS (consA (cS (.str "place")) (consA (cS (.bl true)) nilA))) nilA))))))))))))
def F__law_begun : FnD := defD 4 b__law_begun
theorem ok__law_begun {P : Program} {w : World} {K : PySem.W.Frag} {mg : Str → Option Value} {base : Heap} (G : Gd P w K mg)  {f : Addr} {fd : FuncData}
    (F : FunD K "_law_begun" "_law_begun" (defArgs s__law_begun) (defBody s__law_begun) (defScope s__law_begun) [] [] f fd) : FnOk P w K mg base CX0 1 f fd P__law_begun (spD ⟨P, w, K⟩ 1 F__law_begun) :=
  d_fn F sc__law_begun rfl fun cdv A outer s H E hr => by
    have sc := sc__law_begun
    exact (dss_cons (ds_set (ps_set (i := 1) sc.nd rfl (by first | exact Or.inl rfl | exact Or.inr rfl) (de_ix (de_var (pv 0)) de_int fun _ _ => rfl)))
  (dss_cons (ds_if (dt_cmp opd_eq (de_var (pv 1)) de_str (nomark _)) dss_nev dss_nil)
  (dss_cons (ds_if (dt_cmp opd_eq (de_var (pv 1)) de_str (nomark _)) dss_nev dss_nil)
  (dss_cons (ds_if (dt_cmp opd_eq (de_var (pv 1)) de_str (nomark _)) dss_nev dss_nil)
  (dss_cons (ds_if (dt_cmp opd_eq (de_var (pv 1)) de_str (nomark _)) dss_nev dss_nil)
  (dss_cons (ds_if (dw_t (dw_or (dt_cmp opd_eq (de_var (pv 1)) de_str (nomark _)) (dw_or1 (dt_cmp opd_eq (de_var (pv 1)) de_str (nomark _))))) (dss_one (ds_ret (de_lst (da_cons (de_tup (da_cons (de_var (pv 1)) (da_cons de_bl da_nil))) (da_cons (de_tup (da_cons (de_var (pv 1)) (da_cons de_bl da_nil))) da_nil))))) dss_nil)
  (dss_cons (ds_if (dt_cmp opd_eq (de_var (pv 1)) de_str (nomark _)) (dss_one (ds_ret (de_lc (tgt_name (by decide)) (pe_lc rfl sc.nd (di_range1 (pi_range1 rfl G.b_range (da_cons de_int da_nil))) (own := [("_law_way", 3)]) (BlkOk.mk (N := N__law_begun) (sc := defScope s__law_begun) rfl (by decide +kernel) (by decide +kernel) (by decide +kernel) (by decide +kernel)) (fun s H C cl fp => (pg_name (i := 3) sc.nd rfl (by first | exact Or.inl rfl | exact Or.inr rfl))) (fun s H C cl fp => dts_nil) (fun s H C cl fp => (de_tup (da_cons (de_var (pv 1)) (da_cons (de_cmp opd_eq (de_op opd_mod (de_callP (pe_callTy cd_int rfl G.b_int (by decide +kernel) (da_cons (de_var (pv 3)) da_nil))) de_int) de_int (nomark _)) (da_cons (de_cmp opd_ge (de_var (pv 3)) de_int (nomark _)) da_nil))))))))) dss_nil)
  (dss_one (ds_ret (de_if (dt_cmp opd_eq (de_var (pv 1)) de_str (nomark _)) (de_lst (da_cons (de_tup (da_cons de_str da_nil)) da_nil)) (de_lst (da_cons (de_tup (da_cons de_str (da_cons de_bl da_nil))) (da_cons (de_tup (da_cons de_str (da_cons de_bl da_nil))) da_nil)))))))))))))
end T
namespace T
open PySem PySem.Spec PyProof.Rows L2 Dm
/-! _law_behind -/
abbrev s__law_behind : Stmt := topS 94
abbrev N__law_behind : List Str := ["_law_book_here", "_law_state", "_law_sort", "_law_rows", "_law_delay_here", "_law_number", "_law_head", "_law_new", "_law_teller", "_law_hearer", "_law_place"]
abbrev P__law_behind : List Str := ["_law_book_here", "_law_state"]
theorem sc__law_behind : FnScope N__law_behind P__law_behind (defScope s__law_behind) := ⟨rfl, rfl, rfl, by decide +kernel, rfl, by decide +kernel, by decide +kernel⟩
def b__law_behind : SS := (seqS (setS 2 (bin2 ixQ (vaS 1) (cS (.int 0))))
  (seqS (setS 3 (lstM nilA))
  (seqS (iffS (bS (bin2 inQ (vaS 2) (lstS (consA (cS (.str "today")) (consA (cS (.str "coming")) (consA (cS (.str "last")) (consA (cS (.str "date")) nilA))))))) nevSS nxS)
  (seqS (iffS (bS (bin2 inQ (vaS 2) (lstS (consA (cS (.str "I")) (consA (cS (.str "you")) (consA (cS (.str "name")) nilA)))))) (seqS (setS 8 (ifS (orT (bS (bin2 eqQ (vaS 2) (cS (.str "you")))) (trS (bin2 ixQ (vaS 1) (negS (cS (.int 1)))))) (cS (.int 0)) (cS (.int 1))))
  (forS (itLS (lstS (consA (cS (.int 0)) (consA (cS (.int 2)) nilA)))) (nmG 9) (seqS (asgS (callF F__law_person_step (consA (bin2 ixQ (vaS 0) (cS (.int 1))) (consA (vaS 2) (consA (cS (.int 0)) (consA (vaS 8) (consA (vaS 9) nilA)))))) (tupG 3 (consG (nmG 5) (consG (nmG 6) (consG (nmG 7) nilG)))))
  (seqS (setS 5 (ifS (bS (bin2 isNQ (vaS 5) (cS .non))) (cS .non) (bin2 addQ (vaS 5) (callQ lenQ (consA (bin2 ixQ (vaS 0) (cS (.int 0))) nilA)))))
  (dropS (appS (vaS 3) (tupS (consA (vaS 5) (consA (bin2 eqQ (vaS 7) (cS (.int 0))) (consA (callF F__law_person_state (consA (vaS 6) (consA (bin2 eqQ (vaS 8) (cS (.int 0))) (consA (bin2 eqQ (vaS 9) (cS (.int 0))) nilA)))) nilA)))))))))) nxS)
  (seqS (iffS (bS (bin2 inQ (vaS 2) (lstS (consA (cS (.str "here")) (consA (cS (.str "place")) nilA))))) (forS (itLS (lstS (consA (cS (.int 0)) (consA (cS (.int 1)) nilA)))) (nmG 10) (seqS (asgS (callF F__law_place_step (consA (bin2 ixQ (vaS 0) (cS (.int 2))) (consA (vaS 2) (consA (cS (.int 0)) (consA (vaS 10) nilA))))) (tupG 3 (consG (nmG 5) (consG (nmG 6) (consG (nmG 7) nilG)))))
  (seqS (setS 5 (ifS (bS (bin2 isNQ (vaS 5) (cS .non))) (cS .non) (bin2 addQ (bin2 addQ (vaS 5) (callQ lenQ (consA (bin2 ixQ (vaS 0) (cS (.int 0))) nilA))) (callQ lenQ (consA (bin2 ixQ (vaS 0) (cS (.int 1))) nilA)))))
  (dropS (appS (vaS 3) (tupS (consA (vaS 5) (consA (bin2 eqQ (vaS 7) (cS (.int 0))) (consA (ifS (bS (bin2 eqQ (vaS 6) (cS (.str "here")))) (tupS (consA (cS (.str "here")) nilA)) (tupS (consA (vaS 6) (consA (bin2 eqQ (vaS 10) (cS (.int 0))) nilA)))) nilA))))))))) nxS)
  (retS (frzS (vaS 3))))))))
def F__law_behind : FnD := defD 11 b__law_behind
theorem lv__law_behind__law_person_state : 1 ≤ 1 := by decide
theorem lv__law_behind__law_person_step : 1 ≤ 1 := by decide
theorem lv__law_behind__law_place_step : 1 ≤ 1 := by decide
theorem ok__law_behind {P : Program} {w : World} {K : PySem.W.Frag} {mg : Str → Option Value} {base : Heap} (G : Gd P w K mg) (h__law_person_state : HasFn P w K mg base 1 "_law_person_state" 3 F__law_person_state) (h__law_person_step : HasFn P w K mg base 1 "_law_person_step" 5 F__law_person_step) (h__law_place_step : HasFn P w K mg base 1 "_law_place_step" 4 F__law_place_step) {f : Addr} {fd : FuncData}
    (F : FunD K "_law_behind" "_law_behind" (defArgs s__law_behind) (defBody s__law_behind) (defScope s__law_behind) [] [] f fd) : FnOk P w K mg base CX0 2 f fd P__law_behind (spD ⟨P, w, K⟩ 2 F__law_behind) :=
  d_fn F sc__law_behind rfl fun cdv A outer s H E hr => by
    have sc := sc__law_behind
    exact (dss_cons (ds_set (ps_set (i := 2) sc.nd rfl (by first | exact Or.inl rfl | exact Or.inr rfl) (de_ix (de_var (pv 1)) de_int fun _ _ => rfl)))
  (dss_cons (ds_set (ps_set (i := 3) sc.nd rfl (by first | exact Or.inl rfl | exact Or.inr rfl) (de_lstM da_nil)))
  (dss_cons (ds_if (dt_cmp opd_in (de_var (pv 2)) (de_lst (da_cons de_str (da_cons de_str (da_cons de_str (da_cons de_str da_nil))))) (by with_unfolding_all rfl)) dss_nev dss_nil)
  (dss_cons (ds_if (dt_cmp opd_in (de_var (pv 2)) (de_lst (da_cons de_str (da_cons de_str (da_cons de_str da_nil)))) (by with_unfolding_all rfl)) (dss_cons (ds_set (ps_set (i := 8) sc.nd rfl (by first | exact Or.inl rfl | exact Or.inr rfl) (de_if (dw_t (dw_or (dt_cmp opd_eq (de_var (pv 2)) de_str (nomark _)) (dw_or1 (dt_truth (de_ix (de_var (pv 1)) (de_neg de_int) fun _ _ => rfl) fun _ => rfl)))) de_int de_int)))
  (dss_one (ds_for PassesOwn.never rfl (di_list (de_lst (da_cons de_int (da_cons de_int da_nil)))) (dg_name (i := 9) (pg_name (i := 9) sc.nd rfl (by first | exact Or.inl rfl | exact Or.inr rfl))) (dss_cons (ds_asg (de_call h__law_person_step (hr.mono (lv__law_behind__law_person_step)) rfl (len_cons (len_cons (len_cons (len_cons (len_cons len_nil))))) (da_cons (de_ix (de_var (pv 0)) de_int fun _ _ => rfl) (da_cons (de_var (pv 2)) (da_cons de_int (da_cons (de_var (pv 8)) (da_cons (de_var (pv 9)) da_nil)))))) (dg_tup (pg_tup rfl (dgs_cons (dg_name (i := 5) (pg_name (i := 5) sc.nd rfl (by first | exact Or.inl rfl | exact Or.inr rfl))) (dgs_cons (dg_name (i := 6) (pg_name (i := 6) sc.nd rfl (by first | exact Or.inl rfl | exact Or.inr rfl))) (dgs_cons (dg_name (i := 7) (pg_name (i := 7) sc.nd rfl (by first | exact Or.inl rfl | exact Or.inr rfl))) dgs_nil))))))
  (dss_cons (ds_set (ps_set (i := 5) sc.nd rfl (by first | exact Or.inl rfl | exact Or.inr rfl) (de_if (dt_cmp opd_is (de_var (pv 5)) de_non (nomark _)) de_non (de_op opd_add (de_var (pv 5)) (de_callP (pe_callB (cd_len) rfl G.b_len (by decide +kernel) (da_cons (de_ix (de_var (pv 0)) de_int fun _ _ => rfl) da_nil)))))))
  (dss_one (ds_expr (de_app (pe_bm PySem.F.plainAttrs_list PySem.F.slot_list_append PySem.F.type_list_append mt_append (de_var (pv 3)) (pa_cons (de_tup (da_cons (de_var (pv 5)) (da_cons (de_cmp opd_eq (de_var (pv 7)) de_int (nomark _)) (da_cons (de_call h__law_person_state (hr.mono (lv__law_behind__law_person_state)) rfl (len_cons (len_cons (len_cons len_nil))) (da_cons (de_var (pv 6)) (da_cons (de_cmp opd_eq (de_var (pv 8)) de_int (nomark _)) (da_cons (de_cmp opd_eq (de_var (pv 9)) de_int (nomark _)) da_nil)))) da_nil)))) pa_nil)))))))))) dss_nil)
  (dss_cons (ds_if (dt_cmp opd_in (de_var (pv 2)) (de_lst (da_cons de_str (da_cons de_str da_nil))) (by with_unfolding_all rfl)) (dss_one (ds_for PassesOwn.never rfl (di_list (de_lst (da_cons de_int (da_cons de_int da_nil)))) (dg_name (i := 10) (pg_name (i := 10) sc.nd rfl (by first | exact Or.inl rfl | exact Or.inr rfl))) (dss_cons (ds_asg (de_call h__law_place_step (hr.mono (lv__law_behind__law_place_step)) rfl (len_cons (len_cons (len_cons (len_cons len_nil)))) (da_cons (de_ix (de_var (pv 0)) de_int fun _ _ => rfl) (da_cons (de_var (pv 2)) (da_cons de_int (da_cons (de_var (pv 10)) da_nil))))) (dg_tup (pg_tup rfl (dgs_cons (dg_name (i := 5) (pg_name (i := 5) sc.nd rfl (by first | exact Or.inl rfl | exact Or.inr rfl))) (dgs_cons (dg_name (i := 6) (pg_name (i := 6) sc.nd rfl (by first | exact Or.inl rfl | exact Or.inr rfl))) (dgs_cons (dg_name (i := 7) (pg_name (i := 7) sc.nd rfl (by first | exact Or.inl rfl | exact Or.inr rfl))) dgs_nil))))))
  (dss_cons (ds_set (ps_set (i := 5) sc.nd rfl (by first | exact Or.inl rfl | exact Or.inr rfl) (de_if (dt_cmp opd_is (de_var (pv 5)) de_non (nomark _)) de_non (de_op opd_add (de_op opd_add (de_var (pv 5)) (de_callP (pe_callB (cd_len) rfl G.b_len (by decide +kernel) (da_cons (de_ix (de_var (pv 0)) de_int fun _ _ => rfl) da_nil)))) (de_callP (pe_callB (cd_len) rfl G.b_len (by decide +kernel) (da_cons (de_ix (de_var (pv 0)) de_int fun _ _ => rfl) da_nil)))))))
  (dss_one (ds_expr (de_app (pe_bm PySem.F.plainAttrs_list PySem.F.slot_list_append PySem.F.type_list_append mt_append (de_var (pv 3)) (pa_cons (de_tup (da_cons (de_var (pv 5)) (da_cons (de_cmp opd_eq (de_var (pv 7)) de_int (nomark _)) (da_cons (de_if (dt_cmp opd_eq (de_var (pv 6)) de_str (nomark _)) (de_tup (da_cons de_str da_nil)) (de_tup (da_cons (de_var (pv 6)) (da_cons (de_cmp opd_eq (de_var (pv 10)) de_int (nomark _)) da_nil)))) da_nil)))) pa_nil))))))))) dss_nil)
  (dss_one (ds_ret (de_frz (de_var (pv 3))))))))))
end T
namespace T
open PySem PySem.Spec PyProof.Rows L2 Dm
/-! _law_closed -/
abbrev s__law_closed : Stmt := topS 95
abbrev N__law_closed : List Str := ["_law_book_here", "_law_word", "_law_known", "_law_used", "_law_least", "_law_level", "_law_state", "_law_turn", "_law_onward", "_law_number", "_law_right", "_law_new"]
abbrev P__law_closed : List Str := ["_law_book_here", "_law_word"]
theorem sc__law_closed : FnScope N__law_closed P__law_closed (defScope s__law_closed) := ⟨rfl, rfl, rfl, by decide +kernel, rfl, by decide +kernel, by decide +kernel⟩
def b__law_closed : SS := (seqS (setS 2 dicTM)
  (seqS (setS 3 dicIM)
  (seqS (setS 4 (cS .non))
  (seqS (setS 5 (callF F__law_begun (consA (vaS 1) nilA)))
  (seqS (forS (itLS (vaS 5)) (nmG 6) (putS (vaS 2) (vaS 6) (cS (.bl true))))
  (seqS (forS (it1S (consA (cS (.int 60)) nilA)) (nmG 7) (seqS (setS 8 (lstM nilA))
  (seqS (forS (itLS (vaS 5)) (nmG 6) (forS (itLS (callF F__law_behind (consA (vaS 0) (consA (vaS 6) nilA)))) (tupG 3 (consG (nmG 9) (consG (nmG 10) (consG (nmG 11) nilG)))) (seqS (iffS (bS (bin2 isnNQ (vaS 9) (cS .non))) (putS (vaS 3) (vaS 9) (cS (.bl true))) nxS)
  (seqS (iffS (andT (notT (trS (vaS 10))) (bS (bin2 isNQ (vaS 4) (cS .non)))) (setS 4 (bin2 addQ (vaS 7) (cS (.int 1)))) nxS)
  (iffS (andT (trS (vaS 10)) (bS (bin2 ninTQ (vaS 11) (vaS 2)))) (seqS (putS (vaS 2) (vaS 11) (cS (.bl true)))
  (dropS (appS (vaS 8) (vaS 11)))) nxS)))))
  (seqS (setS 5 (callQ lisQ (consA (vaS 8) nilA)))
  (iffS (bS (bin2 eqDQ (vaS 5) (lstS nilA))) bkS nxS)))))
  (retS (tupS (consA (vaS 4) (consA (callQ srtTQ (consA (vaS 2) nilA)) (consA (callQ srtIQ (consA (vaS 3) nilA)) nilA)))))))))))
def F__law_closed : FnD := defD 12 b__law_closed
theorem lv__law_closed__law_begun : 1 ≤ 2 := by decide
theorem lv__law_closed__law_behind : 2 ≤ 2 := by decide
theorem ok__law_closed {P : Program} {w : World} {K : PySem.W.Frag} {mg : Str → Option Value} {base : Heap} (G : Gd P w K mg) (h__law_begun : HasFn P w K mg base 1 "_law_begun" 1 F__law_begun) (h__law_behind : HasFn P w K mg base 2 "_law_behind" 2 F__law_behind) {f : Addr} {fd : FuncData}
    (F : FunD K "_law_closed" "_law_closed" (defArgs s__law_closed) (defBody s__law_closed) (defScope s__law_closed) [] [] f fd) : FnOk P w K mg base CX0 3 f fd P__law_closed (spD ⟨P, w, K⟩ 2 F__law_closed) :=
  d_fn F sc__law_closed rfl fun cdv A outer s H E hr => by
    have sc := sc__law_closed
    exact (dss_cons (ds_set (ps_set (i := 2) sc.nd rfl (by first | exact Or.inl rfl | exact Or.inr rfl) de_dicT))
  (dss_cons (ds_set (ps_set (i := 3) sc.nd rfl (by first | exact Or.inl rfl | exact Or.inr rfl) (de_dicI pe_dnewK)))
  (dss_cons (ds_set (ps_set (i := 4) sc.nd rfl (by first | exact Or.inl rfl | exact Or.inr rfl) de_non))
  (dss_cons (ds_set (ps_set (i := 5) sc.nd rfl (by first | exact Or.inl rfl | exact Or.inr rfl) (de_call h__law_begun (hr.mono (lv__law_closed__law_begun)) rfl (len_cons len_nil) (da_cons (de_var (pv 1)) da_nil))))
  (dss_cons (ds_for PassesOwn.never rfl (di_list (de_var (pv 5))) (dg_name (i := 6) (pg_name (i := 6) sc.nd rfl (by first | exact Or.inl rfl | exact Or.inr rfl))) (dss_one (ds_put (ps_asg de_bl (pg_sub (de_var (pv 2)) (de_var (pv 6)) (set_dict (hu9 hr)))))))
  (dss_cons (ds_for PassesOwn.never rfl (di_range1 (pi_range1 rfl G.b_range (da_cons de_int da_nil))) (dg_name (i := 7) (pg_name (i := 7) sc.nd rfl (by first | exact Or.inl rfl | exact Or.inr rfl))) (dss_cons (ds_set (ps_set (i := 8) sc.nd rfl (by first | exact Or.inl rfl | exact Or.inr rfl) (de_lstM da_nil)))
  (dss_cons (ds_for PassesOwn.never rfl (di_list (de_var (pv 5))) (dg_name (i := 6) (pg_name (i := 6) sc.nd rfl (by first | exact Or.inl rfl | exact Or.inr rfl))) (dss_one (ds_for PassesOwn.never rfl (di_list (de_call h__law_behind (hr.mono (lv__law_closed__law_behind)) rfl (len_cons (len_cons len_nil)) (da_cons (de_var (pv 0)) (da_cons (de_var (pv 6)) da_nil)))) (dg_tup (pg_tup rfl (dgs_cons (dg_name (i := 9) (pg_name (i := 9) sc.nd rfl (by first | exact Or.inl rfl | exact Or.inr rfl))) (dgs_cons (dg_name (i := 10) (pg_name (i := 10) sc.nd rfl (by first | exact Or.inl rfl | exact Or.inr rfl))) (dgs_cons (dg_name (i := 11) (pg_name (i := 11) sc.nd rfl (by first | exact Or.inl rfl | exact Or.inr rfl))) dgs_nil))))) (dss_cons (ds_if (dt_cmp opd_isnot (de_var (pv 9)) de_non (nomark _)) (dss_one (ds_put (ps_asg de_bl (pg_sub (de_var (pv 3)) (de_var (pv 9)) (set_dict (hu9 hr)))))) dss_nil)
  (dss_cons (ds_if (dw_t (dw_and (dt_not (dt_truth (de_var (pv 10)) fun _ => rfl)) (dw_and1 (dt_cmp opd_is (de_var (pv 4)) de_non (nomark _))))) (dss_one (ds_set (ps_set (i := 4) sc.nd rfl (by first | exact Or.inl rfl | exact Or.inr rfl) (de_op opd_add (de_var (pv 7)) de_int)))) dss_nil)
  (dss_one (ds_if (dw_t (dw_and (dt_truth (de_var (pv 10)) fun _ => rfl) (dw_and1 (dt_cmp (opd_ninT (hu9 hr)) (de_var (pv 11)) (de_var (pv 2)) (by with_unfolding_all rfl))))) (dss_cons (ds_put (ps_asg de_bl (pg_sub (de_var (pv 2)) (de_var (pv 11)) (set_dict (hu9 hr)))))
  (dss_one (ds_expr (de_app (pe_bm PySem.F.plainAttrs_list PySem.F.slot_list_append PySem.F.type_list_append mt_append (de_var (pv 8)) (pa_cons (de_var (pv 11)) pa_nil)))))) dss_nil)))))))
  (dss_cons (ds_set (ps_set (i := 5) sc.nd rfl (by first | exact Or.inl rfl | exact Or.inr rfl) (de_callP (pe_callTy cd_list rfl G.b_list (by decide +kernel) (da_cons (de_var (pv 8)) da_nil)))))
  (dss_one (ds_if (dt_cmp (opd_eqD (hu64 hr)) (de_var (pv 5)) (de_lst da_nil) (nomark _)) (dss_one ds_break) dss_nil))))))
  (dss_one (ds_ret (de_tup (da_cons (de_var (pv 4)) (da_cons (de_callP (pe_callB (cd_sortT rfl (hu64 hr)) rfl G.b_sorted (by decide +kernel) (da_cons (de_var (pv 2)) da_nil))) (da_cons (de_callP (pe_callB (cd_sortI rfl) rfl G.b_sorted (by decide +kernel) (da_cons (de_var (pv 3)) da_nil))) da_nil))))))))))))
end T
namespace T
open PySem PySem.Spec PyProof.Rows L2 Dm
/-! _law_is_steps -/
abbrev s__law_is_steps : Stmt := topS 96
abbrev N__law_is_steps : List Str := ["_law_steps", "_law_step"]
abbrev P__law_is_steps : List Str := ["_law_steps"]
theorem sc__law_is_steps : FnScope N__law_is_steps P__law_is_steps (defScope s__law_is_steps) := ⟨rfl, rfl, rfl, by decide +kernel, rfl, by decide +kernel, by decide +kernel⟩
def b__law_is_steps : SS := (seqS (iffS (notT (trS (isiS .tuple (vaS 0)))) (retS (cS (.bl false))) nxS)
  (seqS (forS (itTS (vaS 0)) (nmG 1) (iffS (orT (notT (trS (isiS (.own 1) (vaS 1)))) (orT (notT (trS (callF F__law_whole (consA (fldS "delay" (vaS 1)) nilA)))) (bS (bin2 ltQ (fldS "delay" (vaS 1)) (cS (.int 0)))))) (retS (cS (.bl false))) nxS))
  (retS (cS (.bl true)))))
def F__law_is_steps : FnD := defD 2 b__law_is_steps
theorem lv__law_is_steps__law_whole : 1 ≤ 1 := by decide
theorem ok__law_is_steps {P : Program} {w : World} {K : PySem.W.Frag} {mg : Str → Option Value} {base : Heap} (G : Gd P w K mg) (h__law_whole : HasFn P w K mg base 1 "_law_whole" 1 F__law_whole) {f : Addr} {fd : FuncData}
    (F : FunD K "_law_is_steps" "_law_is_steps" (defArgs s__law_is_steps) (defBody s__law_is_steps) (defScope s__law_is_steps) [] [] f fd) : FnOk P w K mg base CX0 2 f fd P__law_is_steps (spD ⟨P, w, K⟩ 1 F__law_is_steps) :=
  d_fn F sc__law_is_steps rfl fun cdv A outer s H E hr => by
    have sc := sc__law_is_steps
    exact (dss_cons (ds_if (dt_not (dt_truth (de_isi (t := .tuple) (pe_callB (call_isiD G.O .tuple) rfl G.b_isinstance (by decide +kernel) (pa_cons (de_var (pv 0)) (pa_cons (pe_bltn rfl G.b_tuple (by decide +kernel) rfl) pa_nil)))) fun _ => rfl)) (dss_one (ds_ret de_bl)) dss_nil)
  (dss_cons (ds_for PassesOwn.never rfl (di_tup (de_var (pv 0))) (dg_name (i := 1) (pg_name (i := 1) sc.nd rfl (by first | exact Or.inl rfl | exact Or.inr rfl))) (dss_one (ds_if (dw_t (dw_or (dt_not (dt_truth (de_isi (t := (.own 1)) (pe_callB (call_isiD G.O (.own 1)) rfl G.b_isinstance (by decide +kernel) (pa_cons (de_var (pv 1)) (pa_cons (pe_glob rfl G.k_Step rfl) pa_nil)))) fun _ => rfl)) (dw_or (dt_not (dt_truth (de_call h__law_whole (hr.mono (lv__law_is_steps__law_whole)) rfl (len_cons len_nil) (da_cons (de_fld G.O (de_var (pv 1)) rfl) da_nil)) fun _ => rfl)) (dw_or1 (dt_cmp opd_lt (de_fld G.O (de_var (pv 1)) rfl) de_int (nomark _)))))) (dss_one (ds_ret de_bl)) dss_nil)))
  (dss_one (ds_ret de_bl))))
end T
namespace T
open PySem PySem.Spec PyProof.Rows L2 Dm
/-! _law_erring -/
abbrev s__law_erring : Stmt := topS 97
abbrev N__law_erring : List Str := ["_law_book_here", "_law_word", "_law_situation", "_law_steps", "_law_spot_here", "_law_number", "_law_step", "_law_move", "_law_meant_here"]
abbrev P__law_erring : List Str := ["_law_book_here", "_law_word", "_law_situation", "_law_steps"]
theorem sc__law_erring : FnScope N__law_erring P__law_erring (defScope s__law_erring) := ⟨rfl, rfl, rfl, by decide +kernel, rfl, by decide +kernel, by decide +kernel⟩
def b__law_erring : SS := (seqS (setS 4 (tupS (consA (fldS "teller" (vaS 2)) (consA (fldS "hearer" (vaS 2)) (consA (fldS "day" (vaS 2)) (consA (fldS "place" (vaS 2)) nilA))))))
  (seqS (forS (itES (consA (vaS 3) nilA)) (tupG 2 (consG (nmG 5) (consG (nmG 6) nilG))) (seqS (setS 7 (tupS (consA (fldS "delay" (vaS 6)) (consA (fldS "hearer" (vaS 6)) (consA (fldS "place" (vaS 6)) nilA)))))
  (seqS (setS 8 (callF F__law_meant (consA (vaS 1) (consA (vaS 4) nilA))))
  (seqS (setS 1 (bin2 ixQ (callF F__law_written (consA (vaS 0) (consA (vaS 1) (consA (vaS 4) (consA (vaS 7) nilA))))) (cS (.int 1))))
  (seqS (setS 4 (callF F__law_after (consA (vaS 4) (consA (vaS 7) nilA))))
  (iffS (bS (bin2 neQ (callF F__law_meant (consA (vaS 1) (consA (vaS 4) nilA))) (vaS 8))) (retS (vaS 5)) nxS))))))
  (retS (cS .non))))
def F__law_erring : FnD := defD 9 b__law_erring
theorem lv__law_erring__law_after : 1 ≤ 2 := by decide
theorem lv__law_erring__law_meant : 1 ≤ 2 := by decide
theorem lv__law_erring__law_written : 2 ≤ 2 := by decide
theorem ok__law_erring {P : Program} {w : World} {K : PySem.W.Frag} {mg : Str → Option Value} {base : Heap} (G : Gd P w K mg) (h__law_after : HasFn P w K mg base 1 "_law_after" 2 F__law_after) (h__law_meant : HasFn P w K mg base 1 "_law_meant" 2 F__law_meant) (h__law_written : HasFn P w K mg base 2 "_law_written" 4 F__law_written) {f : Addr} {fd : FuncData}
    (F : FunD K "_law_erring" "_law_erring" (defArgs s__law_erring) (defBody s__law_erring) (defScope s__law_erring) [] [] f fd) : FnOk P w K mg base CX0 3 f fd P__law_erring (spD ⟨P, w, K⟩ 4 F__law_erring) :=
  d_fn F sc__law_erring rfl fun cdv A outer s H E hr => by
    have sc := sc__law_erring
    exact (dss_cons (ds_set (ps_set (i := 4) sc.nd rfl (by first | exact Or.inl rfl | exact Or.inr rfl) (de_tup (da_cons (de_fld G.O (de_var (pv 2)) rfl) (da_cons (de_fld G.O (de_var (pv 2)) rfl) (da_cons (de_fld G.O (de_var (pv 2)) rfl) (da_cons (de_fld G.O (de_var (pv 2)) rfl) da_nil)))))))
  (dss_cons (ds_for PassesOwn.never rfl (di_enum (pi_enumA rfl G.b_enumerate (da_cons (de_var (pv 3)) da_nil))) (dg_tup (pg_tup rfl (dgs_cons (dg_name (i := 5) (pg_name (i := 5) sc.nd rfl (by first | exact Or.inl rfl | exact Or.inr rfl))) (dgs_cons (dg_name (i := 6) (pg_name (i := 6) sc.nd rfl (by first | exact Or.inl rfl | exact Or.inr rfl))) dgs_nil)))) (dss_cons (ds_set (ps_set (i := 7) sc.nd rfl (by first | exact Or.inl rfl | exact Or.inr rfl) (de_tup (da_cons (de_fld G.O (de_var (pv 6)) rfl) (da_cons (de_fld G.O (de_var (pv 6)) rfl) (da_cons (de_fld G.O (de_var (pv 6)) rfl) da_nil))))))
  (dss_cons (ds_set (ps_set (i := 8) sc.nd rfl (by first | exact Or.inl rfl | exact Or.inr rfl) (de_call h__law_meant (hr.mono (lv__law_erring__law_meant)) rfl (len_cons (len_cons len_nil)) (da_cons (de_var (pv 1)) (da_cons (de_var (pv 4)) da_nil)))))
  (dss_cons (ds_set (ps_set (i := 1) sc.nd rfl (by first | exact Or.inl rfl | exact Or.inr rfl) (de_ix (de_call h__law_written (hr.mono (lv__law_erring__law_written)) rfl (len_cons (len_cons (len_cons (len_cons len_nil)))) (da_cons (de_var (pv 0)) (da_cons (de_var (pv 1)) (da_cons (de_var (pv 4)) (da_cons (de_var (pv 7)) da_nil))))) de_int fun _ _ => rfl)))
  (dss_cons (ds_set (ps_set (i := 4) sc.nd rfl (by first | exact Or.inl rfl | exact Or.inr rfl) (de_call h__law_after (hr.mono (lv__law_erring__law_after)) rfl (len_cons (len_cons len_nil)) (da_cons (de_var (pv 4)) (da_cons (de_var (pv 7)) da_nil)))))
  (dss_one (ds_if (dt_cmp opd_ne (de_call h__law_meant (hr.mono (lv__law_erring__law_meant)) rfl (len_cons (len_cons len_nil)) (da_cons (de_var (pv 1)) (da_cons (de_var (pv 4)) da_nil))) (de_var (pv 8)) (nomark _)) (dss_one (ds_ret (de_var (pv 5)))) dss_nil)))))))
  (dss_one (ds_ret de_non))))
end T
namespace T
open PySem PySem.Spec PyProof.Rows L2 Dm
/-! _law_wrong_right -/
abbrev s__law_wrong_right : Stmt := topS 98
abbrev N__law_wrong_right : List Str := ["_law_book_here", "_law_word", "_law_told", "_law_least"]
abbrev P__law_wrong_right : List Str := ["_law_book_here", "_law_word", "_law_told", "_law_least"]
theorem sc__law_wrong_right : FnScope N__law_wrong_right P__law_wrong_right (defScope s__law_wrong_right) := ⟨rfl, rfl, rfl, by decide +kernel, rfl, by decide +kernel, by decide +kernel⟩
def b__law_wrong_right : SS := (seqS (iffS (orT (notT (trS (isiS (.own 4) (vaS 2)))) (orT (notT (trS (isiS (.own 0) (fldS "situation" (vaS 2))))) (notT (trS (callF F__law_is_steps (consA (fldS "steps" (vaS 2)) nilA)))))) (retS (cS (.bl false))) nxS)
  (retS (andV (bin2 eqQ (callQ lenQ (consA (fldS "steps" (vaS 2)) nilA)) (vaS 3)) (bin2 eqQ (callF F__law_erring (consA (vaS 0) (consA (vaS 1) (consA (fldS "situation" (vaS 2)) (consA (fldS "steps" (vaS 2)) nilA))))) (bin2 subQ (vaS 3) (cS (.int 1)))))))
def F__law_wrong_right : FnD := defD 4 b__law_wrong_right
theorem lv__law_wrong_right__law_erring : 3 ≤ 3 := by decide
theorem lv__law_wrong_right__law_is_steps : 2 ≤ 3 := by decide
theorem ok__law_wrong_right {P : Program} {w : World} {K : PySem.W.Frag} {mg : Str → Option Value} {base : Heap} (G : Gd P w K mg) (h__law_erring : HasFn P w K mg base 3 "_law_erring" 4 F__law_erring) (h__law_is_steps : HasFn P w K mg base 2 "_law_is_steps" 1 F__law_is_steps) {f : Addr} {fd : FuncData}
    (F : FunD K "_law_wrong_right" "_law_wrong_right" (defArgs s__law_wrong_right) (defBody s__law_wrong_right) (defScope s__law_wrong_right) [] [] f fd) : FnOk P w K mg base CX0 4 f fd P__law_wrong_right (spD ⟨P, w, K⟩ 4 F__law_wrong_right) :=
  d_fn F sc__law_wrong_right rfl fun cdv A outer s H E hr => by
    have sc := sc__law_wrong_right
    exact (dss_cons (ds_if (dw_t (dw_or (dt_not (dt_truth (de_isi (t := (.own 4)) (pe_callB (call_isiD G.O (.own 4)) rfl G.b_isinstance (by decide +kernel) (pa_cons (de_var (pv 2)) (pa_cons (pe_glob rfl G.k_WrongChain rfl) pa_nil)))) fun _ => rfl)) (dw_or (dt_not (dt_truth (de_isi (t := (.own 0)) (pe_callB (call_isiD G.O (.own 0)) rfl G.b_isinstance (by decide +kernel) (pa_cons (de_fld G.O (de_var (pv 2)) rfl) (pa_cons (pe_glob rfl G.k_Situation rfl) pa_nil)))) fun _ => rfl)) (dw_or1 (dt_not (dt_truth (de_call h__law_is_steps (hr.mono (lv__law_wrong_right__law_is_steps)) rfl (len_cons len_nil) (da_cons (de_fld G.O (de_var (pv 2)) rfl) da_nil)) fun _ => rfl)))))) (dss_one (ds_ret de_bl)) dss_nil)
  (dss_one (ds_ret (de_and (de_cmp opd_eq (de_callP (pe_callB (cd_len) rfl G.b_len (by decide +kernel) (da_cons (de_fld G.O (de_var (pv 2)) rfl) da_nil))) (de_var (pv 3)) (nomark _)) (de_one (de_cmp opd_eq (de_call h__law_erring (hr.mono (lv__law_wrong_right__law_erring)) rfl (len_cons (len_cons (len_cons (len_cons len_nil)))) (da_cons (de_var (pv 0)) (da_cons (de_var (pv 1)) (da_cons (de_fld G.O (de_var (pv 2)) rfl) (da_cons (de_fld G.O (de_var (pv 2)) rfl) da_nil))))) (de_op opd_sub (de_var (pv 3)) de_int) (nomark _)))))))
end T
namespace T
open PySem PySem.Spec PyProof.Rows L2 Dm
/-! _law_answer_right -/
abbrev s__law_answer_right : Stmt := topS 99
abbrev N__law_answer_right : List Str := ["_law_book_here", "_law_made", "_law_word", "_law_least", "_law_rows", "_law_used", "_law_told", "_law_reached", "_law_row", "_law_thing"]
abbrev P__law_answer_right : List Str := ["_law_book_here", "_law_made", "_law_word"]
theorem sc__law_answer_right : FnScope N__law_answer_right P__law_answer_right (defScope s__law_answer_right) := ⟨rfl, rfl, rfl, by decide +kernel, rfl, by decide +kernel, by decide +kernel⟩
def b__law_answer_right : SS := (seqS (asgS (callF F__law_closed (consA (vaS 0) (consA (vaS 2) nilA))) (tupG 3 (consG (nmG 3) (consG (nmG 4) (consG (nmG 5) nilG)))))
  (seqS (setS 6 (callF F_always_right (consA (vaS 1) (consA (vaS 2) nilA))))
  (seqS (setS 7 (callF F_rules_reached (consA (vaS 1) (consA (vaS 2) nilA))))
  (seqS (iffS (orT (bS (bin2 neDQ (vaS 7) (callQ tupQ (consA (vaS 5) nilA)))) (notT (trS (isiS .tuple (vaS 7))))) (retS (cS (.bl false))) nxS)
  (seqS (iffS (bS (bin2 isnNQ (vaS 3) (cS .non))) (retS (callF F__law_wrong_right (consA (vaS 0) (consA (vaS 2) (consA (vaS 6) (consA (vaS 3) nilA)))))) nxS)
  (seqS (iffS (orT (notT (trS (isiS (.own 3) (vaS 6)))) (orT (notT (trS (isiS .tuple (fldS "rows" (vaS 6))))) (bS (bin2 neDQ (fldS "rows" (vaS 6)) (callQ tupQ (consA (vaS 4) nilA)))))) (retS (cS (.bl false))) nxS)
  (seqS (forS (itTS (fldS "rows" (vaS 6))) (nmG 8) (iffS (orT (notT (trS (isiS .tuple (vaS 8)))) (trS (lcS [9] (itTS (cutS1 1 (vaS 8))) (nmG 9) (andT (bS (bin2 isnNQ (vaS 9) (cS (.bl true)))) (bS (bin2 isnNQ (vaS 9) (cS (.bl false))))) (vaS 9)))) (retS (cS (.bl false))) nxS))
  (retS (cS (.bl true))))))))))
def F__law_answer_right : FnD := defD 10 b__law_answer_right
theorem lv__law_answer_right__law_closed : 3 ≤ 5 := by decide
theorem lv__law_answer_right__law_wrong_right : 4 ≤ 5 := by decide
theorem lv__law_answer_right_always_right : 5 ≤ 5 := by decide
theorem lv__law_answer_right_rules_reached : 5 ≤ 5 := by decide
theorem ok__law_answer_right {P : Program} {w : World} {K : PySem.W.Frag} {mg : Str → Option Value} {base : Heap} (G : Gd P w K mg) (h__law_closed : HasFn P w K mg base 3 "_law_closed" 2 F__law_closed) (h__law_wrong_right : HasFn P w K mg base 4 "_law_wrong_right" 4 F__law_wrong_right) (h_always_right : HasFn P w K mg base 5 "always_right" 2 F_always_right) (h_rules_reached : HasFn P w K mg base 5 "rules_reached" 2 F_rules_reached) {f : Addr} {fd : FuncData}
    (F : FunD K "_law_answer_right" "_law_answer_right" (defArgs s__law_answer_right) (defBody s__law_answer_right) (defScope s__law_answer_right) [] [] f fd) : FnOk P w K mg base CX0 6 f fd P__law_answer_right (spD ⟨P, w, K⟩ 3 F__law_answer_right) :=
  d_fn F sc__law_answer_right rfl fun cdv A outer s H E hr => by
    have sc := sc__law_answer_right
    exact (dss_cons (ds_asg (de_call h__law_closed (hr.mono (lv__law_answer_right__law_closed)) rfl (len_cons (len_cons len_nil)) (da_cons (de_var (pv 0)) (da_cons (de_var (pv 2)) da_nil))) (dg_tup (pg_tup rfl (dgs_cons (dg_name (i := 3) (pg_name (i := 3) sc.nd rfl (by first | exact Or.inl rfl | exact Or.inr rfl))) (dgs_cons (dg_name (i := 4) (pg_name (i := 4) sc.nd rfl (by first | exact Or.inl rfl | exact Or.inr rfl))) (dgs_cons (dg_name (i := 5) (pg_name (i := 5) sc.nd rfl (by first | exact Or.inl rfl | exact Or.inr rfl))) dgs_nil))))))
  (dss_cons (ds_set (ps_set (i := 6) sc.nd rfl (by first | exact Or.inl rfl | exact Or.inr rfl) (de_call h_always_right (hr.mono (lv__law_answer_right_always_right)) rfl (len_cons (len_cons len_nil)) (da_cons (de_var (pv 1)) (da_cons (de_var (pv 2)) da_nil)))))
  (dss_cons (ds_set (ps_set (i := 7) sc.nd rfl (by first | exact Or.inl rfl | exact Or.inr rfl) (de_call h_rules_reached (hr.mono (lv__law_answer_right_rules_reached)) rfl (len_cons (len_cons len_nil)) (da_cons (de_var (pv 1)) (da_cons (de_var (pv 2)) da_nil)))))
  (dss_cons (ds_if (dw_t (dw_or (dt_cmp (opd_neD (hu64 hr)) (de_var (pv 7)) (de_callP (pe_callTy cd_tuple rfl G.b_tuple (by decide +kernel) (da_cons (de_var (pv 5)) da_nil))) (nomark _)) (dw_or1 (dt_not (dt_truth (de_isi (t := .tuple) (pe_callB (call_isiD G.O .tuple) rfl G.b_isinstance (by decide +kernel) (pa_cons (de_var (pv 7)) (pa_cons (pe_bltn rfl G.b_tuple (by decide +kernel) rfl) pa_nil)))) fun _ => rfl))))) (dss_one (ds_ret de_bl)) dss_nil)
  (dss_cons (ds_if (dt_cmp opd_isnot (de_var (pv 3)) de_non (nomark _)) (dss_one (ds_ret (de_call h__law_wrong_right (hr.mono (lv__law_answer_right__law_wrong_right)) rfl (len_cons (len_cons (len_cons (len_cons len_nil)))) (da_cons (de_var (pv 0)) (da_cons (de_var (pv 2)) (da_cons (de_var (pv 6)) (da_cons (de_var (pv 3)) da_nil))))))) dss_nil)
  (dss_cons (ds_if (dw_t (dw_or (dt_not (dt_truth (de_isi (t := (.own 3)) (pe_callB (call_isiD G.O (.own 3)) rfl G.b_isinstance (by decide +kernel) (pa_cons (de_var (pv 6)) (pa_cons (pe_glob rfl G.k_Closed rfl) pa_nil)))) fun _ => rfl)) (dw_or (dt_not (dt_truth (de_isi (t := .tuple) (pe_callB (call_isiD G.O .tuple) rfl G.b_isinstance (by decide +kernel) (pa_cons (de_fld G.O (de_var (pv 6)) rfl) (pa_cons (pe_bltn rfl G.b_tuple (by decide +kernel) rfl) pa_nil)))) fun _ => rfl)) (dw_or1 (dt_cmp (opd_neD (hu64 hr)) (de_fld G.O (de_var (pv 6)) rfl) (de_callP (pe_callTy cd_tuple rfl G.b_tuple (by decide +kernel) (da_cons (de_var (pv 4)) da_nil))) (nomark _)))))) (dss_one (ds_ret de_bl)) dss_nil)
  (dss_cons (ds_for PassesOwn.never rfl (di_tup (de_fld G.O (de_var (pv 6)) rfl)) (dg_name (i := 8) (pg_name (i := 8) sc.nd rfl (by first | exact Or.inl rfl | exact Or.inr rfl))) (dss_one (ds_if (dw_t (dw_or (dt_not (dt_truth (de_isi (t := .tuple) (pe_callB (call_isiD G.O .tuple) rfl G.b_isinstance (by decide +kernel) (pa_cons (de_var (pv 8)) (pa_cons (pe_bltn rfl G.b_tuple (by decide +kernel) rfl) pa_nil)))) fun _ => rfl)) (dw_or1 (dt_truth (de_lc (tgt_name (by decide)) (pe_lc rfl sc.nd (di_tup (de_cut1 (n := 1) (pe_slice sl_tupA (de_var (pv 8)) (po_some pe_int) po_none))) (own := [("_law_thing", 9)]) (BlkOk.mk (N := N__law_answer_right) (sc := defScope s__law_answer_right) rfl (by decide +kernel) (by decide +kernel) (by decide +kernel) (by decide +kernel)) (fun s H C cl fp => (pg_name (i := 9) sc.nd rfl (by first | exact Or.inl rfl | exact Or.inr rfl))) (fun s H C cl fp => (dts_one (dw_t (dw_and (dt_cmp opd_isnot (de_var (pv 9)) de_bl (nomark _)) (dw_and1 (dt_cmp opd_isnot (de_var (pv 9)) de_bl (nomark _))))))) (fun s H C cl fp => (de_var (pv 9))))) fun _ => rfl)))) (dss_one (ds_ret de_bl)) dss_nil)))
  (dss_one (ds_ret de_bl)))))))))
end T
namespace T
open PySem PySem.Spec PyProof.Rows L2 Dm
/-! _law_same_words -/
abbrev s__law_same_words : Stmt := topS 100
abbrev N__law_same_words : List Str := ["_law_book_here", "_law_word", "_law_other", "_law_mixed_here"]
abbrev P__law_same_words : List Str := ["_law_book_here", "_law_word", "_law_other"]
theorem sc__law_same_words : FnScope N__law_same_words P__law_same_words (defScope s__law_same_words) := ⟨rfl, rfl, rfl, by decide +kernel, rfl, by decide +kernel, by decide +kernel⟩
def b__law_same_words : SS := (seqS (setS 3 (ifS (bS (bin2 inQ (bin2 ixQ (vaS 1) (cS (.int 0))) (lstS (consA (cS (.str "I")) (consA (cS (.str "you")) (consA (cS (.str "name")) nilA)))))) (lstS (consA (bin2 ixQ (vaS 2) (cS (.int 0))) (consA (bin2 ixQ (vaS 0) (cS (.int 1))) (consA (bin2 ixQ (vaS 2) (cS (.int 2))) nilA)))) (lstS (consA (bin2 ixQ (vaS 2) (cS (.int 0))) (consA (bin2 ixQ (vaS 2) (cS (.int 1))) (consA (bin2 ixQ (vaS 0) (cS (.int 2))) nilA))))))
  (retS (callF F__law_answer_right (consA (vaS 3) (consA (callF F__law_made_book (consA (vaS 3) nilA)) (consA (vaS 1) nilA))))))
def F__law_same_words : FnD := defD 4 b__law_same_words
theorem lv__law_same_words__law_answer_right : 6 ≤ 6 := by decide
theorem lv__law_same_words__law_made_book : 6 ≤ 6 := by decide
theorem ok__law_same_words {P : Program} {w : World} {K : PySem.W.Frag} {mg : Str → Option Value} {base : Heap} (G : Gd P w K mg) (h__law_answer_right : HasFn P w K mg base 6 "_law_answer_right" 3 F__law_answer_right) (h__law_made_book : HasFn P w K mg base 6 "_law_made_book" 1 F__law_made_book) {f : Addr} {fd : FuncData}
    (F : FunD K "_law_same_words" "_law_same_words" (defArgs s__law_same_words) (defBody s__law_same_words) (defScope s__law_same_words) [] [] f fd) : FnOk P w K mg base CX0 7 f fd P__law_same_words (spD ⟨P, w, K⟩ 3 F__law_same_words) :=
  d_fn F sc__law_same_words rfl fun cdv A outer s H E hr => by
    have sc := sc__law_same_words
    exact (dss_cons (ds_set (ps_set (i := 3) sc.nd rfl (by first | exact Or.inl rfl | exact Or.inr rfl) (de_if (dt_cmp opd_in (de_ix (de_var (pv 1)) de_int fun _ _ => rfl) (de_lst (da_cons de_str (da_cons de_str (da_cons de_str da_nil)))) (by with_unfolding_all rfl)) (de_lst (da_cons (de_ix (de_var (pv 2)) de_int fun _ _ => rfl) (da_cons (de_ix (de_var (pv 0)) de_int fun _ _ => rfl) (da_cons (de_ix (de_var (pv 2)) de_int fun _ _ => rfl) da_nil)))) (de_lst (da_cons (de_ix (de_var (pv 2)) de_int fun _ _ => rfl) (da_cons (de_ix (de_var (pv 2)) de_int fun _ _ => rfl) (da_cons (de_ix (de_var (pv 0)) de_int fun _ _ => rfl) da_nil)))))))
  (dss_one (ds_ret (de_call h__law_answer_right (hr.mono (lv__law_same_words__law_answer_right)) rfl (len_cons (len_cons (len_cons len_nil))) (da_cons (de_var (pv 3)) (da_cons (de_call h__law_made_book (hr.mono (lv__law_same_words__law_made_book)) rfl (len_cons len_nil) (da_cons (de_var (pv 3)) da_nil)) (da_cons (de_var (pv 1)) da_nil)))))))
end T
namespace T
open PySem PySem.Spec PyProof.Rows L2 Dm
/-! _law_results_right -/
abbrev s__law_results_right : Stmt := topS 101
abbrev N__law_results_right : List Str := ["_law_hand_here", "_law_names_here", "_law_places", "_law_spot_here", "_law_moves_here", "_law_situation", "_law_steps", "_law_one", "_law_err"]
abbrev P__law_results_right : List Str := ["_law_hand_here", "_law_names_here", "_law_places"]
theorem sc__law_results_right : FnScope N__law_results_right P__law_results_right (defScope s__law_results_right) := ⟨rfl, rfl, rfl, by decide +kernel, rfl, by decide +kernel, by decide +kernel⟩
def b__law_results_right : SS := (seqS (setS 3 (callF F__law_spot (consA (vaS 0) (consA (vaS 1) (consA (vaS 2) nilA)))))
  (seqS (setS 4 (callF F__law_moves (consA (vaS 0) (consA (vaS 1) (consA (vaS 2) (consA (cS (.int 3)) nilA))))))
  (seqS (setS 5 (callF F__law_made_situation (consA (vaS 3) nilA)))
  (seqS (setS 6 (callQ tupQ (consA (callF F__law_made_steps (consA (vaS 4) nilA)) nilA)))
  (seqS (setS 7 (mkF 4 F_WrongChain_init (consA (vaS 5) (consA (vaS 6) nilA))))
  (seqS (iffS (orT (notT (bS (eqIS 4 F_WrongChain_eq (vaS 7) (mkF 4 F_WrongChain_init (consA (callF F__law_made_situation (consA (vaS 3) nilA)) (consA (callQ tupQ (consA (callF F__law_made_steps (consA (vaS 4) nilA)) nilA)) nilA)))))) (bS (eqIS 4 F_WrongChain_eq (vaS 7) (mkF 4 F_WrongChain_init (consA (metF 0 F_Situation_moved (vaS 5) (consA (cS (.int 1)) nilA)) (consA (vaS 6) nilA)))))) (retS (cS (.bl false))) nxS)
  (seqS (iffS (orT (bS (eqIS 4 F_WrongChain_eq (vaS 7) (mkF 4 F_WrongChain_init (consA (vaS 5) (consA (bin2 addQ (vaS 6) (tupS (consA (mkF 1 F_Step_init (consA (cS (.int 0)) (consA (bin2 ixQ (vaS 1) (cS (.int 0))) (consA (bin2 ixQ (vaS 2) (cS (.int 0))) nilA)))) nilA))) nilA))))) (orT (notT (bS (eqIS 0 F_Situation_eq (fldS "situation" (vaS 7)) (vaS 5)))) (bS (bin2 neTQ (fldS "steps" (vaS 7)) (vaS 6))))) (retS (cS (.bl false))) nxS)
  (seqS (setS 8 (mkF 5 F_TalkErr_init (consA (tupS (consA (cS (.int 1)) nilA)) (consA (cS (.int 2)) (consA (vaS 7) nilA)))))
  (seqS (iffS (orT (bS (eqIS 5 F_TalkErr_eq (vaS 8) (mkF 5 F_TalkErr_init (consA (tupS (consA (cS (.int 0)) nilA)) (consA (cS (.int 2)) (consA (vaS 7) nilA)))))) (orT (bS (eqIS 5 F_TalkErr_eq (vaS 8) (mkF 5 F_TalkErr_init (consA (tupS (consA (cS (.int 1)) nilA)) (consA (cS (.int 0)) (consA (vaS 7) nilA)))))) (bS (eqIS 5 F_TalkErr_eq (vaS 8) (mkF 5 F_TalkErr_init (consA (tupS (consA (cS (.int 1)) nilA)) (consA (cS (.int 2)) (consA (mkF 4 F_WrongChain_init (consA (metF 0 F_Situation_moved (vaS 5) (consA (cS (.int 2)) nilA)) (consA (vaS 6) nilA))) nilA)))))))) (retS (cS (.bl false))) nxS)
  (retS (andV (eqIS 5 F_TalkErr_eq (vaS 8) (mkF 5 F_TalkErr_init (consA (tupS (consA (cS (.int 1)) nilA)) (consA (cS (.int 2)) (consA (mkF 4 F_WrongChain_init (consA (vaS 5) (consA (vaS 6) nilA))) nilA))))) (andV (bin2 eqDQ (tupS (consA (fldS "path" (vaS 8)) (consA (fldS "index" (vaS 8)) nilA))) (tupS (consA (tupS (consA (cS (.int 1)) nilA)) (consA (cS (.int 2)) nilA)))) (andV (eqIS 4 F_WrongChain_eq (fldS "chain" (vaS 8)) (vaS 7)) (bin2 isNQ (eqIS 4 F_WrongChain_eq (vaS 7) (vaS 8)) (cS (.bl false))))))))))))))))
def F__law_results_right : FnD := defD 9 b__law_results_right
theorem lv__law_results_right_Situation_eq : 1 ≤ 4 := by decide
theorem lv__law_results_right_Situation_moved : 4 ≤ 4 := by decide
theorem lw__law_results_right_Step_eq : 2 ≤ 4 := by decide
theorem lw__law_results_right_Step_init : 3 ≤ 4 := by decide
theorem lv__law_results_right_TalkErr_eq : 4 ≤ 4 := by decide
theorem lw__law_results_right_TalkErr_init : 2 ≤ 4 := by decide
theorem lv__law_results_right_WrongChain_eq : 3 ≤ 4 := by decide
theorem lw__law_results_right_WrongChain_init : 2 ≤ 4 := by decide
theorem lv__law_results_right__law_made_situation : 4 ≤ 4 := by decide
theorem lv__law_results_right__law_made_steps : 4 ≤ 4 := by decide
theorem lv__law_results_right__law_moves : 4 ≤ 4 := by decide
theorem lv__law_results_right__law_spot : 4 ≤ 4 := by decide
theorem ok__law_results_right {P : Program} {w : World} {K : PySem.W.Frag} {mg : Str → Option Value} {base : Heap} (G : Gd P w K mg) (h_Situation_eq : HasEq P w K mg base 1 0 F_Situation_eq) (h_Situation_moved : HasMeth P w K mg base 4 0 "moved" 1 F_Situation_moved) (h_Step_eq : HasEq P w K mg base 1 1 F_Step_eq) (h_Step_init : HasMk P w K mg base 2 1 3 F_Step_init) (h_TalkErr_eq : HasEq P w K mg base 4 5 F_TalkErr_eq) (h_TalkErr_init : HasMk P w K mg base 1 5 3 F_TalkErr_init) (h_WrongChain_eq : HasEq P w K mg base 3 4 F_WrongChain_eq) (h_WrongChain_init : HasMk P w K mg base 1 4 2 F_WrongChain_init) (h__law_made_situation : HasFn P w K mg base 4 "_law_made_situation" 1 F__law_made_situation) (h__law_made_steps : HasFn P w K mg base 4 "_law_made_steps" 1 F__law_made_steps) (h__law_moves : HasFn P w K mg base 4 "_law_moves" 4 F__law_moves) (h__law_spot : HasFn P w K mg base 4 "_law_spot" 3 F__law_spot) {f : Addr} {fd : FuncData}
    (F : FunD K "_law_results_right" "_law_results_right" (defArgs s__law_results_right) (defBody s__law_results_right) (defScope s__law_results_right) [] [] f fd) : FnOk P w K mg base CX0 5 f fd P__law_results_right (spD ⟨P, w, K⟩ 3 F__law_results_right) :=
  d_fn F sc__law_results_right rfl fun cdv A outer s H E hr => by
    have sc := sc__law_results_right
    exact (dss_cons (ds_set (ps_set (i := 3) sc.nd rfl (by first | exact Or.inl rfl | exact Or.inr rfl) (de_call h__law_spot (hr.mono (lv__law_results_right__law_spot)) rfl (len_cons (len_cons (len_cons len_nil))) (da_cons (de_var (pv 0)) (da_cons (de_var (pv 1)) (da_cons (de_var (pv 2)) da_nil))))))
  (dss_cons (ds_set (ps_set (i := 4) sc.nd rfl (by first | exact Or.inl rfl | exact Or.inr rfl) (de_call h__law_moves (hr.mono (lv__law_results_right__law_moves)) rfl (len_cons (len_cons (len_cons (len_cons len_nil)))) (da_cons (de_var (pv 0)) (da_cons (de_var (pv 1)) (da_cons (de_var (pv 2)) (da_cons de_int da_nil)))))))
  (dss_cons (ds_set (ps_set (i := 5) sc.nd rfl (by first | exact Or.inl rfl | exact Or.inr rfl) (de_call h__law_made_situation (hr.mono (lv__law_results_right__law_made_situation)) rfl (len_cons len_nil) (da_cons (de_var (pv 3)) da_nil))))
  (dss_cons (ds_set (ps_set (i := 6) sc.nd rfl (by first | exact Or.inl rfl | exact Or.inr rfl) (de_callP (pe_callTy cd_tuple rfl G.b_tuple (by decide +kernel) (da_cons (de_call h__law_made_steps (hr.mono (lv__law_results_right__law_made_steps)) rfl (len_cons len_nil) (da_cons (de_var (pv 4)) da_nil)) da_nil)))))
  (dss_cons (ds_set (ps_set (i := 7) sc.nd rfl (by first | exact Or.inl rfl | exact Or.inr rfl) (de_make h_WrongChain_init rfl (hr.mono (lw__law_results_right_WrongChain_init)) rfl (len_cons (len_cons len_nil)) (da_cons (de_var (pv 5)) (da_cons (de_var (pv 6)) da_nil)))))
  (dss_cons (ds_if (dw_t (dw_or (dt_not (dt_eqI h_WrongChain_eq (hr.mono (lv__law_results_right_WrongChain_eq)) (de_var (pv 7)) (de_make h_WrongChain_init rfl (hr.mono (lw__law_results_right_WrongChain_init)) rfl (len_cons (len_cons len_nil)) (da_cons (de_call h__law_made_situation (hr.mono (lv__law_results_right__law_made_situation)) rfl (len_cons len_nil) (da_cons (de_var (pv 3)) da_nil)) (da_cons (de_callP (pe_callTy cd_tuple rfl G.b_tuple (by decide +kernel) (da_cons (de_call h__law_made_steps (hr.mono (lv__law_results_right__law_made_steps)) rfl (len_cons len_nil) (da_cons (de_var (pv 4)) da_nil)) da_nil))) da_nil))) (nomark _))) (dw_or1 (dt_eqI h_WrongChain_eq (hr.mono (lv__law_results_right_WrongChain_eq)) (de_var (pv 7)) (de_make h_WrongChain_init rfl (hr.mono (lw__law_results_right_WrongChain_init)) rfl (len_cons (len_cons len_nil)) (da_cons (de_meth h_Situation_moved (hr.mono (lv__law_results_right_Situation_moved)) (de_var (pv 5)) (len_cons len_nil) (da_cons de_int da_nil)) (da_cons (de_var (pv 6)) da_nil))) (nomark _))))) (dss_one (ds_ret de_bl)) dss_nil)
  (dss_cons (ds_if (dw_t (dw_or (dt_eqI h_WrongChain_eq (hr.mono (lv__law_results_right_WrongChain_eq)) (de_var (pv 7)) (de_make h_WrongChain_init rfl (hr.mono (lw__law_results_right_WrongChain_init)) rfl (len_cons (len_cons len_nil)) (da_cons (de_var (pv 5)) (da_cons (de_op opd_add (de_var (pv 6)) (de_tup (da_cons (de_make h_Step_init rfl (hr.mono (lw__law_results_right_Step_init)) rfl (len_cons (len_cons (len_cons len_nil))) (da_cons de_int (da_cons (de_ix (de_var (pv 1)) de_int fun _ _ => rfl) (da_cons (de_ix (de_var (pv 2)) de_int fun _ _ => rfl) da_nil)))) da_nil))) da_nil))) (nomark _)) (dw_or (dt_not (dt_eqI h_Situation_eq (hr.mono (lv__law_results_right_Situation_eq)) (de_fld G.O (de_var (pv 7)) rfl) (de_var (pv 5)) (nomark _))) (dw_or1 (dt_cmp (opd_neT h_Step_eq yes_Step (hr.mono (lw__law_results_right_Step_eq))) (de_fld G.O (de_var (pv 7)) rfl) (de_var (pv 6)) (nomark _)))))) (dss_one (ds_ret de_bl)) dss_nil)
  (dss_cons (ds_set (ps_set (i := 8) sc.nd rfl (by first | exact Or.inl rfl | exact Or.inr rfl) (de_make h_TalkErr_init rfl (hr.mono (lw__law_results_right_TalkErr_init)) rfl (len_cons (len_cons (len_cons len_nil))) (da_cons (de_tup (da_cons de_int da_nil)) (da_cons de_int (da_cons (de_var (pv 7)) da_nil))))))
  (dss_cons (ds_if (dw_t (dw_or (dt_eqI h_TalkErr_eq (hr.mono (lv__law_results_right_TalkErr_eq)) (de_var (pv 8)) (de_make h_TalkErr_init rfl (hr.mono (lw__law_results_right_TalkErr_init)) rfl (len_cons (len_cons (len_cons len_nil))) (da_cons (de_tup (da_cons de_int da_nil)) (da_cons de_int (da_cons (de_var (pv 7)) da_nil)))) (nomark _)) (dw_or (dt_eqI h_TalkErr_eq (hr.mono (lv__law_results_right_TalkErr_eq)) (de_var (pv 8)) (de_make h_TalkErr_init rfl (hr.mono (lw__law_results_right_TalkErr_init)) rfl (len_cons (len_cons (len_cons len_nil))) (da_cons (de_tup (da_cons de_int da_nil)) (da_cons de_int (da_cons (de_var (pv 7)) da_nil)))) (nomark _)) (dw_or1 (dt_eqI h_TalkErr_eq (hr.mono (lv__law_results_right_TalkErr_eq)) (de_var (pv 8)) (de_make h_TalkErr_init rfl (hr.mono (lw__law_results_right_TalkErr_init)) rfl (len_cons (len_cons (len_cons len_nil))) (da_cons (de_tup (da_cons de_int da_nil)) (da_cons de_int (da_cons (de_make h_WrongChain_init rfl (hr.mono (lw__law_results_right_WrongChain_init)) rfl (len_cons (len_cons len_nil)) (da_cons (de_meth h_Situation_moved (hr.mono (lv__law_results_right_Situation_moved)) (de_var (pv 5)) (len_cons len_nil) (da_cons de_int da_nil)) (da_cons (de_var (pv 6)) da_nil))) da_nil)))) (nomark _)))))) (dss_one (ds_ret de_bl)) dss_nil)
  (dss_one (ds_ret (de_and (de_eqI h_TalkErr_eq (hr.mono (lv__law_results_right_TalkErr_eq)) (de_var (pv 8)) (de_make h_TalkErr_init rfl (hr.mono (lw__law_results_right_TalkErr_init)) rfl (len_cons (len_cons (len_cons len_nil))) (da_cons (de_tup (da_cons de_int da_nil)) (da_cons de_int (da_cons (de_make h_WrongChain_init rfl (hr.mono (lw__law_results_right_WrongChain_init)) rfl (len_cons (len_cons len_nil)) (da_cons (de_var (pv 5)) (da_cons (de_var (pv 6)) da_nil))) da_nil)))) (nomark _)) (de_and (de_cmp (opd_eqD (hu64 hr)) (de_tup (da_cons (de_fld G.O (de_var (pv 8)) rfl) (da_cons (de_fld G.O (de_var (pv 8)) rfl) da_nil))) (de_tup (da_cons (de_tup (da_cons de_int da_nil)) (da_cons de_int da_nil))) (nomark _)) (de_and (de_eqI h_WrongChain_eq (hr.mono (lv__law_results_right_WrongChain_eq)) (de_fld G.O (de_var (pv 8)) rfl) (de_var (pv 7)) (nomark _)) (de_one (de_cmp opd_is (de_eqI h_WrongChain_eq (hr.mono (lv__law_results_right_WrongChain_eq)) (de_var (pv 7)) (de_var (pv 8)) (nomark _)) de_bl (nomark _)))))))))))))))))
end T
namespace T
open PySem PySem.Spec PyProof.Rows L2 Dm
/-! law -/
abbrev s_law : Stmt := topS 102
abbrev N_law : List Str := ["_law_script", "_law_hand_here", "_law_names_here", "_law_places", "_law_words", "_law_turn", "_law_book_here", "_law_other", "_law_made", "_law_word"]
abbrev P_law : List Str := ["_law_script"]
theorem sc_law : FnScope N_law P_law (defScope s_law) := ⟨rfl, rfl, rfl, by decide +kernel, rfl, by decide +kernel, by decide +kernel⟩
def b_law : SS := (seqS (setS 1 (callF F__law_hand (consA (vaS 0) nilA)))
  (seqS (asgS (callF F__law_world (consA (vaS 1) nilA)) (unlG 2 (consG (nmG 2) (consG (nmG 3) nilG))))
  (seqS (setS 4 (lstS (consA (tupS (consA (cS (.str "I")) nilA)) (consA (tupS (consA (cS (.str "you")) nilA)) (consA (tupS (consA (cS (.str "name")) (consA (bin2 ixQ (vaS 2) (cS (.int 0))) nilA))) (consA (tupS (consA (cS (.str "here")) nilA)) (consA (tupS (consA (cS (.str "place")) (consA (bin2 ixQ (vaS 3) (cS (.int 0))) nilA))) (consA (tupS (consA (cS (.str "name")) (consA (bin2 ixQ (lstS (consA (cS (.str "a")) (consA (cS (.str "b")) (consA (cS (.str "c")) nilA)))) (callF F__law_take (consA (vaS 1) (consA (cS (.int 3)) nilA)))) nilA))) (consA (tupS (consA (cS (.str "place")) (consA (bin2 ixQ (lstS (consA (cS (.str "a")) (consA (cS (.str "b")) nilA))) (callF F__law_take (consA (vaS 1) (consA (cS (.int 2)) nilA)))) nilA))) nilA)))))))))
  (seqS (forS (it1S (consA (cS (.int 3)) nilA)) (nmG 5) (seqS (setS 6 (callF F__law_book (consA (vaS 1) (consA (cS (.int 2)) nilA))))
  (seqS (setS 7 (callF F__law_book (consA (vaS 1) (consA (cS (.int 2)) nilA))))
  (seqS (setS 8 (callF F__law_made_book (consA (vaS 6) nilA)))
  (seqS (forS (itLS (vaS 4)) (nmG 9) (iffS (notT (trS (callF F__law_answer_right (consA (vaS 6) (consA (vaS 8) (consA (vaS 9) nilA)))))) (retS (cS (.bl false))) nxS))
  (iffS (notT (trS (callF F__law_same_words (consA (vaS 6) (consA (bin2 ixQ (vaS 4) (callF F__law_take (consA (vaS 1) (consA (cS (.int 7)) nilA)))) (consA (vaS 7) nilA)))))) (retS (cS (.bl false))) nxS))))))
  (retS (callF F__law_results_right (consA (vaS 1) (consA (vaS 2) (consA (vaS 3) nilA)))))))))
def F_law : FnD := defD 10 b_law
theorem lv_law__law_answer_right : 6 ≤ 7 := by decide
theorem lv_law__law_book : 7 ≤ 7 := by decide
theorem lv_law__law_hand : 1 ≤ 7 := by decide
theorem lv_law__law_made_book : 6 ≤ 7 := by decide
theorem lv_law__law_results_right : 5 ≤ 7 := by decide
theorem lv_law__law_same_words : 7 ≤ 7 := by decide
theorem lv_law__law_take : 2 ≤ 7 := by decide
theorem lv_law__law_world : 5 ≤ 7 := by decide
theorem ok_law {P : Program} {w : World} {K : PySem.W.Frag} {mg : Str → Option Value} {base : Heap} (G : Gd P w K mg) (h__law_answer_right : HasFn P w K mg base 6 "_law_answer_right" 3 F__law_answer_right) (h__law_book : HasFn P w K mg base 7 "_law_book" 2 F__law_book) (h__law_hand : HasFn P w K mg base 1 "_law_hand" 1 F__law_hand) (h__law_made_book : HasFn P w K mg base 6 "_law_made_book" 1 F__law_made_book) (h__law_results_right : HasFn P w K mg base 5 "_law_results_right" 3 F__law_results_right) (h__law_same_words : HasFn P w K mg base 7 "_law_same_words" 3 F__law_same_words) (h__law_take : HasFn P w K mg base 2 "_law_take" 2 F__law_take) (h__law_world : HasFn P w K mg base 5 "_law_world" 1 F__law_world) {f : Addr} {fd : FuncData}
    (F : FunD K "law" "law" (defArgs s_law) (defBody s_law) (defScope s_law) [] [] f fd) : FnOk P w K mg base CX0 8 f fd P_law (spD ⟨P, w, K⟩ 1 F_law) :=
  d_fn F sc_law rfl fun cdv A outer s H E hr => by
    have sc := sc_law
    exact (dss_cons (ds_set (ps_set (i := 1) sc.nd rfl (by first | exact Or.inl rfl | exact Or.inr rfl) (de_call h__law_hand (hr.mono (lv_law__law_hand)) rfl (len_cons len_nil) (da_cons (de_var (pv 0)) da_nil))))
  (dss_cons (ds_asg (de_call h__law_world (hr.mono (lv_law__law_world)) rfl (len_cons len_nil) (da_cons (de_var (pv 1)) da_nil)) (dg_unl (pg_unl rfl (dgs_cons (dg_name (i := 2) (pg_name (i := 2) sc.nd rfl (by first | exact Or.inl rfl | exact Or.inr rfl))) (dgs_cons (dg_name (i := 3) (pg_name (i := 3) sc.nd rfl (by first | exact Or.inl rfl | exact Or.inr rfl))) dgs_nil)))))
  (dss_cons (ds_set (ps_set (i := 4) sc.nd rfl (by first | exact Or.inl rfl | exact Or.inr rfl) (de_lst (da_cons (de_tup (da_cons de_str da_nil)) (da_cons (de_tup (da_cons de_str da_nil)) (da_cons (de_tup (da_cons de_str (da_cons (de_ix (de_var (pv 2)) de_int fun _ _ => rfl) da_nil))) (da_cons (de_tup (da_cons de_str da_nil)) (da_cons (de_tup (da_cons de_str (da_cons (de_ix (de_var (pv 3)) de_int fun _ _ => rfl) da_nil))) (da_cons (de_tup (da_cons de_str (da_cons (de_ix (de_lst (da_cons de_str (da_cons de_str (da_cons de_str da_nil)))) (de_call h__law_take (hr.mono (lv_law__law_take)) rfl (len_cons (len_cons len_nil)) (da_cons (de_var (pv 1)) (da_cons de_int da_nil))) fun _ _ => rfl) da_nil))) (da_cons (de_tup (da_cons de_str (da_cons (de_ix (de_lst (da_cons de_str (da_cons de_str da_nil))) (de_call h__law_take (hr.mono (lv_law__law_take)) rfl (len_cons (len_cons len_nil)) (da_cons (de_var (pv 1)) (da_cons de_int da_nil))) fun _ _ => rfl) da_nil))) da_nil))))))))))
  (dss_cons (ds_for PassesOwn.never rfl (di_range1 (pi_range1 rfl G.b_range (da_cons de_int da_nil))) (dg_name (i := 5) (pg_name (i := 5) sc.nd rfl (by first | exact Or.inl rfl | exact Or.inr rfl))) (dss_cons (ds_set (ps_set (i := 6) sc.nd rfl (by first | exact Or.inl rfl | exact Or.inr rfl) (de_call h__law_book (hr.mono (lv_law__law_book)) rfl (len_cons (len_cons len_nil)) (da_cons (de_var (pv 1)) (da_cons de_int da_nil)))))
  (dss_cons (ds_set (ps_set (i := 7) sc.nd rfl (by first | exact Or.inl rfl | exact Or.inr rfl) (de_call h__law_book (hr.mono (lv_law__law_book)) rfl (len_cons (len_cons len_nil)) (da_cons (de_var (pv 1)) (da_cons de_int da_nil)))))
  (dss_cons (ds_set (ps_set (i := 8) sc.nd rfl (by first | exact Or.inl rfl | exact Or.inr rfl) (de_call h__law_made_book (hr.mono (lv_law__law_made_book)) rfl (len_cons len_nil) (da_cons (de_var (pv 6)) da_nil))))
  (dss_cons (ds_for PassesOwn.never rfl (di_list (de_var (pv 4))) (dg_name (i := 9) (pg_name (i := 9) sc.nd rfl (by first | exact Or.inl rfl | exact Or.inr rfl))) (dss_one (ds_if (dt_not (dt_truth (de_call h__law_answer_right (hr.mono (lv_law__law_answer_right)) rfl (len_cons (len_cons (len_cons len_nil))) (da_cons (de_var (pv 6)) (da_cons (de_var (pv 8)) (da_cons (de_var (pv 9)) da_nil)))) fun _ => rfl)) (dss_one (ds_ret de_bl)) dss_nil)))
  (dss_one (ds_if (dt_not (dt_truth (de_call h__law_same_words (hr.mono (lv_law__law_same_words)) rfl (len_cons (len_cons (len_cons len_nil))) (da_cons (de_var (pv 6)) (da_cons (de_ix (de_var (pv 4)) (de_call h__law_take (hr.mono (lv_law__law_take)) rfl (len_cons (len_cons len_nil)) (da_cons (de_var (pv 1)) (da_cons de_int da_nil))) fun _ _ => rfl) (da_cons (de_var (pv 7)) da_nil)))) fun _ => rfl)) (dss_one (ds_ret de_bl)) dss_nil)))))))
  (dss_one (ds_ret (de_call h__law_results_right (hr.mono (lv_law__law_results_right)) rfl (len_cons (len_cons (len_cons len_nil))) (da_cons (de_var (pv 1)) (da_cons (de_var (pv 2)) (da_cons (de_var (pv 3)) da_nil))))))))))
end T
set_option maxHeartbeats 2000000
/-! Hd0: what the top leaves, looked at once, name by name in the order of the top. -/
namespace Hd
open PySem PySem.W PySem.Calls PyProof.Rows
open He (DefD FnW Dv ba)
def stepE (g : Addr → Option Obj) (as : List Addr) : List Addr := as.flatMap fun a => match g a with
  | some o => He.refsD o
  | none => []
def growE (g : Addr → Option Obj) : Nat → List Addr → List Addr
  | 0, as => as
  | n + 1, as => as ++ growE g n (stepE g as)
def frE (g : Addr → Option Obj) : Frag := He.frG g (growE g 4 [mainGlobals])
def keyT (e : DictEntry) : Option PySem.Str := match e.key with
  | .str z _ => some z
  | _ => none
def dun (z : PySem.Str) : Bool := match z.cps.toList with
  | 95 :: 95 :: _ => true
  | _ => false
def dunE (e : DictEntry) : Bool := match keyT e with
  | some z => dun z
  | none => false
def ents (K : Frag) : List DictEntry := match K.lookup mainGlobals with
  | some ⟨_, _, .dict es _, _⟩ => es.toList
  | _ => []
def rest (K : Frag) : List DictEntry := (ents K).dropWhile dunE
def fnWA (K : Frag) (a : Addr) : FnW := match K.lookup a with
  | some ⟨_, _, .func fd, _⟩ => some (fd.name, fd.qualname, fd.params, fd.body, fd.scope, fd.globals, fd.closure, fd.builtins)
  | _ => none
def okA (K : Frag) (a : Addr) (d : DefD) : Bool := keepIn K (.ref a) && (match K.lookup a with
  | some ⟨_, _, .func fd, _⟩ => codeIn K fd.code d.qual && (He.dflB K fd.defaults (d.dvs K) && He.kwdB K fd.kwdefaults (d.kws K))
  | _ => false)
theorem funA {K : Frag} {a : Addr} {d : DefD} (e : fnWA K a = d.val) (c : okA K a d = true) : ∃ fd, L2.FunD K d.name d.qual d.params d.body d.scope (d.dvs K) (d.kws K) a fd := by
  obtain ⟨kp, c2⟩ := ba c
  unfold fnWA at e
  cases q : K.lookup a with
  | none =>
    rw [q] at c2
    cases c2
  | some o =>
    obtain ⟨oc, od, dt, osl⟩ := o
    rw [q] at c2 e
    cases dt with
    | func fd =>
      obtain ⟨n1, n2, n3, n4, n5, n6, n7, n8, n9, n10, n11, n12, n13, n14, n15⟩ := fd
      have e2 : (some (n1, n2, n3, n4, n5, n6, n7, n15) : FnW) = some (d.name, d.qual, d.params, .stmts d.body, d.scope, mainGlobals, [], builtinsNs) := e
      simp only [Option.some.injEq, Prod.mk.injEq] at e2
      obtain ⟨h1, h2, h3, h4, h5, h6, h7, h8⟩ := e2
      subst h1 h2 h3 h4 h5 h6 h7 h8
      have c3 : (codeIn K n13 d.qual && (He.dflB K n8 (d.dvs K) && He.kwdB K n9 (d.kws K))) = true := c2
      obtain ⟨k1, k2⟩ := ba c3
      obtain ⟨k3, k4⟩ := ba k2
      exact ⟨_, ⟨oc, od, n8, n9, n10, n11, n12, n13, n14, osl, rfl, q, k1, He.dflB_ok k3, He.kwdB_ok k4⟩, kp⟩
    | _ => cases c2
/-- what is to be said of a name -/
inductive Sx where
  | skip | fn (d : DefD) | cl (fs : List PySem.Str) (ms : List (PySem.Str × DefD)) | vi (i : Int) | vs (z : PySem.Str) | tu (vs : List Dv) | di (kvs : List (PySem.Str × Dv))
abbrev Ax : Type := Bool × List FnW
def tupA (K : Frag) (a : Addr) (vs : List Dv) : Bool := match K.lookup a with
  | some ⟨.type c, _, .seq its _, _⟩ => decide (c = "tuple") && (decide (its.size ≤ sizeLine) && He.relAll (vs.map (Dv.v K)) its.toList)
  | _ => false
def methA (K : Frag) (a : Addr) (md : PySem.Str × DefD) : Bool := He.eqO (findIn K (.ref a) md.1) (some (some (.ref (He.ma K a md.1)))) && (isFn K (.ref (He.ma K a md.1)) && okA K (He.ma K a md.1) md.2)
def clsB (K : Frag) (a : Addr) (fs : List PySem.Str) (ms : List (PySem.Str × DefD)) : Bool :=
  plainGet K a Str.empty && (hasDictIn K a && (plainOver K a && (He.eqO (findIn K (.ref a) "__setattr__") (some (some (.builtin "object.__setattr__"))) &&
    ((fs.all fun f => He.eqO (findIn K (.ref a) f) (some none)) && (makesIn K a && (keepIn K (.ref a) && ((ms.all fun m => methA K a m) &&
      (He.eqO (findIn K (.ref a) "__class__") (some (some (.builtin "object.__class__"))) && decide (mroIn K a (.type "object") = some true)))))))))
def obsE (K : Frag) : Sx → Value → Ax
  | .skip, _ => (true, [])
  | .fn d, .ref a => (okA K a d, [fnWA K a])
  | .cl fs ms, .ref a => (clsB K a fs ms, ms.map fun m => fnWA K (He.ma K a m.1))
  | .vi i, .int j _ => (decide (j = i), [])
  | .vs z, .str y _ => (decide (y = z), [])
  | .tu vs, .ref a => (tupA K a vs, [])
  | .di kvs, .ref a => (He.valsB K a kvs, [])
  | _, _ => (false, [])
def valE : Sx → Ax
  | .fn d => (true, [d.val])
  | .cl _ ms => (true, ms.map fun m => m.2.val)
  | _ => (true, [])
def refAt (l : List DictEntry) (i : Nat) : Addr := match l[i]? with
  | some e => (match e.val with
    | .ref a => a
    | _ => 0)
  | none => 0
/-- the classes, one by another -/
def kits (K : Frag) (as : List (Nat × Addr)) : Bool := as.all fun p => as.all fun q => decide (kitOne K (.ref p.2) (.ref q.2) = some (decide (p.1 = q.1))) && notFirst K p.2 (.ref q.2)
def gen (K : Frag) : Bool := He.eqO (specialIn K (.builtin "object.__class__") "__get__") (some (some (.builtin "getset_descriptor.__get__"))) && decide (takesIn K (.builtin "object.__class__") = some true)
abbrev Al : Type := List (Option PySem.Str) × List Ax × Bool × Option (List (Option (PySem.Str × Int)))
/-- ci: where the classes stand, in order; ti: where the table stands -/
def obsH (sps : List Sx) (ci : List Nat) (ti : Nat) (K : Frag) : Al :=
  ((rest K).map keyT, List.zipWith (obsE K) sps ((rest K).map (·.val)), gen K && kits K ((List.range ci.length).zip (ci.map (refAt (rest K)))), He.dicW K (refAt (rest K) ti))
def valH (nms : List PySem.Str) (sps : List Sx) (ks : List PySem.Str) (w : World) : Al := (nms.map some, sps.map valE, true, some (He.keysIn w.params ks))
def SaysH (nms : List PySem.Str) (sps : List Sx) (ci : List Nat) (ti : Nat) (ks : List PySem.Str) (w : World) (K : Frag) : Prop := obsH sps ci ti K = valH nms sps ks w
def hookH (nms : List PySem.Str) (sps : List Sx) (ci : List Nat) (ti : Nat) (ks : List PySem.Str) : Hook where
  α := Al
  obs := fun s => obsH sps ci ti (frE s.heap.get?)
  val := fun w => valH nms sps ks w
  says := fun w h => ∃ K : Frag, K.In h ∧ SaysH nms sps ci ti ks w K
  of := fun _ _ e => ⟨_, He.frG_in, e⟩
  keeps := fun _ _ _ ⟨K, hK, c⟩ k => ⟨K, Frag.In.keeps hK k, c⟩
theorem obsH_eq {nms : List PySem.Str} {sps : List Sx} {ci : List Nat} {ti : Nat} {ks : List PySem.Str} {g : Addr → Option Obj} {s : Shared} (h : ∀ a, g a = s.heap.get? a) : obsH sps ci ti (frE g) = (hookH nms sps ci ti ks).obs s := by
  have e : g = s.heap.get? := funext h
  rw [e] <;> rfl
section
variable {nms : List PySem.Str} {sps : List Sx} {ci : List Nat} {ti : Nat} {ks : List PySem.Str} {w : World} {K : Frag}
theorem isStr_key {e : DictEntry} {z x : PySem.Str} (h : keyT e = some z) : e.key.isStr x = (z == x) := by
  unfold keyT at h
  split at h
  · rename_i y t q
    cases h
    rw [q]
    rfl
  · cases h
theorem find_pre {x : PySem.Str} (hx : dun x = false) : ∀ {l : List DictEntry}, l.find? (·.key.isStr x) = (l.dropWhile dunE).find? (·.key.isStr x)
  | [] => rfl
  | e :: l => by
    rw [List.dropWhile_cons]
    split
    · rename_i h
      unfold dunE at h
      cases hk : keyT e with
      | none => rw [hk] at h; cases h
      | some z =>
        rw [hk] at h
        have ne : (z == x) = false := by
          refine beq_eq_false_iff_ne.mpr fun q => ?_
          subst q
          have h : dun z = true := h
          rw [hx] at h
          cases h
        rw [List.find?_cons, isStr_key hk, ne]
        exact find_pre hx
    · rfl
theorem find_key {x : PySem.Str} : ∀ {l : List DictEntry} {ns : List PySem.Str} {i : Nat}, l.map keyT = ns.map some → ns[i]? = some x → ns.Nodup → ∃ e, l.find? (·.key.isStr x) = some e ∧ l[i]? = some e
  | [], [], i, _, h, _ => by simp at h
  | [], _ :: _, _, h, _, _ => by cases h
  | _ :: _, [], _, h, _, _ => by cases h
  | e :: l, n :: ns, i, h, hi, nd => by
    rw [List.map_cons, List.map_cons] at h
    injection h with h1 h2
    rw [List.nodup_cons] at nd
    cases i with
    | zero =>
      have : n = x := by simpa using hi
      subst this
      refine ⟨e, ?_, rfl⟩
      rw [List.find?_cons, isStr_key h1]
      simp
    | succ i =>
      have hi : ns[i]? = some x := by simpa using hi
      obtain ⟨e', h3, h4⟩ := find_key h2 hi nd.2
      refine ⟨e', ?_, by simpa using h4⟩
      have ne : (n == x) = false := by
        refine beq_eq_false_iff_ne.mpr fun q => ?_
        subst q
        exact nd.1 (List.mem_of_getElem? hi)
      rw [List.find?_cons, isStr_key h1, ne]
      exact h3
theorem no_key {x : PySem.Str} : ∀ {l : List DictEntry} {ns : List PySem.Str}, l.map keyT = ns.map some → x ∉ ns → l.find? (·.key.isStr x) = none
  | [], _, _, _ => rfl
  | _ :: _, [], h, _ => by cases h
  | e :: l, n :: ns, h, hx => by
    rw [List.map_cons, List.map_cons] at h
    injection h with h1 h2
    have ne : (n == x) = false := by
      refine beq_eq_false_iff_ne.mpr fun q => ?_
      subst q
      exact hx List.mem_cons_self
    rw [List.find?_cons, isStr_key h1, ne]
    exact no_key h2 fun z => hx (List.mem_cons_of_mem _ z)
theorem ns_of (K : Frag) (x : PySem.Str) (he : ents K ≠ []) : nsIn K mainGlobals x = match (ents K).find? (·.key.isStr x) with
    | some e => some (some e.val)
    | none => if (ents K).any (·.refKey) then none else some none := by
  unfold nsIn ents
  unfold ents at he
  split at he
  · rename_i h
    rw [h]
    rfl
  · exact absurd rfl he
theorem ents_ne (c : SaysH nms sps ci ti ks w K) (hn : nms ≠ []) : ents K ≠ [] := fun q => by
  have c1 : (rest K).map keyT = nms.map some := congrArg (fun z : Al => z.1) c
  unfold rest at c1
  rw [q] at c1
  cases nms with
  | nil => exact hn rfl
  | cons _ _ => cases c1
theorem at_ (c : SaysH nms sps ci ti ks w K) {i : Nat} {x : PySem.Str} {sp : Sx} (hx : nms[i]? = some x) (hs : sps[i]? = some sp) (hd : dun x = false) (nd : nms.Nodup) : ∃ e, (rest K)[i]? = some e ∧ nsIn K mainGlobals x = some (some e.val) ∧ obsE K sp e.val = valE sp := by
  have c1 : (rest K).map keyT = nms.map some := congrArg (fun z : Al => z.1) c
  have c2 : List.zipWith (obsE K) sps ((rest K).map (·.val)) = sps.map valE := congrArg (fun z : Al => z.2.1) c
  obtain ⟨e, h1, h2⟩ := find_key c1 hx nd
  have hne : nms ≠ [] := fun q => by rw [q] at hx; simp at hx
  refine ⟨e, h2, ?_, ?_⟩
  · rw [ns_of K x (ents_ne c hne), find_pre hd]
    show (match (rest K).find? (·.key.isStr x) with
      | some e => some (some e.val)
      | none => _) = _
    rw [h1]
  · have c3 : (List.zipWith (obsE K) sps ((rest K).map (·.val)))[i]? = (sps.map valE)[i]? := by rw [c2]
    rw [List.getElem?_zipWith, List.getElem?_map, List.getElem?_map, hs, h2] at c3
    simpa using c3
theorem refKey_key {e : DictEntry} {z : PySem.Str} (h : keyT e = some z) : e.refKey = false := by
  unfold keyT at h
  split at h
  · rename_i y t q
    unfold DictEntry.refKey
    rw [q]
  · cases h
theorem no_ref : ∀ {l : List DictEntry} {ns : List PySem.Str}, (l.dropWhile dunE).map keyT = ns.map some → l.any (·.refKey) = false
  | [], _, _ => rfl
  | e :: l, ns, h => by
    rw [List.dropWhile_cons] at h
    split at h
    · rename_i hd
      unfold dunE at hd
      cases hk : keyT e with
      | none => rw [hk] at hd; cases hd
      | some z => rw [List.any_cons, refKey_key hk, no_ref h]; rfl
    · cases ns with
      | nil => cases h
      | cons n ns =>
        rw [List.map_cons, List.map_cons] at h
        injection h with h1 h2
        rw [List.any_cons, refKey_key h1]
        have : ∀ {l : List DictEntry} {ns : List PySem.Str}, l.map keyT = ns.map some → l.any (·.refKey) = false := by
          intro l
          induction l with
          | nil => intro _ _; rfl
          | cons e l ih =>
            intro ns h
            cases ns with
            | nil => cases h
            | cons n ns =>
              rw [List.map_cons, List.map_cons] at h
              injection h with h1 h2
              rw [List.any_cons, refKey_key h1, ih h2]; rfl
        rw [this h2]
        rfl
theorem free_ (c : SaysH nms sps ci ti ks w K) {x : PySem.Str} (hx : x ∉ nms) (hd : dun x = false) (hn : nms ≠ []) : nsIn K mainGlobals x = some none := by
  have c1 : (rest K).map keyT = nms.map some := congrArg (fun z : Al => z.1) c
  rw [ns_of K x (ents_ne c hn), find_pre hd]
  show (match (rest K).find? (·.key.isStr x) with
    | some e => some (some e.val)
    | none => if (ents K).any (·.refKey) then none else some none) = _
  rw [no_key c1 hx, no_ref (ns := nms) c1]
  rfl
theorem fn_ (c : SaysH nms sps ci ti ks w K) {i : Nat} {x : PySem.Str} {d : DefD} (hx : nms[i]? = some x) (hs : sps[i]? = some (.fn d)) (hd : dun x = false) (nd : nms.Nodup) :
    ∃ a fd, nsIn K mainGlobals x = some (some (.ref a)) ∧ L2.FunD K d.name d.qual d.params d.body d.scope (d.dvs K) (d.kws K) a fd := by
  obtain ⟨e, _, h1, h2⟩ := at_ c hx hs hd nd
  cases hv : e.val with
  | ref a =>
    rw [hv] at h1 h2
    have h3 : (okA K a d, [fnWA K a]) = ((true, [d.val]) : Ax) := h2
    simp only [Prod.mk.injEq, List.cons.injEq, and_true] at h3
    obtain ⟨fd, F⟩ := funA h3.2 h3.1
    exact ⟨a, fd, h1, F⟩
  | _ =>
    rw [hv] at h2
    have h3 := congrArg (fun z : Ax => z.1) h2
    cases h3
theorem cl_ (c : SaysH nms sps ci ti ks w K) {i : Nat} {x : PySem.Str} {fs : List PySem.Str} {ms : List (PySem.Str × DefD)} (hx : nms[i]? = some x) (hs : sps[i]? = some (.cl fs ms)) (hd : dun x = false) (nd : nms.Nodup) :
    refAt (rest K) i = He.ga K x ∧ nsIn K mainGlobals x = some (some (.ref (He.ga K x))) ∧ clsB K (He.ga K x) fs ms = true ∧ (ms.map fun m => fnWA K (He.ma K (He.ga K x) m.1)) = ms.map fun m => m.2.val := by
  obtain ⟨e, h0, h1, h2⟩ := at_ c hx hs hd nd
  cases hv : e.val with
  | ref a =>
    rw [hv] at h1 h2
    have ha : He.ga K x = a := by unfold He.ga; rw [h1]
    have h3 : (clsB K a fs ms, ms.map fun m => fnWA K (He.ma K a m.1)) = ((true, ms.map fun m => m.2.val) : Ax) := h2
    rw [ha]
    refine ⟨?_, h1, congrArg (fun z : Ax => z.1) h3, congrArg (fun z : Ax => z.2) h3⟩
    unfold refAt
    rw [h0]
    simp only [hv]
  | _ =>
    rw [hv] at h2
    have h3 := congrArg (fun z : Ax => z.1) h2
    cases h3
theorem meth_ {C : Addr} {ms : List (PySem.Str × DefD)} (h1 : (ms.all fun m => methA K C m) = true) (h2 : (ms.map fun m => fnWA K (He.ma K C m.1)) = ms.map fun m => m.2.val) {j : Nat} {m : PySem.Str} {d : DefD} (hj : ms[j]? = some (m, d)) :
    findIn K (.ref C) m = some (some (.ref (He.ma K C m))) ∧ isFn K (.ref (He.ma K C m)) = true ∧ ∃ fd, L2.FunD K d.name d.qual d.params d.body d.scope (d.dvs K) (d.kws K) (He.ma K C m) fd := by
  have h3 := List.all_eq_true.mp h1 (m, d) (List.mem_of_getElem? hj)
  obtain ⟨k1, k2⟩ := ba h3
  obtain ⟨k3, k4⟩ := ba k2
  have h4 : (ms.map fun m => fnWA K (He.ma K C m.1))[j]? = (ms.map fun m => m.2.val)[j]? := by rw [h2]
  rw [List.getElem?_map, List.getElem?_map, hj] at h4
  have h5 : fnWA K (He.ma K C m) = d.val := by simpa using h4
  exact ⟨He.eqO_ok k1, k3, funA h5 k4⟩
end
end Hd
set_option maxHeartbeats 0
namespace Hd
open PySem PySem.W PySem.Calls PyProof.Rows T
abbrev R : OpenRow := OpenLaw.row PySem.Challenge.rw_whosetomorrow_k56_whole_persons_and_plac
abbrev qv : Program := view R.prog [102]
def names0 : List PySem.Str := ["_wall", "TalkError", "BadWord", "BadSituation", "BadStep", "BadBook", "LETTERS", "MOST_STEP", "SINGLE_WORDS", "STEP_WORDS", "WEEKDAY_WORDS", "is_whole", "is_name", "find_kind", "Situation", "DAY_SORTS", "PERSON_SORTS", "PLACE_SORTS", "DAY_ACTIONS", "PERSON_ACTIONS", "PLACE_ACTIONS", "MOST_RULES", "MOST_OFFSET", "MOST_MOVED", "Step", "lies_from", "is_answer", "check_day_rule", "check_person_rule", "check_place_rule"]
def names1 : List PySem.Str := ["Book", "check_chain_word", "meant_at", "spot_after", "find_day_rule", "find_rule", "write_day", "write_word", "FAR", "NAMES", "Closed", "WrongChain", "TalkErr", "other_than", "start_spots", "moves_from", "cut_offset", "state_of", "explore", "chain_to", "always_right", "rules_reached", "_law_hand", "_law_mixed", "_law_take", "_law_name", "_law_names", "_law_world", "_law_date", "_law_coming"]
def names2 : List PySem.Str := ["_law_last", "_law_counted", "_law_whole", "_law_span", "_law_reach", "_law_any_rule", "_law_kept_rule", "_law_weekday_rule", "_law_bent", "_law_day_rule", "_law_person_rule", "_law_place_rule", "_law_book", "_law_made_book", "_law_spot", "_law_delay", "_law_moves", "_law_made_steps", "_law_made_situation", "_law_meant", "_law_after", "_law_day_step", "_law_person_step", "_law_place_step", "_law_written", "_law_cut", "_law_person_state", "_law_begun", "_law_behind", "_law_closed"]
def names3 : List PySem.Str := ["_law_is_steps", "_law_erring", "_law_wrong_right", "_law_answer_right", "_law_same_words", "_law_results_right"]
def names : List PySem.Str := names0 ++ (names1 ++ (names2 ++ (names3)))
def nms : List PySem.Str := names0 ++ (names1 ++ (names2 ++ (names3 ++ [("law" : PySem.Str)])))
def d_is_whole : He.DefD := ⟨("is_whole", none), "is_whole", "is_whole", L2.defArgs s_is_whole, L2.defBody s_is_whole, L2.defScope s_is_whole, [], []⟩
def d_is_name : He.DefD := ⟨("is_name", none), "is_name", "is_name", L2.defArgs s_is_name, L2.defBody s_is_name, L2.defScope s_is_name, [], []⟩
def d_find_kind : He.DefD := ⟨("find_kind", none), "find_kind", "find_kind", L2.defArgs s_find_kind, L2.defBody s_find_kind, L2.defScope s_find_kind, [], []⟩
def d_Situation_init : He.DefD := ⟨("Situation", some "__init__"), "__init__", "Situation.__init__", L2.defArgs s_Situation_init, L2.defBody s_Situation_init, L2.defScope s_Situation_init, [], []⟩
def d_Situation_eq : He.DefD := ⟨("Situation", some "__eq__"), "__eq__", "Situation.__eq__", L2.defArgs s_Situation_eq, L2.defBody s_Situation_eq, L2.defScope s_Situation_eq, [], []⟩
def d_Situation_moved : He.DefD := ⟨("Situation", some "moved"), "moved", "Situation.moved", L2.defArgs s_Situation_moved, L2.defBody s_Situation_moved, L2.defScope s_Situation_moved, [], []⟩
def d_Step_init : He.DefD := ⟨("Step", some "__init__"), "__init__", "Step.__init__", L2.defArgs s_Step_init, L2.defBody s_Step_init, L2.defScope s_Step_init, [], []⟩
def d_Step_eq : He.DefD := ⟨("Step", some "__eq__"), "__eq__", "Step.__eq__", L2.defArgs s_Step_eq, L2.defBody s_Step_eq, L2.defScope s_Step_eq, [], []⟩
def d_lies_from : He.DefD := ⟨("lies_from", none), "lies_from", "lies_from", L2.defArgs s_lies_from, L2.defBody s_lies_from, L2.defScope s_lies_from, [], []⟩
def d_is_answer : He.DefD := ⟨("is_answer", none), "is_answer", "is_answer", L2.defArgs s_is_answer, L2.defBody s_is_answer, L2.defScope s_is_answer, [], []⟩
def d_check_day_rule : He.DefD := ⟨("check_day_rule", none), "check_day_rule", "check_day_rule", L2.defArgs s_check_day_rule, L2.defBody s_check_day_rule, L2.defScope s_check_day_rule, [], []⟩
def d_check_person_rule : He.DefD := ⟨("check_person_rule", none), "check_person_rule", "check_person_rule", L2.defArgs s_check_person_rule, L2.defBody s_check_person_rule, L2.defScope s_check_person_rule, [], []⟩
def d_check_place_rule : He.DefD := ⟨("check_place_rule", none), "check_place_rule", "check_place_rule", L2.defArgs s_check_place_rule, L2.defBody s_check_place_rule, L2.defScope s_check_place_rule, [], []⟩
def d_Book_init : He.DefD := ⟨("Book", some "__init__"), "__init__", "Book.__init__", L2.defArgs s_Book_init, L2.defBody s_Book_init, L2.defScope s_Book_init, [], []⟩
def d_check_chain_word : He.DefD := ⟨("check_chain_word", none), "check_chain_word", "check_chain_word", L2.defArgs s_check_chain_word, L2.defBody s_check_chain_word, L2.defScope s_check_chain_word, [], []⟩
def d_meant_at : He.DefD := ⟨("meant_at", none), "meant_at", "meant_at", L2.defArgs s_meant_at, L2.defBody s_meant_at, L2.defScope s_meant_at, [], []⟩
def d_spot_after : He.DefD := ⟨("spot_after", none), "spot_after", "spot_after", L2.defArgs s_spot_after, L2.defBody s_spot_after, L2.defScope s_spot_after, [], []⟩
def d_find_rule : He.DefD := ⟨("find_rule", none), "find_rule", "find_rule", L2.defArgs s_find_rule, L2.defBody s_find_rule, L2.defScope s_find_rule, [], []⟩
def d_write_word : He.DefD := ⟨("write_word", none), "write_word", "write_word", L2.defArgs s_write_word, L2.defBody s_write_word, L2.defScope s_write_word, [], []⟩
def d_Closed_init : He.DefD := ⟨("Closed", some "__init__"), "__init__", "Closed.__init__", L2.defArgs s_Closed_init, L2.defBody s_Closed_init, L2.defScope s_Closed_init, [], []⟩
def d_WrongChain_init : He.DefD := ⟨("WrongChain", some "__init__"), "__init__", "WrongChain.__init__", L2.defArgs s_WrongChain_init, L2.defBody s_WrongChain_init, L2.defScope s_WrongChain_init, [], []⟩
def d_WrongChain_eq : He.DefD := ⟨("WrongChain", some "__eq__"), "__eq__", "WrongChain.__eq__", L2.defArgs s_WrongChain_eq, L2.defBody s_WrongChain_eq, L2.defScope s_WrongChain_eq, [], []⟩
def d_TalkErr_init : He.DefD := ⟨("TalkErr", some "__init__"), "__init__", "TalkErr.__init__", L2.defArgs s_TalkErr_init, L2.defBody s_TalkErr_init, L2.defScope s_TalkErr_init, [], []⟩
def d_TalkErr_eq : He.DefD := ⟨("TalkErr", some "__eq__"), "__eq__", "TalkErr.__eq__", L2.defArgs s_TalkErr_eq, L2.defBody s_TalkErr_eq, L2.defScope s_TalkErr_eq, [], []⟩
def d_other_than : He.DefD := ⟨("other_than", none), "other_than", "other_than", L2.defArgs s_other_than, L2.defBody s_other_than, L2.defScope s_other_than, [], []⟩
def d_start_spots : He.DefD := ⟨("start_spots", none), "start_spots", "start_spots", L2.defArgs s_start_spots, L2.defBody s_start_spots, L2.defScope s_start_spots, [], []⟩
def d_moves_from : He.DefD := ⟨("moves_from", none), "moves_from", "moves_from", L2.defArgs s_moves_from, L2.defBody s_moves_from, L2.defScope s_moves_from, [], []⟩
def d_state_of : He.DefD := ⟨("state_of", none), "state_of", "state_of", L2.defArgs s_state_of, L2.defBody s_state_of, L2.defScope s_state_of, [.int 10], []⟩
def d_explore : He.DefD := ⟨("explore", none), "explore", "explore", L2.defArgs s_explore, L2.defBody s_explore, L2.defScope s_explore, [], []⟩
def d_chain_to : He.DefD := ⟨("chain_to", none), "chain_to", "chain_to", L2.defArgs s_chain_to, L2.defBody s_chain_to, L2.defScope s_chain_to, [], []⟩
def d_always_right : He.DefD := ⟨("always_right", none), "always_right", "always_right", L2.defArgs s_always_right, L2.defBody s_always_right, L2.defScope s_always_right, [], []⟩
def d_rules_reached : He.DefD := ⟨("rules_reached", none), "rules_reached", "rules_reached", L2.defArgs s_rules_reached, L2.defBody s_rules_reached, L2.defScope s_rules_reached, [], []⟩
def d__law_hand : He.DefD := ⟨("_law_hand", none), "_law_hand", "_law_hand", L2.defArgs s__law_hand, L2.defBody s__law_hand, L2.defScope s__law_hand, [], []⟩
def d__law_mixed : He.DefD := ⟨("_law_mixed", none), "_law_mixed", "_law_mixed", L2.defArgs s__law_mixed, L2.defBody s__law_mixed, L2.defScope s__law_mixed, [], []⟩
def d__law_take : He.DefD := ⟨("_law_take", none), "_law_take", "_law_take", L2.defArgs s__law_take, L2.defBody s__law_take, L2.defScope s__law_take, [], []⟩
def d__law_name : He.DefD := ⟨("_law_name", none), "_law_name", "_law_name", L2.defArgs s__law_name, L2.defBody s__law_name, L2.defScope s__law_name, [], []⟩
def d__law_names : He.DefD := ⟨("_law_names", none), "_law_names", "_law_names", L2.defArgs s__law_names, L2.defBody s__law_names, L2.defScope s__law_names, [], []⟩
def d__law_world : He.DefD := ⟨("_law_world", none), "_law_world", "_law_world", L2.defArgs s__law_world, L2.defBody s__law_world, L2.defScope s__law_world, [], []⟩
def d__law_date : He.DefD := ⟨("_law_date", none), "_law_date", "_law_date", L2.defArgs s__law_date, L2.defBody s__law_date, L2.defScope s__law_date, [], []⟩
def d__law_whole : He.DefD := ⟨("_law_whole", none), "_law_whole", "_law_whole", L2.defArgs s__law_whole, L2.defBody s__law_whole, L2.defScope s__law_whole, [], []⟩
def d__law_span : He.DefD := ⟨("_law_span", none), "_law_span", "_law_span", L2.defArgs s__law_span, L2.defBody s__law_span, L2.defScope s__law_span, [], []⟩
def d__law_reach : He.DefD := ⟨("_law_reach", none), "_law_reach", "_law_reach", L2.defArgs s__law_reach, L2.defBody s__law_reach, L2.defScope s__law_reach, [], []⟩
def d__law_any_rule : He.DefD := ⟨("_law_any_rule", none), "_law_any_rule", "_law_any_rule", L2.defArgs s__law_any_rule, L2.defBody s__law_any_rule, L2.defScope s__law_any_rule, [], []⟩
def d__law_kept_rule : He.DefD := ⟨("_law_kept_rule", none), "_law_kept_rule", "_law_kept_rule", L2.defArgs s__law_kept_rule, L2.defBody s__law_kept_rule, L2.defScope s__law_kept_rule, [], []⟩
def d__law_weekday_rule : He.DefD := ⟨("_law_weekday_rule", none), "_law_weekday_rule", "_law_weekday_rule", L2.defArgs s__law_weekday_rule, L2.defBody s__law_weekday_rule, L2.defScope s__law_weekday_rule, [], []⟩
def d__law_bent : He.DefD := ⟨("_law_bent", none), "_law_bent", "_law_bent", L2.defArgs s__law_bent, L2.defBody s__law_bent, L2.defScope s__law_bent, [], []⟩
def d__law_day_rule : He.DefD := ⟨("_law_day_rule", none), "_law_day_rule", "_law_day_rule", L2.defArgs s__law_day_rule, L2.defBody s__law_day_rule, L2.defScope s__law_day_rule, [], []⟩
def d__law_person_rule : He.DefD := ⟨("_law_person_rule", none), "_law_person_rule", "_law_person_rule", L2.defArgs s__law_person_rule, L2.defBody s__law_person_rule, L2.defScope s__law_person_rule, [], []⟩
def d__law_place_rule : He.DefD := ⟨("_law_place_rule", none), "_law_place_rule", "_law_place_rule", L2.defArgs s__law_place_rule, L2.defBody s__law_place_rule, L2.defScope s__law_place_rule, [], []⟩
def d__law_book : He.DefD := ⟨("_law_book", none), "_law_book", "_law_book", L2.defArgs s__law_book, L2.defBody s__law_book, L2.defScope s__law_book, [], []⟩
def d__law_made_book : He.DefD := ⟨("_law_made_book", none), "_law_made_book", "_law_made_book", L2.defArgs s__law_made_book, L2.defBody s__law_made_book, L2.defScope s__law_made_book, [], []⟩
def d__law_spot : He.DefD := ⟨("_law_spot", none), "_law_spot", "_law_spot", L2.defArgs s__law_spot, L2.defBody s__law_spot, L2.defScope s__law_spot, [], []⟩
def d__law_delay : He.DefD := ⟨("_law_delay", none), "_law_delay", "_law_delay", L2.defArgs s__law_delay, L2.defBody s__law_delay, L2.defScope s__law_delay, [], []⟩
def d__law_moves : He.DefD := ⟨("_law_moves", none), "_law_moves", "_law_moves", L2.defArgs s__law_moves, L2.defBody s__law_moves, L2.defScope s__law_moves, [], []⟩
def d__law_made_steps : He.DefD := ⟨("_law_made_steps", none), "_law_made_steps", "_law_made_steps", L2.defArgs s__law_made_steps, L2.defBody s__law_made_steps, L2.defScope s__law_made_steps, [], []⟩
def d__law_made_situation : He.DefD := ⟨("_law_made_situation", none), "_law_made_situation", "_law_made_situation", L2.defArgs s__law_made_situation, L2.defBody s__law_made_situation, L2.defScope s__law_made_situation, [], []⟩
def d__law_meant : He.DefD := ⟨("_law_meant", none), "_law_meant", "_law_meant", L2.defArgs s__law_meant, L2.defBody s__law_meant, L2.defScope s__law_meant, [], []⟩
def d__law_after : He.DefD := ⟨("_law_after", none), "_law_after", "_law_after", L2.defArgs s__law_after, L2.defBody s__law_after, L2.defScope s__law_after, [], []⟩
def d__law_person_step : He.DefD := ⟨("_law_person_step", none), "_law_person_step", "_law_person_step", L2.defArgs s__law_person_step, L2.defBody s__law_person_step, L2.defScope s__law_person_step, [], []⟩
def d__law_place_step : He.DefD := ⟨("_law_place_step", none), "_law_place_step", "_law_place_step", L2.defArgs s__law_place_step, L2.defBody s__law_place_step, L2.defScope s__law_place_step, [], []⟩
def d__law_written : He.DefD := ⟨("_law_written", none), "_law_written", "_law_written", L2.defArgs s__law_written, L2.defBody s__law_written, L2.defScope s__law_written, [], []⟩
def d__law_person_state : He.DefD := ⟨("_law_person_state", none), "_law_person_state", "_law_person_state", L2.defArgs s__law_person_state, L2.defBody s__law_person_state, L2.defScope s__law_person_state, [], []⟩
def d__law_begun : He.DefD := ⟨("_law_begun", none), "_law_begun", "_law_begun", L2.defArgs s__law_begun, L2.defBody s__law_begun, L2.defScope s__law_begun, [], []⟩
def d__law_behind : He.DefD := ⟨("_law_behind", none), "_law_behind", "_law_behind", L2.defArgs s__law_behind, L2.defBody s__law_behind, L2.defScope s__law_behind, [], []⟩
def d__law_closed : He.DefD := ⟨("_law_closed", none), "_law_closed", "_law_closed", L2.defArgs s__law_closed, L2.defBody s__law_closed, L2.defScope s__law_closed, [], []⟩
def d__law_is_steps : He.DefD := ⟨("_law_is_steps", none), "_law_is_steps", "_law_is_steps", L2.defArgs s__law_is_steps, L2.defBody s__law_is_steps, L2.defScope s__law_is_steps, [], []⟩
def d__law_erring : He.DefD := ⟨("_law_erring", none), "_law_erring", "_law_erring", L2.defArgs s__law_erring, L2.defBody s__law_erring, L2.defScope s__law_erring, [], []⟩
def d__law_wrong_right : He.DefD := ⟨("_law_wrong_right", none), "_law_wrong_right", "_law_wrong_right", L2.defArgs s__law_wrong_right, L2.defBody s__law_wrong_right, L2.defScope s__law_wrong_right, [], []⟩
def d__law_answer_right : He.DefD := ⟨("_law_answer_right", none), "_law_answer_right", "_law_answer_right", L2.defArgs s__law_answer_right, L2.defBody s__law_answer_right, L2.defScope s__law_answer_right, [], []⟩
def d__law_same_words : He.DefD := ⟨("_law_same_words", none), "_law_same_words", "_law_same_words", L2.defArgs s__law_same_words, L2.defBody s__law_same_words, L2.defScope s__law_same_words, [], []⟩
def d__law_results_right : He.DefD := ⟨("_law_results_right", none), "_law_results_right", "_law_results_right", L2.defArgs s__law_results_right, L2.defBody s__law_results_right, L2.defScope s__law_results_right, [], []⟩
def d_law : He.DefD := ⟨("law", none), "law", "law", L2.defArgs s_law, L2.defBody s_law, L2.defScope s_law, [], []⟩
def t_STEP_WORDS : List He.Dv := [.str "today", .str "that day"]
def t_WEEKDAY_WORDS : List He.Dv := [.str "coming", .str "last", .str "then coming", .str "then last"]
def t_DAY_SORTS : List He.Dv := [.str "today", .str "coming", .str "last", .str "date"]
def t_PERSON_SORTS : List He.Dv := [.str "I", .str "you", .str "name"]
def t_PLACE_SORTS : List He.Dv := [.str "here", .str "place"]
def t_DAY_ACTIONS : List He.Dv := [.str "keep", .str "move", .str "date", .str "coming", .str "last", .str "weekday"]
def t_PERSON_ACTIONS : List He.Dv := [.str "keep", .str "I", .str "you", .str "name"]
def t_PLACE_ACTIONS : List He.Dv := [.str "keep", .str "here", .str "place"]
def t_NAMES : List He.Dv := [.str "a", .str "b", .str "c"]
def t_MOST_RULES : List He.Dv := [.int 6, .int 4, .int 3]
def tabV : List (PySem.Str × He.Dv) := tabW.map fun q => (q.1, .str q.2)
def fs_Situation : List PySem.Str := ["teller", "hearer", "day", "place"]
def ms_Situation : List (PySem.Str × He.DefD) := [("__init__", d_Situation_init), ("__eq__", d_Situation_eq), ("moved", d_Situation_moved)]
def fs_Step : List PySem.Str := ["delay", "hearer", "place"]
def ms_Step : List (PySem.Str × He.DefD) := [("__init__", d_Step_init), ("__eq__", d_Step_eq)]
def fs_Book : List PySem.Str := ["days", "persons", "places", "rules"]
def ms_Book : List (PySem.Str × He.DefD) := [("__init__", d_Book_init)]
def fs_Closed : List PySem.Str := ["rows"]
def ms_Closed : List (PySem.Str × He.DefD) := [("__init__", d_Closed_init)]
def fs_WrongChain : List PySem.Str := ["situation", "steps"]
def ms_WrongChain : List (PySem.Str × He.DefD) := [("__init__", d_WrongChain_init), ("__eq__", d_WrongChain_eq)]
def fs_TalkErr : List PySem.Str := ["path", "index", "chain"]
def ms_TalkErr : List (PySem.Str × He.DefD) := [("__init__", d_TalkErr_init), ("__eq__", d_TalkErr_eq)]
def sps0 : List Sx := [.skip, .skip, .skip, .skip, .skip, .skip, .vs "abcdefghijklmnopqrstuvwxyz", .vi 30, .di tabV, .tu t_STEP_WORDS, .tu t_WEEKDAY_WORDS, .fn d_is_whole, .fn d_is_name, .fn d_find_kind, .cl fs_Situation ms_Situation, .tu t_DAY_SORTS, .tu t_PERSON_SORTS, .tu t_PLACE_SORTS, .tu t_DAY_ACTIONS, .tu t_PERSON_ACTIONS, .tu t_PLACE_ACTIONS, .tu t_MOST_RULES, .vi 9, .vi 30, .cl fs_Step ms_Step, .fn d_lies_from, .fn d_is_answer, .fn d_check_day_rule, .fn d_check_person_rule, .fn d_check_place_rule]
def sps1 : List Sx := [.cl fs_Book ms_Book, .fn d_check_chain_word, .fn d_meant_at, .fn d_spot_after, .skip, .fn d_find_rule, .skip, .fn d_write_word, .vi 10, .tu t_NAMES, .cl fs_Closed ms_Closed, .cl fs_WrongChain ms_WrongChain, .cl fs_TalkErr ms_TalkErr, .fn d_other_than, .fn d_start_spots, .fn d_moves_from, .skip, .fn d_state_of, .fn d_explore, .fn d_chain_to, .fn d_always_right, .fn d_rules_reached, .fn d__law_hand, .fn d__law_mixed, .fn d__law_take, .fn d__law_name, .fn d__law_names, .fn d__law_world, .fn d__law_date, .skip]
def sps2 : List Sx := [.skip, .skip, .fn d__law_whole, .fn d__law_span, .fn d__law_reach, .fn d__law_any_rule, .fn d__law_kept_rule, .fn d__law_weekday_rule, .fn d__law_bent, .fn d__law_day_rule, .fn d__law_person_rule, .fn d__law_place_rule, .fn d__law_book, .fn d__law_made_book, .fn d__law_spot, .fn d__law_delay, .fn d__law_moves, .fn d__law_made_steps, .fn d__law_made_situation, .fn d__law_meant, .fn d__law_after, .skip, .fn d__law_person_step, .fn d__law_place_step, .fn d__law_written, .skip, .fn d__law_person_state, .fn d__law_begun, .fn d__law_behind, .fn d__law_closed]
def sps3 : List Sx := [.fn d__law_is_steps, .fn d__law_erring, .fn d__law_wrong_right, .fn d__law_answer_right, .fn d__law_same_words, .fn d__law_results_right, .fn d_law]
def sps : List Sx := sps0 ++ (sps1 ++ (sps2 ++ (sps3)))
def ci : List Nat := [14, 24, 30, 40, 41, 42]
def ti : Nat := 8
def ks : List PySem.Str := tabW.map (·.1)
abbrev hk : Hook := hookH nms sps ci ti ks
def ob (s : SharedT) : Al := obsH sps ci ti (frE (HandSHeadRun.getT s))
theorem ob_eq (s : SharedT) : ob s = hk.obs s.abs := obsH_eq (nms := nms) (ks := ks) (HandSHeadRun.getT_eq s)
theorem run0 (w : World) : HandSHeadRun.RunEq R qv hk ob 20000 names (w.withFollow "special-get-raises" false) := by
  intro os; kernel_rfl
theorem run1 (w : World) : HandSHeadRun.RunEq R qv hk ob 20000 names (w.withFollow "special-get-raises" true) := by
  intro os; kernel_rfl
theorem run (w : World) : HandSHeadRun.RunEq R qv hk ob 20000 names w := PySem.W.byRow2 "special-get-raises" (P := fun w => HandSHeadRun.RunEq R qv hk ob 20000 names w) run0 run1 w
end Hd
set_option maxHeartbeats 4000000
/-! Pu1: words, spots, books as Lean data; the small defs. -/
namespace T
open PySem PySem.Spec PyProof.Rows L2 Dm
theorem ex_bl {Q : Bool → Prop} {b : Bool} (k : Q b) : ∃ b', D.bl b = D.bl b' ∧ Q b' := ⟨b, rfl, k⟩
theorem ex_int {Q : Int → Prop} {b : Int} (k : Q b) : ∃ b', D.int b = D.int b' ∧ Q b' := ⟨b, rfl, k⟩
theorem ex_str {Q : Str → Prop} {b : Str} (k : Q b) : ∃ b', D.str b = D.str b' ∧ Q b' := ⟨b, rfl, k⟩
theorem ex_lst {Q : List D → Prop} {b : List D} (k : Q b) : ∃ b', D.lst b = D.lst b' ∧ Q b' := ⟨b, rfl, k⟩
theorem ex_tup {Q : List D → Prop} {b : List D} (k : Q b) : ∃ b', D.tup b = D.tup b' ∧ Q b' := ⟨b, rfl, k⟩
theorem ex_ins {c : Nat} {Q : List D → Prop} {b : List D} (k : Q b) : ∃ b', D.ins c b = D.ins c b' ∧ Q b' := ⟨b, rfl, k⟩
theorem ok_and {ds : List D} {P : Prop} (h : okItems ds = true) (k : P) : okItems ds = true ∧ P := ⟨h, k⟩
theorem br_t {b : Bool} {P Q : Prop} (h : b = true) (k : P) : (b = true → P) ∧ (b = false → Q) := ⟨fun _ => k, fun z => Bool.noConfusion (h.symm.trans z)⟩
theorem br_f {b : Bool} {P Q : Prop} (h : b = false) (k : Q) : (b = true → P) ∧ (b = false → Q) := ⟨fun z => Bool.noConfusion (h.symm.trans z), fun _ => k⟩
theorem rb_t {b : Bool} {P Q : Prop} (h : b = true) (k : P) : (b = false → Q) ∧ (b = true → P) := ⟨fun z => Bool.noConfusion (h.symm.trans z), fun _ => k⟩
theorem rb_f {b : Bool} {P Q : Prop} (h : b = false) (k : Q) : (b = false → Q) ∧ (b = true → P) := ⟨fun _ => k, fun z => Bool.noConfusion (h.symm.trans z)⟩
/-! ### the data -/
inductive Wo where
  | pI | pyou | pname (n : Str) | here | place (n : Str)
structure Spo where
  t : Str
  h : Str
  d : Int
  p : Str
structure Mv where
  dl : Int
  h : Str
  p : Str
def eW : Wo → D
  | .pI => .tup [.str "I"]
  | .pyou => .tup [.str "you"]
  | .pname n => .tup [.str "name", .str n]
  | .here => .tup [.str "here"]
  | .place n => .tup [.str "place", .str n]
def eS (s : Spo) : D := .tup [.str s.t, .str s.h, .int s.d, .str s.p]
def eM (m : Mv) : D := .tup [.int m.dl, .str m.h, .str m.p]
def meant : Wo → Spo → Str
  | .pI, s => s.t
  | .pyou, s => s.h
  | .pname n, _ => n
  | .here, s => s.p
  | .place n, _ => n
def aft (s : Spo) (m : Mv) : Spo := ⟨s.h, m.h, s.d + m.dl, m.p⟩
def hdw : Wo → Str
  | .pI => "I" | .pyou => "you" | .pname _ => "name" | .here => "here" | .place _ => "place"
local macro_rules | `(tactic| walk_at "sp") => `(tactic| fail)
local macro_rules | `(tactic| walk_at "ev") => `(tactic| repeat (first
  | apply_rules -exfalso (transparency := .reducible) (maxDepth := 100000) only [ws_seq, nxt_nx, nxt_rt, ws_set, ws_if, ws_ret, ws_nx, we_c, we_bin2, wt_bS, wt_tr, wt_and, we_and, wa_nil, wa_cons, we_tup, we_callQ, we_fld, we_call, wg_nm, wgs_nil, wgs_cons, ex_bl]
  | (apply_rules -exfalso (transparency := .reducible) (maxDepth := 1) only [we_va]; exact rfl)
  | (apply_rules -exfalso (transparency := .reducible) (maxDepth := 1) only [ok_and]; first | rfl | focus (simp [okItems]; done) | focus (simp [okItems, *]; done))
  | with_reducible refine wg_tup rfl ?_
  | with_reducible refine wf_of (by assumption) ?_
  | walk_at "sp"
  | (apply_rules -exfalso (transparency := .reducible) (maxDepth := 1) only [wq_i]; exact rfl)
  | (apply_rules -exfalso (transparency := .reducible) (maxDepth := 1) only [br_t]; first | assumption | decide +kernel | rfl)
  | (apply_rules -exfalso (transparency := .reducible) (maxDepth := 1) only [br_f]; first | assumption | decide +kernel | rfl)))
theorem meant_at_eq (w : Wo) (s : Spo) (mu : Mem) : F_meant_at [eW w, eS s] mu = some (.str (meant w s), mu) := by
  cases w <;> (refine df_pure ?_ rfl; unfold b_meant_at; walk_at "ev"; exact ⟨rfl, rfl⟩)
theorem spot_after_eq (s : Spo) (m : Mv) (mu : Mem) : F_spot_after [eS s, eM m] mu = some (eS (aft s m), mu) := by
  refine df_pure ?_ rfl; unfold b_spot_after; walk_at "ev"; exact ⟨rfl, rfl⟩
local macro_rules | `(tactic| walk_at "sp") => `(tactic| first | with_reducible refine wf_of (meant_at_eq _ _ _) ?_ | with_reducible refine wf_of (spot_after_eq _ _ _) ?_)
inductive PS where
  | I | you | name
  deriving DecidableEq
inductive PA where
  | keep | I | you | name
inductive QS where
  | here | place
  deriving DecidableEq
inductive QA where
  | keep | here | place
def psn : PS → Str
  | .I => "I" | .you => "you" | .name => "name"
def pan : PA → Str
  | .keep => "keep" | .I => "I" | .you => "you" | .name => "name"
def qsn : QS → Str
  | .here => "here" | .place => "place"
def qan : QA → Str
  | .keep => "keep" | .here => "here" | .place => "place"
structure PR where
  sort : PS
  mine : Option Bool
  yours : Option Bool
  act : PA
structure QR where
  sort : QS
  here : Option Bool
  act : QA
def optB : Option Bool → D
  | none => .non
  | some b => .bl b
def ePR (r : PR) : D := .tup [.str (psn r.sort), optB r.mine, optB r.yours, .str (pan r.act)]
def eQR (r : QR) : D := .tup [.str (qsn r.sort), optB r.here, .str (qan r.act)]
structure Bk where
  days : List D
  ps : List PR
  qs : List QR
def eMB (b : Bk) : D := .ins 2 [.tup b.days, .tup (b.ps.map ePR), .tup (b.qs.map eQR), .tup (b.days ++ b.ps.map ePR ++ b.qs.map eQR)]
def eLB (b : Bk) : D := .lst [.lst b.days, .lst (b.ps.map ePR), .lst (b.qs.map eQR)]
def fitB : Option Bool → Bool → Bool
  | none, _ => true
  | some b, a => a == b
def pfits (s : PS) (a c : Bool) (r : PR) : Bool := decide (psn r.sort = psn s) && (fitB r.mine a && fitB r.yours c)
def qfits (s : QS) (c : Bool) (r : QR) : Bool := decide (qsn r.sort = qsn s) && fitB r.here c
def ffrom {α : Type} (f : α → Bool) : List α → Nat → Option Nat
  | [], _ => none
  | r :: rs, n => if f r then some n else ffrom f rs (n + 1)
def eN : Option Nat → D
  | none => .non
  | some i => .int (i : Nat)
theorem inQ_opt {m : Mem} (o : Option Bool) (a : Bool) : inQ m (optB o) (.tup [.non, .bl a]) = some (.bl (fitB o a)) := by
  cases o with
  | none => rfl
  | some b => cases a <;> cases b <;> rfl
local macro_rules | `(tactic| walk_at "sp") => `(tactic| with_reducible refine wq_i (inQ_opt _ _) ?_)
inductive Kd where
  | p (s : PS) | q (s : QS)
def kd : Wo → Kd
  | .pI => .p .I
  | .pyou => .p .you
  | .pname _ => .p .name
  | .here => .q .here
  | .place _ => .q .place
/-- the number of the rule that holds -/
def num (b : Bk) (w : Wo) (s : Spo) (m : Mv) : Option Nat := match kd w with
  | .p k => (ffrom (pfits k (decide (meant w s = s.h)) (decide (meant w s = m.h))) b.ps 0).map fun i => b.days.length + i
  | .q k => (ffrom (qfits k (decide (meant w s = m.p))) b.qs 0).map fun i => b.days.length + b.ps.length + i
theorem turn_nx' {Inv : List D → Dm.Env → Mem → Prop} {QS : Out → Dm.Env → Mem → Prop} {ds : List D} {e : Dm.Env} {mu : Mem} (h : Inv ds e mu) : turn Inv QS ds .nx e mu := h
theorem ffrom_cons {α : Type} {f : α → Bool} {r : α} {rs : List α} {n : Nat} : ffrom f (r :: rs) n = if f r then some n else ffrom f rs (n + 1) := rfl
def isP : Wo → Bool
  | .pI => true | .pyou => true | .pname _ => true | .here => false | .place _ => false
theorem ix_w {m : Mem} (w : Wo) : ixQ m (eW w) (.int 0) = some (.str (hdw w)) := by cases w <;> rfl
theorem in_day {m : Mem} (w : Wo) : inQ m (.str (hdw w)) c_DAY_SORTS = some (.bl false) := by cases w <;> rfl
theorem in_per {m : Mem} (w : Wo) : inQ m (.str (hdw w)) c_PERSON_SORTS = some (.bl (isP w)) := by cases w <;> rfl
theorem isP_p {w : Wo} {k : PS} (h : kd w = .p k) : isP w = true ∧ hdw w = psn k := by cases w <;> cases h <;> exact ⟨rfl, rfl⟩
theorem isP_q {w : Wo} {k : QS} (h : kd w = .q k) : isP w = false ∧ hdw w = qsn k := by cases w <;> cases h <;> exact ⟨rfl, rfl⟩
local macro_rules | `(tactic| walk_at "sp") => `(tactic| first | with_reducible refine wq_i (ix_w _) ?_ | with_reducible refine wq_i (in_day _) ?_ | with_reducible refine wq_i (in_per _) ?_)
theorem find_rule_eq (b : Bk) (w : Wo) (s : Spo) (m : Mv) (mu : Mem) : F_find_rule [eMB b, eW w, eS s, eM m] mu = some (eN (num b w s m), mu) := by
  refine df_pure ?_ (by cases num b w s m <;> rfl)
  unfold b_find_rule
  cases hk : kd w with
  | p k =>
    obtain ⟨hp, hh⟩ := isP_p hk
    generalize hA : decide (meant w s = s.h) = A
    generalize hC : decide (meant w s = m.h) = C
    have hnum : num b w s m = (ffrom (pfits k A C) b.ps 0).map fun i => b.days.length + i := by
      unfold num
      rw [hk, ← hA, ← hC]
    rw [hnum]
    walk_at "ev"
    refine ws_for (fun ds e m' => m' = mu ∧ ∃ rs n e6 e7 e8 e9 e10 e11 e12, ds = enuD n (rs.map ePR) ∧ e = [some (eMB b), some (eW w), some (eS s), some (eM m), some (.str (meant w s)), some (.int b.days.length), e6, e7, e8, e9, e10, e11, e12] ∧ ffrom (pfits k A C) rs n = ffrom (pfits k A C) b.ps 0) ?_ ?_ ?_
    · refine wa_itE ?_
      walk_at "ev"
      exact ⟨_, .inr rfl, rfl, b.ps, 0, none, none, none, none, none, none, none, rfl, rfl, rfl⟩
    · rintro d ds e m' ⟨rfl, rs, n, e6, e7, e8, e9, e10, e11, e12, h1, rfl, h2⟩
      cases rs with
      | nil => cases h1
      | cons r rs =>
        cases h1
        dsimp only [ePR]
        rw [ffrom_cons] at h2
        have hf : pfits k A C r = (decide (psn r.sort = hdw w) && (fitB r.mine (decide (meant w s = s.h)) && fitB r.yours (decide (meant w s = m.h)))) := by
          unfold pfits
          rw [hh, hA, hC]
        cases h3 : decide (psn r.sort = hdw w) <;> cases h4 : fitB r.mine (decide (meant w s = s.h)) <;> cases h5 : fitB r.yours (decide (meant w s = m.h)) <;> rw [h3, h4, h5] at hf <;> simp only [hf, Bool.and_false, Bool.false_and, Bool.and_self, Bool.false_eq_true, if_false, if_true] at h2 <;> walk_at "ev" <;> first
          | exact ⟨rfl, rs, n + 1, _, _, _, _, _, _, _, rfl, rfl, h2⟩
          | (refine turn_rt ?_
             walk_at "ev"
             exact ⟨by rw [← h2]; rfl, rfl⟩)
    · rintro e m' ⟨rfl, rs, n, e6, e7, e8, e9, e10, e11, e12, h1, rfl, h2⟩
      cases rs with
      | cons r rs => cases h1
      | nil =>
        rw [← h2]
        walk_at "ev"
        exact ⟨rfl, rfl⟩
  | q k =>
    obtain ⟨hp, hh⟩ := isP_q hk
    generalize hC : decide (meant w s = m.p) = C
    have hnum : num b w s m = (ffrom (qfits k C) b.qs 0).map fun i => b.days.length + b.ps.length + i := by
      unfold num
      rw [hk, ← hC]
    rw [hnum]
    walk_at "ev"
    refine ws_for (fun ds e m' => m' = mu ∧ ∃ rs n e6 e7 e8 e9 e10 e11 e12, ds = enuD n (rs.map eQR) ∧ e = [some (eMB b), some (eW w), some (eS s), some (eM m), some (.str (meant w s)), some (.int b.days.length), e6, e7, e8, e9, e10, e11, e12] ∧ ffrom (qfits k C) rs n = ffrom (qfits k C) b.qs 0) ?_ ?_ ?_
    · refine wa_itE ?_
      walk_at "ev"
      exact ⟨_, .inr rfl, rfl, b.qs, 0, none, none, none, none, none, none, none, rfl, rfl, rfl⟩
    · rintro d ds e m' ⟨rfl, rs, n, e6, e7, e8, e9, e10, e11, e12, h1, rfl, h2⟩
      cases rs with
      | nil => cases h1
      | cons r rs =>
        cases h1
        dsimp only [eQR]
        rw [ffrom_cons] at h2
        have hf : qfits k C r = (decide (qsn r.sort = hdw w) && fitB r.here (decide (meant w s = m.p))) := by
          unfold qfits
          rw [hh, hC]
        cases h3 : decide (qsn r.sort = hdw w) <;> cases h4 : fitB r.here (decide (meant w s = m.p)) <;> rw [h3, h4] at hf <;> simp only [hf, Bool.and_false, Bool.false_and, Bool.and_self, Bool.false_eq_true, if_false, if_true] at h2 <;> walk_at "ev" <;> first
          | exact ⟨rfl, rs, n + 1, _, _, _, _, _, _, _, rfl, rfl, h2⟩
          | (refine turn_rt ?_
             walk_at "ev"
             exact ⟨by rw [← h2, List.length_map]; rfl, rfl⟩)
    · rintro e m' ⟨rfl, rs, n, e6, e7, e8, e9, e10, e11, e12, h1, rfl, h2⟩
      cases rs with
      | cons r rs => cases h1
      | nil =>
        rw [← h2]
        walk_at "ev"
        exact ⟨rfl, rfl⟩
end T
/-! Pu2: the new word; states; other names; starts; moves. -/
namespace T
open PySem PySem.Spec PyProof.Rows L2 Dm
local macro_rules | `(tactic| walk_at "sp") => `(tactic| fail)
local macro_rules | `(tactic| walk_at "ev") => `(tactic| repeat (first
  | apply_rules -exfalso (transparency := .reducible) (maxDepth := 100000) only [ws_seq, nxt_nx, nxt_rt, ws_set, ws_if, ws_ret, ws_nx, we_c, we_bin2, we_neg, wt_bS, we_if, wa_nil, wa_cons, we_tup, we_fld, we_call, ex_bl, ex_int]
  | (apply_rules -exfalso (transparency := .reducible) (maxDepth := 1) only [we_va]; exact rfl)
  | (apply_rules -exfalso (transparency := .reducible) (maxDepth := 1) only [ok_and]; first | rfl | focus (simp [okItems]; done) | focus (simp [okItems, *]; done))
  | with_reducible refine wf_of (by assumption) ?_
  | walk_at "sp"
  | apply_rules -exfalso (transparency := .reducible) (maxDepth := 1) only [wq_i (ix_w _), wq_i (in_day _), wq_i (in_per _), wf_of (meant_at_eq _ _ _)]
  | (apply_rules -exfalso (transparency := .reducible) (maxDepth := 1) only [wq_i]; exact rfl)
  | (apply_rules -exfalso (transparency := .reducible) (maxDepth := 1) only [br_t]; first | assumption | decide +kernel | rfl)
  | (apply_rules -exfalso (transparency := .reducible) (maxDepth := 1) only [br_f]; first | assumption | decide +kernel | rfl)))
local macro_rules | `(tactic| walk_at "sp") => `(tactic| with_reducible refine wf_of (find_rule_eq _ _ _ _ _) ?_)
@[simp] theorem mut_eN (o : Option Nat) : isMut (eN o) = false := by cases o <;> rfl
@[simp] theorem mut_eW (w : Wo) : isMut (eW w) = false := by cases w <;> rfl
@[simp] theorem mut_eS (s : Spo) : isMut (eS s) = false := rfl
@[simp] theorem mut_eM (s : Mv) : isMut (eM s) = false := rfl
@[simp] theorem mut_tup (l : List D) : isMut (.tup l) = false := rfl
@[simp] theorem mut_lst (l : List D) : isMut (.lst l) = false := rfl
@[simp] theorem mut_int (i : Int) : isMut (.int i) = false := rfl
@[simp] theorem mut_str (i : Str) : isMut (.str i) = false := rfl
@[simp] theorem mut_bl (i : Bool) : isMut (.bl i) = false := rfl
@[simp] theorem mut_non : isMut .non = false := rfl
theorem ffrom_some {α : Type} {f : α → Bool} : ∀ {l : List α} {n j : Nat}, ffrom f l n = some j → n ≤ j ∧ ∃ r, l[j - n]? = some r ∧ f r = true
  | [], _, _, h => by cases h
  | r :: rs, n, j, h => by
    rw [ffrom_cons] at h
    cases hf : f r with
    | true =>
      rw [hf] at h
      have : n = j := by simpa using h
      subst this
      exact ⟨Nat.le_refl _, r, by simp, hf⟩
    | false =>
      rw [hf] at h
      obtain ⟨h1, r', h2, h3⟩ := ffrom_some (by simpa using h)
      refine ⟨by omega, r', ?_, h3⟩
      have : j - n = (j - (n + 1)) + 1 := by omega
      rw [this, List.getElem?_cons_succ]
      exact h2
/-- the action for a person's word, a place's -/
def pact (b : Bk) (k : PS) (a c : Bool) : PA := match ffrom (pfits k a c) b.ps 0 with
  | none => .name
  | some i => match b.ps[i]? with
    | some r => r.act
    | none => .name
def qact (b : Bk) (k : QS) (c : Bool) : QA := match ffrom (qfits k c) b.qs 0 with
  | none => .place
  | some i => match b.qs[i]? with
    | some r => r.act
    | none => .place
def newW (b : Bk) (w : Wo) (s : Spo) (m : Mv) : Wo := match kd w with
  | .p k => match pact b k (decide (meant w s = s.h)) (decide (meant w s = m.h)) with
    | .keep => w | .I => .pI | .you => .pyou | .name => .pname (meant w s)
  | .q k => match qact b k (decide (meant w s = m.p)) with
    | .keep => w | .here => .here | .place => .place (meant w s)
theorem atI_nat {α : Type} {l : List α} {i : Nat} {x : α} (h : l[i]? = some x) : atI l ((i : Nat) : Int) = some x := by
  have hl := (List.getElem?_eq_some_iff.mp h).1
  unfold atI ixN
  rw [if_pos (by omega), if_pos (by omega)]
  simpa using h
theorem ix_rule_p {b : Bk} {i : Nat} {r : PR} {m : Mem} (h : b.ps[i]? = some r) : ixQ m (.tup (b.days ++ b.ps.map ePR ++ b.qs.map eQR)) (.int ((b.days.length + i : Nat) : Int)) = some (ePR r) := by
  show atI _ _ = _
  refine atI_nat ?_
  have hl := (List.getElem?_eq_some_iff.mp h).1
  rw [List.append_assoc, List.getElem?_append_right (by omega), Nat.add_sub_cancel_left, List.getElem?_append_left (by simpa using hl), List.getElem?_map, h]
  rfl
theorem ix_rule_q {b : Bk} {i : Nat} {r : QR} {m : Mem} (h : b.qs[i]? = some r) : ixQ m (.tup (b.days ++ b.ps.map ePR ++ b.qs.map eQR)) (.int ((b.days.length + b.ps.length + i : Nat) : Int)) = some (eQR r) := by
  show atI _ _ = _
  refine atI_nat ?_
  have hl := (List.getElem?_eq_some_iff.mp h).1
  have e : (b.days ++ b.ps.map ePR).length = b.days.length + b.ps.length := by simp
  rw [List.getElem?_append_right (by omega), e, Nat.add_sub_cancel_left, List.getElem?_map, h]
  rfl
theorem write_word_eq (b : Bk) (w : Wo) (s : Spo) (m : Mv) (mu : Mem) : F_write_word [eMB b, eW w, eS s, eM m] mu = some (.tup [eN (num b w s m), eW (newW b w s m)], mu) := by
  refine df_pure ?_ rfl
  unfold b_write_word
  cases hk : kd w with
  | p k =>
    obtain ⟨hp, hh⟩ := isP_p hk
    cases hi : ffrom (pfits k (decide (meant w s = s.h)) (decide (meant w s = m.h))) b.ps 0 with
    | none =>
      have hn : num b w s m = none := by unfold num; rw [hk]; simp only [hi, Option.map_none]
      have hw : newW b w s m = .pname (meant w s) := by unfold newW pact; rw [hk]; simp only [hi]
      have hf : F_find_rule [eMB b, eW w, eS s, eM m] mu = some (eN none, mu) := by rw [find_rule_eq, hn]
      rw [hn, hw]
      walk_at "ev"
      exact ⟨rfl, rfl⟩
    | some i =>
      obtain ⟨_, r, h2, _⟩ := ffrom_some hi
      rw [Nat.sub_zero] at h2
      have hn : num b w s m = some (b.days.length + i) := by unfold num; rw [hk]; simp only [hi, Option.map_some]
      have ha : pact b k (decide (meant w s = s.h)) (decide (meant w s = m.h)) = r.act := by unfold pact; simp only [hi, h2]
      have hf : F_find_rule [eMB b, eW w, eS s, eM m] mu = some (eN (some (b.days.length + i)), mu) := by rw [find_rule_eq, hn]
      have hx := ix_rule_p (m := mu) h2
      have hw : newW b w s m = match r.act with | .keep => w | .I => .pI | .you => .pyou | .name => .pname (meant w s) := by unfold newW; rw [hk]; simp only [ha]
      rw [hn, hw]
      unfold ePR at hx
      cases hact : r.act <;> rw [hact] at hx <;> walk_at "ev" <;> (refine wq_i hx ?_) <;> walk_at "ev" <;> exact ⟨rfl, rfl⟩
  | q k =>
    obtain ⟨hp, hh⟩ := isP_q hk
    cases hi : ffrom (qfits k (decide (meant w s = m.p))) b.qs 0 with
    | none =>
      have hn : num b w s m = none := by unfold num; rw [hk]; simp only [hi, Option.map_none]
      have hw : newW b w s m = .place (meant w s) := by unfold newW qact; rw [hk]; simp only [hi]
      have hf : F_find_rule [eMB b, eW w, eS s, eM m] mu = some (eN none, mu) := by rw [find_rule_eq, hn]
      rw [hn, hw]
      walk_at "ev"
      exact ⟨rfl, rfl⟩
    | some i =>
      obtain ⟨_, r, h2, _⟩ := ffrom_some hi
      rw [Nat.sub_zero] at h2
      have hn : num b w s m = some (b.days.length + b.ps.length + i) := by unfold num; rw [hk]; simp only [hi, Option.map_some]
      have ha : qact b k (decide (meant w s = m.p)) = r.act := by unfold qact; simp only [hi, h2]
      have hf : F_find_rule [eMB b, eW w, eS s, eM m] mu = some (eN (some (b.days.length + b.ps.length + i)), mu) := by rw [find_rule_eq, hn]
      have hx := ix_rule_q (m := mu) h2
      have hw : newW b w s m = match r.act with | .keep => w | .here => .here | .place => .place (meant w s) := by unfold newW; rw [hk]; simp only [ha]
      rw [hn, hw]
      unfold eQR at hx
      cases hact : r.act <;> rw [hact] at hx <;> walk_at "ev" <;> (refine wq_i hx ?_) <;> walk_at "ev" <;> exact ⟨rfl, rfl⟩
local macro_rules | `(tactic| walk_at "sp") => `(tactic| with_reducible refine wf_of (write_word_eq _ _ _ _ _) ?_)
/-! states -/
inductive St where
  | I (c : Bool) | you (a : Bool) | name (a c : Bool) | here | place (c : Bool)
  deriving DecidableEq
def eSt : St → D
  | .I c => .tup [.str "I", .bl c]
  | .you a => .tup [.str "you", .bl a]
  | .name a c => .tup [.str "name", .bl a, .bl c]
  | .here => .tup [.str "here"]
  | .place c => .tup [.str "place", .bl c]
def stOf : Wo → Spo → St
  | .pI, s => .I (decide (s.t = s.h))
  | .pyou, s => .you (decide (s.h = s.t))
  | .pname n, s => .name (decide (n = s.t)) (decide (n = s.h))
  | .here, _ => .here
  | .place n, s => .place (decide (n = s.p))
theorem state_of_eq (w : Wo) (s : Spo) (mu : Mem) : F_state_of [eW w, eS s, .int 10] mu = some (eSt (stOf w s), mu) := by
  refine df_pure ?_ (by cases w <;> rfl)
  unfold b_state_of
  cases w <;> walk_at "ev" <;> exact ⟨rfl, rfl⟩
@[simp] theorem mut_eSt (s : St) : isMut (eSt s) = false := by cases s <;> rfl
local macro_rules | `(tactic| walk_at "sp") => `(tactic| with_reducible refine wf_of (state_of_eq _ _ _) ?_)
end T
/-! Pu3: names, kinds; other names; starts; moves. -/
namespace T
open PySem PySem.Spec PyProof.Rows L2 Dm
local macro_rules | `(tactic| walk_at "sp") => `(tactic| fail)
local macro_rules | `(tactic| walk_at "ev") => `(tactic| repeat (first
  | apply_rules -exfalso (transparency := .reducible) (maxDepth := 100000) only [ws_seq, nxt_nx, nxt_rt, ws_set, ws_if, ws_ret, ws_nx, ws_drop, we_c, we_bin2, we_ch, wt_bS, wt_tr, wt_not, wt_or, we_and, we_not, we_if, wa_nil, wa_cons, we_tup, we_lst, we_callQ, we_isi, we_call, we_tab, wt_yes, wg_nm, ex_bl, ex_str, ex_lst, ex_tup]
  | (apply_rules -exfalso (transparency := .reducible) (maxDepth := 1) only [we_va]; exact rfl)
  | (apply_rules -exfalso (transparency := .reducible) (maxDepth := 1) only [ok_and]; first | rfl | focus (simp [okItems]; done) | focus (simp [okItems, *]; done))
  | with_reducible refine wf_of (by assumption) ?_
  | walk_at "sp"
  | apply_rules -exfalso (transparency := .reducible) (maxDepth := 1) only [wq_i (ix_w _), wq_i (in_day _), wq_i (in_per _), wf_of (meant_at_eq _ _ _)]
  | (apply_rules -exfalso (transparency := .reducible) (maxDepth := 1) only [wq_i]; exact rfl)
  | (apply_rules -exfalso (transparency := .reducible) (maxDepth := 1) only [br_t]; first | assumption | decide +kernel | rfl)
  | (apply_rules -exfalso (transparency := .reducible) (maxDepth := 1) only [br_f]; first | assumption | decide +kernel | rfl)
  | (apply_rules -exfalso (transparency := .reducible) (maxDepth := 1) only [rb_f]; first | assumption | decide +kernel | rfl)))
def letters : Str := "abcdefghijklmnopqrstuvwxyz"
def NameOk (z : Str) : Prop := 1 ≤ z.length ∧ z.length ≤ 8 ∧ ∀ c ∈ z.cps.toList, c ∈ letters.cps.toList
theorem len_str {m : Mem} {z : Str} (h : z.length ≤ 8) : lenQ m [.str z] = some (.int (z.length : Nat)) := by
  unfold lenQ
  simp only [itemsOf]
  rw [if_pos (by omega)]
theorem all_yes : ∀ (l : List Nat), boolsOf (l.map fun _ => D.bl true) = some (l.map fun _ => true)
  | [] => rfl
  | _ :: l => by simp only [List.map_cons, boolsOf, all_yes l, Option.map_some]
theorem is_name_eq {z : Str} (h : NameOk z) (mu : Mem) : F_is_name [.str z] mu = some (.bl true, mu) := by
  refine df_pure ?_ rfl
  unfold b_is_name
  obtain ⟨h1, h2, h3⟩ := h
  have e1 : decide ((1 : Int) ≤ (z.length : Nat)) = true := decide_eq_true (by omega)
  have e2 : decide (((z.length : Nat) : Int) ≤ 8) = true := decide_eq_true (by omega)
  have e3 : (!decide (((z.length : Nat) : Int) ≤ 8)) = false := by rw [e2]; rfl
  walk_at "ev"
  refine wq_i (len_str h2) ?_
  walk_at "ev"
  refine we_map (items := sgnD z) (outs := z.cps.toList.map fun _ => D.bl true) (m0 := mu) ?_ (by simp [sgnD]) (by
    have : (sgnD z).length = z.length := by simp [sgnD, Str.length]
    omega) (by simp) ?_ ?_
  · refine wa_itS ?_
    walk_at "ev"
    exact ⟨rfl, rfl⟩
  · intro i d v acc hd hv
    obtain ⟨c, hc, rfl⟩ : ∃ c, z.cps.toList[i]? = some c ∧ d = .str ⟨#[c]⟩ := by
      unfold sgnD at hd
      rw [List.getElem?_map] at hd
      obtain ⟨c, hc, e⟩ := Option.map_eq_some_iff.mp hd
      exact ⟨c, hc, e.symm⟩
    rw [List.getElem?_map, hc] at hv
    cases hv
    have hm : decide (c ∈ letters.cps.toList) = true := decide_eq_true (h3 c (List.mem_of_getElem? hc))
    walk_at "ev"
    exact ⟨congrArg D.bl hm, rfl⟩
  · walk_at "ev"
    refine wq_i (d := D.bl true) ?_ ⟨rfl, rfl⟩
    show (boolsOf (z.cps.toList.map fun _ => D.bl true)).map _ = _
    rw [all_yes]
    simp
local macro_rules | `(tactic| walk_at "sp") => `(tactic| with_reducible refine wf_of (is_name_eq (by assumption) _) ?_)
theorem is_whole_eq (i : Int) (mu : Mem) : F_is_whole [.int i] mu = some (.bl true, mu) := by
  refine df_pure ?_ rfl
  unfold b_is_whole
  walk_at "ev"
  exact ⟨rfl, rfl⟩
local macro_rules | `(tactic| walk_at "sp") => `(tactic| with_reducible refine wf_of (is_whole_eq _ _) ?_)
def WOk : Wo → Prop
  | .pname n => NameOk n
  | .place n => NameOk n
  | _ => True
def kdn (w : Wo) : Str := if isP w then "person" else "place"
theorem find_kind_eq {w : Wo} (h : WOk w) (mu : Mem) : F_find_kind [eW w] mu = some (.str (kdn w), mu) := by
  refine df_pure ?_ rfl
  unfold b_find_kind
  cases w with
  | pI => walk_at "ev"; exact ⟨rfl, rfl⟩
  | pyou => walk_at "ev"; exact ⟨rfl, rfl⟩
  | here => walk_at "ev"; exact ⟨rfl, rfl⟩
  | pname n =>
    have h : NameOk n := h
    walk_at "ev"
    exact ⟨rfl, rfl⟩
  | place n =>
    have h : NameOk n := h
    walk_at "ev"
    exact ⟨rfl, rfl⟩
local macro_rules | `(tactic| walk_at "sp") => `(tactic| with_reducible refine wf_of (find_kind_eq (by assumption) _) ?_)
theorem check_chain_word_eq {w : Wo} (h : WOk w) (mu : Mem) : F_check_chain_word [eW w] mu = some (.str (kdn w), mu) := by
  refine df_pure ?_ rfl
  unfold b_check_chain_word
  walk_at "ev"
  cases w <;> walk_at "ev" <;> exact ⟨rfl, rfl⟩
local macro_rules | `(tactic| walk_at "sp") => `(tactic| with_reducible refine wf_of (check_chain_word_eq (by assumption) _) ?_)
/-! a comprehension item by item -/
def wlc (n : Nat) (dw : Dm.Env) (gt : SG) (tt : ST) (te : SE) (items acc : List D) (m : Mem) (Q : List D → Mem → Prop) : Prop := ∃ acc' m', lcL n dw gt tt te items (m ++ [.lst acc]) = some (m' ++ [.lst acc']) ∧ m'.length = n ∧ Q acc' m'
theorem wlc_nil {n : Nat} {dw : Dm.Env} {gt : SG} {tt : ST} {te : SE} {acc : List D} {m : Mem} {Q : List D → Mem → Prop} (hn : m.length = n) (k : Q acc m) : wlc n dw gt tt te [] acc m Q := ⟨acc, m, rfl, hn, k⟩
theorem wlc_cons {n : Nat} {dw : Dm.Env} {gt : SG} {tt : ST} {te : SE} {d : D} {ds acc : List D} {m : Mem} {Q : List D → Mem → Prop} (hn : m.length = n) (hl : Nat.ble 100000 acc.length = false)
    (h : wg gt d dw fun e1 => wt tt e1 (m ++ [.lst acc]) fun b m1 => m1 = m ++ [.lst acc] ∧ (b = true → we te e1 m1 fun v m2 => m2 = m ++ [.lst acc] ∧ isMut v = false ∧ wlc n dw gt tt te ds (acc ++ [v]) m Q) ∧ (b = false → wlc n dw gt tt te ds acc m Q)) : wlc n dw gt tt te (d :: ds) acc m Q := by
  obtain ⟨e1, h1, b, m1, h2, rfl, k1, k2⟩ := h
  cases b with
  | false =>
    obtain ⟨acc', m', h3, l, q⟩ := k2 rfl
    exact ⟨acc', m', by unfold lcL; simp only [h1, h2, Option.bind_some]; exact h3, l, q⟩
  | true =>
    obtain ⟨v, m2, h4, rfl, nm, acc', m', h3, l, q⟩ := k1 rfl
    have g1 : (m ++ [MO.lst acc])[n]? = some (.lst acc) := by rw [← hn, List.getElem?_append_right (Nat.le_refl _), Nat.sub_self]; rfl
    have g2 : (m ++ [MO.lst acc]).set n (.lst (acc ++ [v])) = m ++ [.lst (acc ++ [v])] := by
      rw [← hn, List.set_append_right _ _ (Nat.le_refl _), Nat.sub_self]; rfl
    refine ⟨acc', m', ?_, l, q⟩
    unfold lcL
    simp only [h1, h2, h4, Option.bind_some, g1, nm, hl, g2, Bool.or_self]
    exact h3
theorem we_lcU {vs : List Nat} {it : SA} {gt : SG} {tt : ST} {te : SE} {de : Dm.Env} {mu : Mem} {Q : D → Mem → Prop} (h : wa it de mu fun items m0 => wlc m0.length (wipeD de vs) gt tt te items [] m0 fun acc m => Q (.lst acc) m) : we (lcS vs it gt tt te) de mu Q := by
  obtain ⟨items, m0, e1, acc, m', h3, l, q⟩ := h
  exact ⟨_, m', by unfold lcS; rw [e1]; simp only [Option.bind_some]; rw [show m0 ++ [MO.lst []] = m0 ++ [.lst []] from rfl, h3]; simp only [Option.bind_some]; exact endL_app l, q⟩
def wl2 (n : Nat) (dw : Dm.Env) (gt : SG) (it1 : SA) (vs1 : List Nat) (gt1 : SG) (te : SE) (items acc : List D) (m : Mem) (Q : List D → Mem → Prop) : Prop := ∃ acc' m', lc2L n dw gt it1 vs1 gt1 te items (m ++ [.lst acc]) = some (m' ++ [.lst acc']) ∧ m'.length = n ∧ Q acc' m'
theorem wl2_nil {n : Nat} {dw : Dm.Env} {gt : SG} {it1 : SA} {vs1 : List Nat} {gt1 : SG} {te : SE} {acc : List D} {m : Mem} {Q : List D → Mem → Prop} (hn : m.length = n) (k : Q acc m) : wl2 n dw gt it1 vs1 gt1 te [] acc m Q := ⟨acc, m, rfl, hn, k⟩
theorem wl2_cons {n : Nat} {dw : Dm.Env} {gt : SG} {it1 : SA} {vs1 : List Nat} {gt1 : SG} {te : SE} {d : D} {ds acc : List D} {m : Mem} {Q : List D → Mem → Prop}
    (h : wg gt d dw fun e1 => wa it1 e1 (m ++ [.lst acc]) fun is m1 => m1 = m ++ [.lst acc] ∧ wlc n (wipeD e1 vs1) gt1 yesT te is acc m fun acc' m' => wl2 n dw gt it1 vs1 gt1 te ds acc' m' Q) : wl2 n dw gt it1 vs1 gt1 te (d :: ds) acc m Q := by
  obtain ⟨e1, h1, is, m1, h2, rfl, acc', m', h3, l, acc2, m2, h4, l2, q⟩ := h
  exact ⟨acc2, m2, by unfold lc2L; simp only [h1, h2, h3, Option.bind_some, h4], l2, q⟩
theorem we_lc2U {vs : List Nat} {it : SA} {gt : SG} {it1 : SA} {vs1 : List Nat} {gt1 : SG} {te : SE} {de : Dm.Env} {mu : Mem} {Q : D → Mem → Prop} (h : wa it de mu fun items m0 => wl2 m0.length (wipeD de vs) gt it1 vs1 gt1 te items [] m0 fun acc m => Q (.lst acc) m) : we (lc2S vs it gt it1 vs1 gt1 te) de mu Q := by
  obtain ⟨items, m0, e1, acc, m', h3, l, q⟩ := h
  exact ⟨_, m', by unfold lc2S; rw [e1]; simp only [Option.bind_some]; rw [h3]; simp only [Option.bind_some]; exact endL_app l, q⟩
/-! other_than -/
def otherOf (l : List Str) : Str := if ("a" : Str) ∉ l then "a" else if ("b" : Str) ∉ l then "b" else "c"
theorem any_eqF {a : Str} : ∀ {l : List Str}, (l.map D.str).any (fun z => eqF z (.str a)) = decide (a ∈ l)
  | [] => rfl
  | x :: l => by
    rw [List.map_cons, List.any_cons, any_eqF]
    show ((x == a) || decide (a ∈ l)) = _
    by_cases h : x = a
    · subst h; simp
    · have h1 : (x == a) = false := by simpa using h
      have h2 : ¬ a = x := fun z => h z.symm
      rw [h1]
      simp [h2]
theorem all_flat : ∀ {l : List Str}, (l.map D.str).all flatD = true
  | [] => rfl
  | _ :: l => by rw [List.map_cons, List.all_cons, all_flat]; rfl
theorem nin_names {m : Mem} {x : D} {a : Str} {l : List Str} (h : itemsOf m x = some (l.map .str)) : ninQ m (.str a) x = some (.bl (!decide (a ∈ l))) := by
  unfold ninQ inSeq
  rw [h]
  simp only [flatD, all_flat, Bool.and_self, if_true, Option.map_some, any_eqF]
theorem other_than_eq {x : D} {l : List Str} (mu : Mem) (hx : itemsOf (mu ++ [.lst []]) x = some (l.map .str)) (hx2 : ∀ acc, itemsOf (mu ++ [.lst acc]) x = itemsOf (mu ++ [.lst []]) x) (h3 : ("a" : Str) ∉ l ∨ ("b" : Str) ∉ l ∨ ("c" : Str) ∉ l) : F_other_than [x] mu = some (.str (otherOf l), mu) := by
  refine df_pure ?_ rfl
  unfold b_other_than
  walk_at "ev"
  refine we_lcU ?_
  refine wa_itT ?_
  unfold c_NAMES tS
  walk_at "ev"
  have hn : ∀ acc a, ninQ (mu ++ [.lst acc]) (.str a) x = some (.bl (!decide (a ∈ l))) := fun acc a => nin_names (by rw [hx2, hx])
  have one : ∀ (a : Str) (ds acc : List D) (Q : List D → Mem → Prop) (hl : Nat.ble 100000 acc.length = false) (de : Dm.Env), de = wipeD (startD 2 [x]) [1] → (decide (a ∈ l) = false → wlc mu.length de (nmG 1) (bS (bin2 ninQ (vaS 1) (vaS 0))) (vaS 1) ds (acc ++ [.str a]) mu Q) → (decide (a ∈ l) = true → wlc mu.length de (nmG 1) (bS (bin2 ninQ (vaS 1) (vaS 0))) (vaS 1) ds acc mu Q) → wlc mu.length de (nmG 1) (bS (bin2 ninQ (vaS 1) (vaS 0))) (vaS 1) (.str a :: ds) acc mu Q := by
    intro a ds acc Q hl de hde k1 k2
    subst hde
    refine wlc_cons rfl hl ?_
    walk_at "ev"
    refine wq_i (hn _ _) ?_
    walk_at "ev"
    refine ⟨rfl, fun h => ?_, fun h => k2 (by simpa using h)⟩
    walk_at "ev"
    exact ⟨rfl, rfl, k1 (by simpa using h)⟩
  have fin : ∀ (acc : List D) (Q : List D → Mem → Prop) (de : Dm.Env), Q acc mu → wlc mu.length de (nmG 1) (bS (bin2 ninQ (vaS 1) (vaS 0))) (vaS 1) [] acc mu Q := fun acc Q de k => wlc_nil rfl k
  refine one "a" _ _ _ rfl _ rfl (fun ha => ?_) (fun ha => ?_) <;> refine one "b" _ _ _ rfl _ rfl (fun hb => ?_) (fun hb => ?_) <;> refine one "c" _ _ _ rfl _ rfl (fun hc => ?_) (fun hc => ?_) <;> refine fin _ _ _ ?_ <;> walk_at "ev"
  all_goals first
    | (refine ⟨?_, rfl⟩
       unfold otherOf
       simp only [decide_eq_true_eq, decide_eq_false_iff_not] at ha hb hc
       simp [ha, hb, hc])
    | (exfalso
       simp only [decide_eq_true_eq, decide_eq_false_iff_not] at ha hb hc
       rcases h3 with z | z | z <;> contradiction)
theorem other_lst {l : List Str} (mu : Mem) (h3 : ("a" : Str) ∉ l ∨ ("b" : Str) ∉ l ∨ ("c" : Str) ∉ l) : F_other_than [.lst (l.map .str)] mu = some (.str (otherOf l), mu) := other_than_eq mu rfl (fun _ => rfl) h3
theorem free1 (x : Str) : ("a" : Str) ∉ [x] ∨ ("b" : Str) ∉ [x] ∨ ("c" : Str) ∉ [x] := by
  by_cases h : ("a" : Str) = x
  · refine .inr (.inl fun z => ?_)
    rw [List.mem_singleton] at z
    exact absurd (h.trans z.symm) (by decide)
  · exact .inl fun z => h (List.mem_singleton.mp z)
theorem free2 (x y : Str) : ("a" : Str) ∉ [x, y] ∨ ("b" : Str) ∉ [x, y] ∨ ("c" : Str) ∉ [x, y] := by
  have ab : ("a" : Str) ≠ "b" := by decide
  have ac : ("a" : Str) ≠ "c" := by decide
  have bc : ("b" : Str) ≠ "c" := by decide
  simp only [List.mem_cons, List.not_mem_nil, or_false]
  by_cases h1 : ("a" : Str) = x
  · by_cases h2 : ("b" : Str) = y
    · exact .inr (.inr (by rintro (z | z); exact ac (h1.trans z.symm); exact bc (h2.trans z.symm)))
    · exact .inr (.inl (by rintro (z | z); exact ab (h1.trans z.symm); exact h2 z))
  · by_cases h2 : ("a" : Str) = y
    · by_cases h3 : ("b" : Str) = x
      · exact .inr (.inr (by rintro (z | z); exact bc (h3.trans z.symm); exact ac (h2.trans z.symm)))
      · exact .inr (.inl (by rintro (z | z); exact h3 z; exact ab (h2.trans z.symm)))
    · exact .inl (by rintro (z | z); exact h1 z; exact h2 z)
theorem other_not {l : List Str} (h3 : ("a" : Str) ∉ l ∨ ("b" : Str) ∉ l ∨ ("c" : Str) ∉ l) : otherOf l ∉ l := by
  unfold otherOf
  by_cases ha : ("a" : Str) ∉ l
  · rw [if_pos ha]; exact ha
  · rw [if_neg ha]
    by_cases hb : ("b" : Str) ∉ l
    · rw [if_pos hb]; exact hb
    · rw [if_neg hb]
      rcases h3 with z | z | z
      · exact absurd z ha
      · exact absurd z hb
      · exact z
theorem nok_a : NameOk "a" := ⟨by decide, by decide, by decide⟩
theorem nok_b : NameOk "b" := ⟨by decide, by decide, by decide⟩
theorem nok_c : NameOk "c" := ⟨by decide, by decide, by decide⟩
theorem other_ok (l : List Str) : NameOk (otherOf l) := by
  unfold otherOf
  split
  · exact nok_a
  · split
    · exact nok_b
    · exact nok_c
theorem other1_eq (x : Str) (mu : Mem) : F_other_than [.lst [.str x]] mu = some (.str (otherOf [x]), mu) := other_lst (l := [x]) mu (free1 x)
local macro_rules | `(tactic| walk_at "sp") => `(tactic| with_reducible refine wf_of (other1_eq _ _) ?_)
def starts : Wo → List Spo
  | .pI => [⟨"a", "a", 0, "a"⟩, ⟨"a", "b", 0, "a"⟩]
  | .pyou => [⟨"a", "a", 0, "a"⟩, ⟨"b", "a", 0, "a"⟩]
  | .pname n => [⟨n, n, 0, "a"⟩, ⟨n, otherOf [n], 0, "a"⟩, ⟨otherOf [n], n, 0, "a"⟩, ⟨otherOf [n], otherOf [n], 0, "a"⟩]
  | .here => [⟨"a", "b", 0, "a"⟩]
  | .place n => [⟨"a", "b", 0, n⟩, ⟨"a", "b", 0, otherOf [n]⟩]
theorem start_spots_eq (w : Wo) (mu : Mem) : F_start_spots [eW w] mu = some (.lst ((starts w).map eS), mu) := by
  refine df_pure ?_ rfl
  unfold b_start_spots
  cases w with
  | pname n =>
    walk_at "ev"
    refine we_lc2U ?_
    refine wa_itT ?_
    walk_at "ev"
    refine wl2_cons ?_
    walk_at "ev"
    refine wa_itT ?_
    walk_at "ev"
    refine ⟨rfl, ?_⟩
    refine wlc_cons rfl rfl ?_
    walk_at "ev"
    refine ⟨rfl, fun _ => ?_, fun z => by cases z⟩
    walk_at "ev"
    refine ⟨rfl, rfl, ?_⟩
    refine wlc_cons rfl rfl ?_
    walk_at "ev"
    refine ⟨rfl, fun _ => ?_, fun z => by cases z⟩
    walk_at "ev"
    refine ⟨rfl, rfl, ?_⟩
    refine wlc_nil rfl ?_
    refine wl2_cons ?_
    walk_at "ev"
    refine wa_itT ?_
    walk_at "ev"
    refine ⟨rfl, ?_⟩
    refine wlc_cons rfl rfl ?_
    walk_at "ev"
    refine ⟨rfl, fun _ => ?_, fun z => by cases z⟩
    walk_at "ev"
    refine ⟨rfl, rfl, ?_⟩
    refine wlc_cons rfl rfl ?_
    walk_at "ev"
    refine ⟨rfl, fun _ => ?_, fun z => by cases z⟩
    walk_at "ev"
    refine ⟨rfl, rfl, ?_⟩
    refine wlc_nil rfl ?_
    refine wl2_nil rfl ?_
    walk_at "ev"
    exact ⟨rfl, rfl⟩
  | _ =>
    walk_at "ev"
    exact ⟨rfl, rfl⟩
local macro_rules | `(tactic| walk_at "sp") => `(tactic| with_reducible refine wf_of (start_spots_eq _ _) ?_)
/-! moves -/
def pnames (w : Wo) (s : Spo) : List Str := if s.h = meant w s then [meant w s] else [meant w s, s.h]
def moves (w : Wo) (s : Spo) : List Mv := if isP w then (pnames w s ++ [otherOf (pnames w s)]).map (fun n => ⟨0, n, "a"⟩) else [⟨0, "a", meant w s⟩, ⟨0, "a", otherOf [meant w s]⟩]
theorem app_last {base : Mem} {de : Dm.Env} {ds : List D} {f1 f2 : SE} {Q : D → Mem → Prop} (h1 : we f1 de (base ++ [.lst ds]) fun a m => a = .loc base.length ∧ m = base ++ [.lst ds])
    (h2 : we f2 de (base ++ [.lst ds]) fun v m => m = base ++ [.lst ds] ∧ isMut v = false ∧ Nat.ble 100000 ds.length = false ∧ Q .non (base ++ [.lst (ds ++ [v])])) : we (appS f1 f2) de (base ++ [.lst ds]) Q := by
  obtain ⟨a, m, e1, rfl, rfl⟩ := h1
  obtain ⟨v, m, e2, rfl, e3, e4, k⟩ := h2
  have g1 : (base ++ [MO.lst ds])[base.length]? = some (.lst ds) := by rw [List.getElem?_append_right (Nat.le_refl _), Nat.sub_self]; rfl
  refine we_app ⟨_, _, e1, base.length, ds, rfl, g1, v, _, e2, ds, g1, e3, e4, ?_⟩
  rw [List.set_append_right _ _ (Nat.le_refl _), Nat.sub_self]
  exact k
theorem frz_last {base : Mem} {de : Dm.Env} {ds : List D} {f : SE} {Q : D → Mem → Prop} (h1 : we f de (base ++ [.lst ds]) fun a m => a = .loc base.length ∧ m = base ++ [.lst ds]) (k : Q (.lst ds) (base ++ [.gone])) : we (frzS f) de (base ++ [.lst ds]) Q := by
  obtain ⟨a, m, e1, rfl, rfl⟩ := h1
  have g1 : (base ++ [MO.lst ds])[base.length]? = some (.lst ds) := by rw [List.getElem?_append_right (Nat.le_refl _), Nat.sub_self]; rfl
  refine we_frz ⟨_, _, e1, base.length, ds, rfl, g1, ?_⟩
  rw [List.set_append_right _ _ (Nat.le_refl _), Nat.sub_self]
  exact k
theorem items_last {base : Mem} {ds acc : List D} : itemsOf ((base ++ [.lst ds]) ++ [.lst acc]) (.loc base.length) = some ds := by
  show (match ((base ++ [MO.lst ds]) ++ [MO.lst acc])[base.length]? with
    | some (.lst ds) => some ds
    | _ => none) = some ds
  rw [List.append_assoc, List.getElem?_append_right (Nat.le_refl _), Nat.sub_self]
  rfl
theorem moves_from_eq (w : Wo) (s : Spo) (mu : Mem) : F_moves_from [eW w, eS s, .int 0] mu = some (.lst ((moves w s).map eM), mu) := by
  cases hp : isP w with
  | false =>
    have hm : moves w s = [⟨0, "a", meant w s⟩, ⟨0, "a", otherOf [meant w s]⟩] := by unfold moves; rw [hp]; rfl
    rw [hm]
    refine df_pure ?_ rfl
    unfold b_moves_from
    walk_at "ev"
    exact ⟨rfl, rfl⟩
  | true =>
    have hm : moves w s = (pnames w s ++ [otherOf (pnames w s)]).map (fun n => ⟨0, n, "a"⟩) := by unfold moves; rw [hp]; rfl
    rw [hm]
    refine df_tail (m1 := mu) (l := [.gone]) ?_ rfl rfl
    unfold b_moves_from
    have rest : ∀ (l : List Str) (de : Dm.Env) (QS : Out → Dm.Env → Mem → Prop), ("a" : Str) ∉ l ∨ ("b" : Str) ∉ l ∨ ("c" : Str) ∉ l → l.length ≤ 2 → de = [some (eW w), some (eS s), some (.int 0), some (.str (meant w s)), some (.loc mu.length), none, none] →
        (∀ de', QS (.rt (.lst (((l ++ [otherOf l]).map (fun n => (⟨0, n, "a"⟩ : Mv))).map eM))) de' (mu ++ [.gone])) →
        we (appS (vaS 4) (callF F_other_than (consA (vaS 4) nilA))) de (mu ++ [.lst (l.map .str)]) fun d m => nxt (retS (lcS [6] (itLS (frzS (vaS 4))) (nmG 6) yesT (tupS (consA (vaS 2) (consA (vaS 6) (consA (cS (.str "a")) nilA)))))) QS .nx de m := by
      rintro l de QS h3 hl rfl k
      refine app_last ?_ ?_
      · walk_at "ev"
        exact ⟨rfl, rfl⟩
      walk_at "ev"
      refine wf_of (other_than_eq _ items_last (fun acc => items_last.trans items_last.symm) h3) ?_
      refine ⟨rfl, rfl, ?_, ?_⟩
      · rw [List.length_map]
        match l, hl with
        | [], _ => rfl
        | [_], _ => rfl
        | [_, _], _ => rfl
      walk_at "ev"
      refine we_map (items := (l ++ [otherOf l]).map .str) (outs := ((l ++ [otherOf l]).map (fun n => (⟨0, n, "a"⟩ : Mv))).map eM) (m0 := mu ++ [.gone]) ?_ (by simp) (by simp; omega) (by simp) ?_ ?_
      · refine wa_itL ?_
        refine frz_last ?_ ?_
        · walk_at "ev"
          exact ⟨rfl, rfl⟩
        · walk_at "ev"
          exact ⟨by rw [List.map_append]; rfl, rfl⟩
      · intro i d v acc hd hv
        rw [List.getElem?_map] at hd
        obtain ⟨n, hn, rfl⟩ := Option.map_eq_some_iff.mp hd
        rw [List.getElem?_map, List.getElem?_map, hn] at hv
        cases hv
        walk_at "ev"
        exact ⟨rfl, rfl⟩
      · exact k _
    walk_at "ev"
    refine we_lstM ?_
    walk_at "ev"
    cases hq : decide (s.h = meant w s) with
    | true =>
      have h1 : pnames w s = [meant w s] := by unfold pnames; rw [if_pos (of_decide_eq_true hq)]
      have h2 : (!decide (s.h = meant w s)) = false := by rw [hq]; rfl
      walk_at "ev"
      refine rest [meant w s] _ _ (free1 _) (by simp) rfl fun de' => ?_
      refine nxt_rt ⟨by rw [h1], rfl⟩
    | false =>
      have h1 : pnames w s = [meant w s, s.h] := by unfold pnames; rw [if_neg (of_decide_eq_false hq)]
      have h2 : (!decide (s.h = meant w s)) = true := by rw [hq]; rfl
      walk_at "ev"
      refine app_last (base := mu) (ds := [.str (meant w s)]) ?_ ?_
      · walk_at "ev"
        exact ⟨rfl, rfl⟩
      walk_at "ev"
      refine ⟨rfl, rfl, rfl, ?_⟩
      walk_at "ev"
      refine rest [meant w s, s.h] _ _ (free2 _ _) (by simp) rfl fun de' => ?_
      refine nxt_rt ⟨by rw [h1], rfl⟩
local macro_rules | `(tactic| walk_at "sp") => `(tactic| with_reducible refine wf_of (moves_from_eq _ _ _) ?_)
end T
/-! Pu4: the law's own steps. -/
namespace T
open PySem PySem.Spec PyProof.Rows L2 Dm
local macro_rules | `(tactic| walk_at "sp") => `(tactic| fail)
local macro_rules | `(tactic| walk_at "s0") => `(tactic| fail)
local macro_rules | `(tactic| walk_at "ev") => `(tactic| repeat (first
  | apply_rules -exfalso (transparency := .reducible) (maxDepth := 100000) only [ws_seq, nxt_nx, nxt_rt, ws_set, ws_if, ws_ret, ws_nx, ws_bk, we_c, we_bin2, wt_bS, wt_and, we_if, wa_nil, wa_cons, we_tup, wg_nm, wgs_nil, wgs_cons, ex_bl]
  | walk_at "s0" | with_reducible refine wt_or ?_
  | (apply_rules -exfalso (transparency := .reducible) (maxDepth := 1) only [we_va]; exact rfl)
  | (apply_rules -exfalso (transparency := .reducible) (maxDepth := 1) only [ok_and]; first | rfl | focus (simp [okItems]; done) | focus (simp [okItems, *]; done))
  | with_reducible refine wg_tup rfl ?_
  | with_reducible refine wf_of (by assumption) ?_
  | walk_at "sp"
  | (apply_rules -exfalso (transparency := .reducible) (maxDepth := 1) only [wq_i]; exact rfl)
  | (apply_rules -exfalso (transparency := .reducible) (maxDepth := 1) only [br_t]; first | assumption | decide +kernel | rfl)
  | (apply_rules -exfalso (transparency := .reducible) (maxDepth := 1) only [br_f]; first | assumption | decide +kernel | rfl)))
theorem eqQ_of {m : Mem} {x y : D} {b : Bool} (h : eqS x y = some b) : eqQ m x y = some (.bl b) := by unfold eqQ; rw [h]; rfl
theorem isN_opt {m : Mem} (o : Option Bool) : isNQ m (optB o) .non = some (.bl o.isNone) := by cases o <;> rfl
theorem isN_eN {m : Mem} (o : Option Nat) : isNQ m (eN o) .non = some (.bl o.isNone) := by cases o <;> rfl
local macro_rules | `(tactic| walk_at "sp") => `(tactic| first | with_reducible refine wq_i (eqQ_of (by assumption)) ?_ | with_reducible refine wq_i (isN_eN _) ?_)
theorem wt_fit {f g : SE} {de : Dm.Env} {mu : Mem} {QB : Bool → Mem → Prop} {o : Option Bool} {a : Bool} (hf : f de mu = some (optB o, mu)) (hg : g de mu = some (.bl a, mu)) (k : QB (fitB o a) mu) : wt (orT (bS (bin2 isNQ f (cS .non))) (bS (bin2 eqQ f g))) de mu QB := by
  refine wt_or (wt_bS (we_bin2 ⟨_, _, hf, we_c (wq_i (isN_opt o) ⟨_, rfl, ?_⟩)⟩))
  refine ⟨fun h => ?_, fun h => ?_⟩
  · cases o with
    | none => cases h
    | some b =>
      refine wt_bS (we_bin2 ⟨_, _, hf, _, _, hg, _, rfl, _, rfl, ?_⟩)
      have : decide (b = a) = fitB (some b) a := by cases a <;> cases b <;> rfl
      rw [this]
      exact k
  · cases o with
    | none => exact k
    | some b => cases h
theorem eq_vars {de : Dm.Env} {mu : Mem} {i j : Nat} {x y : D} {b : Bool} (h1 : de[i]? = some (some x)) (h2 : de[j]? = some (some y)) (h : eqS x y = some b) : bin2 eqQ (vaS i) (vaS j) de mu = some (.bl b, mu) := by
  unfold bin2 vaS
  rw [h1]
  simp only [Option.bind_some]
  rw [h2]
  simp only [Option.bind_some]
  rw [eqQ_of h]
  rfl
local macro_rules | `(tactic| walk_at "s0") => `(tactic| ((with_reducible apply wt_fit); (focus rfl); (focus (exact eq_vars rfl rfl (by assumption)))))
def sortP (k : PS) : PA → PS
  | .keep => k | .I => .I | .you => .you | .name => .name
def sortQ (k : QS) : QA → QS
  | .keep => k | .here => .here | .place => .place
def pick (σ : PS) (M T H : D) : D := match σ with
  | .I => T | .you => H | .name => M
def pickQ (σ : QS) (M P : D) : D := match σ with
  | .here => P | .place => M
theorem person_step_eq (b : Bk) (k : PS) (M T H : D) {a c : Bool} (hMT : eqS M T = some a) (hMH : eqS M H = some c) (nM : isMut M = false) (nT : isMut T = false) (nH : isMut H = false) (mu : Mem) :
    F__law_person_step [.lst (b.ps.map ePR), .str (psn k), M, T, H] mu = some (.tup [eN (ffrom (pfits k a c) b.ps 0), .str (psn (sortP k (pact b k a c))), pick (sortP k (pact b k a c)) M T H], mu) := by
  refine df_pure ?_ rfl
  unfold b__law_person_step
  walk_at "ev"
  have rest : ∀ e6 e7 idx, idx = ffrom (pfits k a c) b.ps 0 → ws (seqS (setS 8 (ifS (bS (bin2 isNQ (vaS 5) (cS .non))) (cS (.str "name")) (bin2 ixQ (bin2 ixQ (vaS 0) (vaS 5)) (cS (.int 3)))))
      (seqS (iffS (bS (bin2 eqQ (vaS 8) (cS (.str "keep")))) (setS 8 (vaS 1)) nxS)
      (seqS (iffS (bS (bin2 eqQ (vaS 8) (cS (.str "name")))) (retS (tupS (consA (vaS 5) (consA (cS (.str "name")) (consA (vaS 2) nilA))))) nxS)
      (retS (tupS (consA (vaS 5) (consA (vaS 8) (consA (ifS (bS (bin2 eqQ (vaS 8) (cS (.str "I")))) (vaS 3) (vaS 4)) nilA))))))))
      [some (.lst (b.ps.map ePR)), some (.str (psn k)), some M, some T, some H, some (eN idx), e6, e7, none] mu
      (fun o x m => o = Out.rt (.tup [eN (ffrom (pfits k a c) b.ps 0), .str (psn (sortP k (pact b k a c))), pick (sortP k (pact b k a c)) M T H]) ∧ m = mu) := by
    rintro e6 e7 idx rfl
    cases hi : ffrom (pfits k a c) b.ps 0 with
    | none =>
      have ha : pact b k a c = .name := by unfold pact; rw [hi]
      rw [ha]
      walk_at "ev"
      exact ⟨rfl, rfl⟩
    | some i =>
      obtain ⟨_, r, h2, _⟩ := ffrom_some hi
      rw [Nat.sub_zero] at h2
      have ha : pact b k a c = r.act := by unfold pact; simp only [hi, h2]
      have hx : ixQ mu (.lst (b.ps.map ePR)) (.int ((i : Nat) : Int)) = some (ePR r) := by
        show atI _ _ = _
        refine atI_nat ?_
        rw [List.getElem?_map, h2]; rfl
      rw [ha]
      unfold ePR at hx
      walk_at "ev"
      refine wq_i hx ?_
      cases hact : r.act <;> cases k <;> walk_at "ev" <;> exact ⟨rfl, rfl⟩
  refine ws_for (fun ds e m' => m' = mu ∧ ∃ rs n e6 e7, ds = enuD n (rs.map ePR) ∧ e = [some (.lst (b.ps.map ePR)), some (.str (psn k)), some M, some T, some H, some .non, e6, e7, none] ∧ ffrom (pfits k a c) rs n = ffrom (pfits k a c) b.ps 0) ?_ ?_ ?_
  · refine wa_itE ?_
    walk_at "ev"
    exact ⟨_, .inl rfl, rfl, b.ps, 0, none, none, rfl, rfl, rfl⟩
  · rintro d ds e m' ⟨rfl, rs, n, e6, e7, h1, rfl, h2⟩
    cases rs with
    | nil => cases h1
    | cons r rs =>
      cases h1
      dsimp only [ePR]
      rw [ffrom_cons] at h2
      have hf : pfits k a c r = (decide (psn r.sort = psn k) && (fitB r.mine a && fitB r.yours c)) := rfl
      cases h3 : decide (psn r.sort = psn k) with
      | false =>
        rw [h3] at hf
        simp only [hf, Bool.false_and, Bool.false_eq_true, if_false] at h2
        walk_at "ev"
        exact ⟨rfl, rs, n + 1, _, _, rfl, rfl, h2⟩
      | true =>
        cases h4 : fitB r.mine a <;> cases h5 : fitB r.yours c <;> rw [h3, h4, h5] at hf <;> simp only [hf, Bool.and_false, Bool.false_and, Bool.and_self, Bool.false_eq_true, if_false, if_true] at h2 <;> walk_at "ev" <;> first
          | exact ⟨rfl, rs, n + 1, _, _, rfl, rfl, h2⟩
          | (refine turn_bk ?_
             refine nxt_nx ?_
             exact rest _ _ (some n) h2)
  · rintro e m' ⟨rfl, rs, n, e6, e7, h1, rfl, h2⟩
    cases rs with
    | cons r rs => cases h1
    | nil =>
      refine nxt_nx ?_
      exact rest _ _ none h2
theorem place_step_eq (b : Bk) (k : QS) (M P : D) {c : Bool} (hMP : eqS M P = some c) (nM : isMut M = false) (nP : isMut P = false) (mu : Mem) :
    F__law_place_step [.lst (b.qs.map eQR), .str (qsn k), M, P] mu = some (.tup [eN (ffrom (qfits k c) b.qs 0), .str (qsn (sortQ k (qact b k c))), pickQ (sortQ k (qact b k c)) M P], mu) := by
  refine df_pure ?_ rfl
  unfold b__law_place_step
  walk_at "ev"
  have rest : ∀ e5 e6 idx, idx = ffrom (qfits k c) b.qs 0 → ws (seqS (setS 7 (ifS (bS (bin2 isNQ (vaS 4) (cS .non))) (cS (.str "place")) (bin2 ixQ (bin2 ixQ (vaS 0) (vaS 4)) (cS (.int 2)))))
      (seqS (iffS (bS (bin2 eqQ (vaS 7) (cS (.str "keep")))) (setS 7 (vaS 1)) nxS)
      (retS (tupS (consA (vaS 4) (consA (vaS 7) (consA (ifS (bS (bin2 eqQ (vaS 7) (cS (.str "here")))) (vaS 3) (vaS 2)) nilA)))))))
      [some (.lst (b.qs.map eQR)), some (.str (qsn k)), some M, some P, some (eN idx), e5, e6, none] mu
      (fun o x m => o = Out.rt (.tup [eN (ffrom (qfits k c) b.qs 0), .str (qsn (sortQ k (qact b k c))), pickQ (sortQ k (qact b k c)) M P]) ∧ m = mu) := by
    rintro e5 e6 idx rfl
    cases hi : ffrom (qfits k c) b.qs 0 with
    | none =>
      have ha : qact b k c = .place := by unfold qact; rw [hi]
      rw [ha]
      walk_at "ev"
      exact ⟨rfl, rfl⟩
    | some i =>
      obtain ⟨_, r, h2, _⟩ := ffrom_some hi
      rw [Nat.sub_zero] at h2
      have ha : qact b k c = r.act := by unfold qact; simp only [hi, h2]
      have hx : ixQ mu (.lst (b.qs.map eQR)) (.int ((i : Nat) : Int)) = some (eQR r) := by
        show atI _ _ = _
        refine atI_nat ?_
        rw [List.getElem?_map, h2]; rfl
      rw [ha]
      unfold eQR at hx
      walk_at "ev"
      refine wq_i hx ?_
      cases hact : r.act <;> cases k <;> walk_at "ev" <;> exact ⟨rfl, rfl⟩
  refine ws_for (fun ds e m' => m' = mu ∧ ∃ rs n e5 e6, ds = enuD n (rs.map eQR) ∧ e = [some (.lst (b.qs.map eQR)), some (.str (qsn k)), some M, some P, some .non, e5, e6, none] ∧ ffrom (qfits k c) rs n = ffrom (qfits k c) b.qs 0) ?_ ?_ ?_
  · refine wa_itE ?_
    walk_at "ev"
    exact ⟨_, .inl rfl, rfl, b.qs, 0, none, none, rfl, rfl, rfl⟩
  · rintro d ds e m' ⟨rfl, rs, n, e5, e6, h1, rfl, h2⟩
    cases rs with
    | nil => cases h1
    | cons r rs =>
      cases h1
      dsimp only [eQR]
      rw [ffrom_cons] at h2
      have hf : qfits k c r = (decide (qsn r.sort = qsn k) && fitB r.here c) := rfl
      cases h3 : decide (qsn r.sort = qsn k) with
      | false =>
        rw [h3] at hf
        simp only [hf, Bool.false_and, Bool.false_eq_true, if_false] at h2
        walk_at "ev"
        exact ⟨rfl, rs, n + 1, _, _, rfl, rfl, h2⟩
      | true =>
        cases h4 : fitB r.here c <;> rw [h3, h4] at hf <;> simp only [hf, Bool.and_false, Bool.false_and, Bool.and_self, Bool.false_eq_true, if_false, if_true] at h2 <;> walk_at "ev" <;> first
          | exact ⟨rfl, rs, n + 1, _, _, rfl, rfl, h2⟩
          | (refine turn_bk ?_
             refine nxt_nx ?_
             exact rest _ _ (some n) h2)
  · rintro e m' ⟨rfl, rs, n, e5, e6, h1, rfl, h2⟩
    cases rs with
    | cons r rs => cases h1
    | nil =>
      refine nxt_nx ?_
      exact rest _ _ none h2
theorem law_after_eq (s : Spo) (m : Mv) (mu : Mem) : F__law_after [eS s, eM m] mu = some (eS (aft s m), mu) := by
  refine df_pure ?_ rfl; unfold b__law_after; walk_at "ev"; exact ⟨rfl, rfl⟩
local macro_rules | `(tactic| walk_at "sp") => `(tactic| with_reducible refine wf_of (law_after_eq _ _ _) ?_)
end T
/-! Pu5: the law's words and rows. -/
namespace T
open PySem PySem.Spec PyProof.Rows L2 Dm
local macro_rules | `(tactic| walk_at "sp") => `(tactic| fail)
local macro_rules | `(tactic| walk_at "ev") => `(tactic| repeat (first
  | apply_rules -exfalso (transparency := .reducible) (maxDepth := 100000) only [ws_seq, nxt_nx, nxt_rt, ws_set, ws_if, ws_ret, ws_nx, ws_asg, we_c, we_bin2, wt_bS, we_if, wa_nil, wa_cons, we_tup, we_lst, we_callQ, we_call, wg_nm, wgs_nil, wgs_cons, ex_bl]
  | (apply_rules -exfalso (transparency := .reducible) (maxDepth := 1) only [we_va]; exact rfl)
  | (apply_rules -exfalso (transparency := .reducible) (maxDepth := 1) only [ok_and]; first | rfl | focus (simp [okItems]; done) | focus (simp [okItems, *]; done))
  | with_reducible refine wg_tup rfl ?_
  | with_reducible refine wf_of (by assumption) ?_
  | walk_at "sp"
  | apply_rules -exfalso (transparency := .reducible) (maxDepth := 1) only [wq_i (isN_eN _), wq_i (ix_w _)]
  | (apply_rules -exfalso (transparency := .reducible) (maxDepth := 1) only [wq_i]; exact rfl)
  | (apply_rules -exfalso (transparency := .reducible) (maxDepth := 1) only [br_t]; first | assumption | decide +kernel | rfl)
  | (apply_rules -exfalso (transparency := .reducible) (maxDepth := 1) only [br_f]; first | assumption | decide +kernel | rfl)))
theorem for_nil {gt : SG} {body : SS} {e : Dm.Env} {m : Mem} {Q : Out → Dm.Env → Mem → Prop} (k : Q .nx e m) : ∃ o e' m', forL gt body [] e m = some (o, e', m') ∧ Q o e' m' := ⟨_, _, _, rfl, k⟩
/-- a for, turn by turn -/
def wfl (gt : SG) (body : SS) (items : List D) (e : Dm.Env) (m : Mem) (Q : Out → Dm.Env → Mem → Prop) : Prop := ∃ o e' m', forL gt body items e m = some (o, e', m') ∧ Q o e' m'
theorem ws_forU {it : SA} {gt : SG} {body : SS} {de : Dm.Env} {mu : Mem} {Q : Out → Dm.Env → Mem → Prop} (h : wa it de mu fun items m => wfl gt body items de m Q) : ws (forS it gt body) de mu Q := by
  obtain ⟨items, m1, e1, o, e', m', e2, q⟩ := h
  exact ⟨o, e', m', by unfold forS; rw [e1]; exact e2, q⟩
theorem wfl_nil {gt : SG} {body : SS} {e : Dm.Env} {m : Mem} {Q : Out → Dm.Env → Mem → Prop} (k : Q .nx e m) : wfl gt body [] e m Q := ⟨_, _, _, rfl, k⟩
theorem wfl_cons {gt : SG} {body : SS} {d : D} {ds : List D} {e : Dm.Env} {m : Mem} {Q : Out → Dm.Env → Mem → Prop} (h : wg gt d e fun e1 => ws body e1 m (turn (fun _ e2 m2 => wfl gt body ds e2 m2 Q) Q [])) : wfl gt body (d :: ds) e m Q := by
  obtain ⟨e1, h1, o, e2, m2, h2, k⟩ := h
  cases o with
  | nx =>
    obtain ⟨o', e', m', h3, q⟩ := k
    exact ⟨o', e', m', by unfold forL; simp only [h1, h2, Option.bind_some, h3], q⟩
  | ct =>
    obtain ⟨o', e', m', h3, q⟩ := k
    exact ⟨o', e', m', by unfold forL; simp only [h1, h2, Option.bind_some, h3], q⟩
  | bk => exact ⟨_, _, _, by unfold forL; simp only [h1, h2, Option.bind_some], k⟩
  | rt d => exact ⟨_, _, _, by unfold forL; simp only [h1, h2, Option.bind_some], k⟩
theorem turn_nxU {Inv : List D → Dm.Env → Mem → Prop} {QS : Out → Dm.Env → Mem → Prop} {ds : List D} {e : Dm.Env} {mu : Mem} (h : Inv ds e mu) : turn Inv QS ds .nx e mu := h
theorem law_meant_eq (w : Wo) (s : Spo) (mu : Mem) : F__law_meant [eW w, eS s] mu = some (.str (meant w s), mu) := by
  refine df_pure ?_ rfl
  unfold b__law_meant
  cases w <;> walk_at "ev" <;> refine ws_forU (wa_itE ?_) <;> walk_at "ev" <;> refine ⟨_, .inl rfl, ?_⟩
  · refine wfl_cons ?_; walk_at "ev"; refine turn_rt ?_; walk_at "ev"; exact ⟨rfl, rfl⟩
  · refine wfl_cons ?_; walk_at "ev"; refine turn_nxU ?_
    refine wfl_cons ?_; walk_at "ev"; refine turn_rt ?_; walk_at "ev"; exact ⟨rfl, rfl⟩
  · refine wfl_cons ?_; walk_at "ev"; refine turn_nxU ?_
    refine wfl_cons ?_; walk_at "ev"; refine turn_nxU ?_
    refine wfl_cons ?_; walk_at "ev"; refine turn_nxU ?_
    refine wfl_cons ?_; walk_at "ev"; refine turn_nxU ?_
    refine wfl_nil ?_; walk_at "ev"; exact ⟨rfl, rfl⟩
  · refine wfl_cons ?_; walk_at "ev"; refine turn_nxU ?_
    refine wfl_cons ?_; walk_at "ev"; refine turn_nxU ?_
    refine wfl_cons ?_; walk_at "ev"; refine turn_nxU ?_
    refine wfl_cons ?_; walk_at "ev"; refine turn_rt ?_; walk_at "ev"; exact ⟨rfl, rfl⟩
  · refine wfl_cons ?_; walk_at "ev"; refine turn_nxU ?_
    refine wfl_cons ?_; walk_at "ev"; refine turn_nxU ?_
    refine wfl_cons ?_; walk_at "ev"; refine turn_nxU ?_
    refine wfl_cons ?_; walk_at "ev"; refine turn_nxU ?_
    refine wfl_nil ?_; walk_at "ev"; exact ⟨rfl, rfl⟩
local macro_rules | `(tactic| walk_at "sp") => `(tactic| with_reducible refine wf_of (law_meant_eq _ _ _) ?_)
theorem in_dayL {m : Mem} (w : Wo) : inQ m (.str (hdw w)) (.lst [.str "today", .str "coming", .str "last", .str "date"]) = some (.bl false) := by cases w <;> rfl
theorem in_perL {m : Mem} (w : Wo) : inQ m (.str (hdw w)) (.lst [.str "I", .str "you", .str "name"]) = some (.bl (isP w)) := by cases w <;> rfl
local macro_rules | `(tactic| walk_at "sp") => `(tactic| first | with_reducible refine wq_i (in_dayL _) ?_ | with_reducible refine wq_i (in_perL _) ?_)
theorem eqS_str {a b : Str} : eqS (.str a) (.str b) = some (decide (a = b)) := rfl
theorem eN_add {i n : Nat} : D.int ((i : Int) + (n : Int)) = eN (some (n + i)) := by
  show D.int _ = D.int _
  congr 1
  omega
theorem eN_add2 {i n k : Nat} : D.int ((i : Int) + (n : Int) + (k : Int)) = eN (some (n + k + i)) := by
  show D.int _ = D.int _
  congr 1
  omega
theorem law_written_eq (b : Bk) (w : Wo) (s : Spo) (m : Mv) (mu : Mem) : F__law_written [eLB b, eW w, eS s, eM m] mu = some (.tup [eN (num b w s m), eW (newW b w s m)], mu) := by
  refine df_pure ?_ rfl
  unfold b__law_written
  cases hk : kd w with
  | p k =>
    obtain ⟨hp, hh⟩ := isP_p hk
    have hps := person_step_eq b k (.str (meant w s)) (.str s.h) (.str m.h) eqS_str eqS_str rfl rfl rfl mu
    rw [← hh] at hps
    have hn : num b w s m = (ffrom (pfits k (decide (meant w s = s.h)) (decide (meant w s = m.h))) b.ps 0).map fun i => b.days.length + i := by unfold num; rw [hk]
    have hw : newW b w s m = match pact b k (decide (meant w s = s.h)) (decide (meant w s = m.h)) with | .keep => w | .I => .pI | .you => .pyou | .name => .pname (meant w s) := by unfold newW; rw [hk] <;> rfl
    rw [hn, hw]
    have fin : ∀ σ, σ = sortP k (pact b k (decide (meant w s = s.h)) (decide (meant w s = m.h))) → eW (match pact b k (decide (meant w s = s.h)) (decide (meant w s = m.h)) with | .keep => w | .I => .pI | .you => .pyou | .name => .pname (meant w s)) = (match σ with | .name => .tup [.str "name", .str (meant w s)] | .I => .tup [.str "I"] | .you => .tup [.str "you"]) := by
      rintro σ rfl
      cases pact b k (decide (meant w s = s.h)) (decide (meant w s = m.h)) <;> first
        | rfl
        | (cases w <;> cases hk <;> rfl)
    rw [fin _ rfl]
    cases hi : ffrom (pfits k (decide (meant w s = s.h)) (decide (meant w s = m.h))) b.ps 0 <;> rw [hi] at hps <;> generalize sortP k (pact b k (decide (meant w s = s.h)) (decide (meant w s = m.h))) = σ at hps ⊢ <;> cases σ <;> walk_at "ev" <;> first
      | exact ⟨rfl, rfl⟩
      | (rw [eN_add]; exact ⟨rfl, rfl⟩)
  | q k =>
    obtain ⟨hp, hh⟩ := isP_q hk
    have hps := place_step_eq b k (.str (meant w s)) (.str m.p) eqS_str rfl rfl mu
    rw [← hh] at hps
    have hn : num b w s m = (ffrom (qfits k (decide (meant w s = m.p))) b.qs 0).map fun i => b.days.length + b.ps.length + i := by unfold num; rw [hk]
    have hw : newW b w s m = match qact b k (decide (meant w s = m.p)) with | .keep => w | .here => .here | .place => .place (meant w s) := by unfold newW; rw [hk] <;> rfl
    rw [hn, hw]
    have fin : ∀ σ, σ = sortQ k (qact b k (decide (meant w s = m.p))) → eW (match qact b k (decide (meant w s = m.p)) with | .keep => w | .here => .here | .place => .place (meant w s)) = (match σ with | .place => .tup [.str "place", .str (meant w s)] | .here => .tup [.str "here"]) := by
      rintro σ rfl
      cases qact b k (decide (meant w s = m.p)) <;> first
        | rfl
        | (cases w <;> cases hk <;> rfl)
    rw [fin _ rfl]
    cases hi : ffrom (qfits k (decide (meant w s = m.p))) b.qs 0 <;> rw [hi] at hps <;> generalize sortQ k (qact b k (decide (meant w s = m.p))) = σ at hps ⊢ <;> cases σ <;> walk_at "ev" <;> first
      | exact ⟨rfl, rfl⟩
      | (rw [List.length_map, eN_add2]; exact ⟨rfl, rfl⟩)
      | (rw [eN_add2]; exact ⟨rfl, rfl⟩)
local macro_rules | `(tactic| walk_at "sp") => `(tactic| with_reducible refine wf_of (law_written_eq _ _ _ _ _) ?_)
end T
/-! Pu6: the steps between states, as the law has them. -/
namespace T
open PySem PySem.Spec PyProof.Rows L2 Dm
local macro_rules | `(tactic| walk_at "sp") => `(tactic| fail)
local macro_rules | `(tactic| walk_at "ev") => `(tactic| repeat (first
  | apply_rules -exfalso (transparency := .reducible) (maxDepth := 100000) only [ws_seq, nxt_nx, nxt_rt, ws_set, ws_if, ws_ret, ws_nx, ws_asg, ws_drop, we_c, we_bin2, we_neg, wt_bS, wt_tr, wt_or, we_if, wa_nil, wa_cons, we_tup, we_lst, we_callQ, we_call, wg_nm, wgs_nil, wgs_cons, ex_bl, ex_int, ex_lst]
  | (apply_rules -exfalso (transparency := .reducible) (maxDepth := 1) only [we_va]; exact rfl)
  | (apply_rules -exfalso (transparency := .reducible) (maxDepth := 1) only [ok_and]; first | rfl | focus (simp [okItems]; done) | focus (simp [okItems, *]; done))
  | with_reducible refine wg_tup rfl ?_
  | with_reducible refine wf_of (by assumption) ?_
  | walk_at "sp"
  | apply_rules -exfalso (transparency := .reducible) (maxDepth := 1) only [wq_i (isN_eN _), wq_i (ix_w _)]
  | (apply_rules -exfalso (transparency := .reducible) (maxDepth := 1) only [wq_i]; exact rfl)
  | (apply_rules -exfalso (transparency := .reducible) (maxDepth := 1) only [br_t]; first | assumption | decide +kernel | rfl)
  | (apply_rules -exfalso (transparency := .reducible) (maxDepth := 1) only [br_f]; first | assumption | decide +kernel | rfl)
  | (apply_rules -exfalso (transparency := .reducible) (maxDepth := 1) only [rb_t]; first | assumption | decide +kernel | rfl)
  | (apply_rules -exfalso (transparency := .reducible) (maxDepth := 1) only [rb_f]; first | assumption | decide +kernel | rfl)))
abbrev Row := Option Nat × Bool × St
def eRow (r : Row) : D := .tup [eN r.1, .bl r.2.1, eSt r.2.2]
def mkP (σ : PS) (a c : Bool) : St := match σ with
  | .I => .I c | .you => .you a | .name => .name a c
def rightP (σ : PS) (a c : Bool) : Bool := match σ with
  | .I => a | .you => c | .name => true
def mkQ (σ : QS) (c : Bool) : St := match σ with
  | .here => .here | .place => .place c
def rightQ (σ : QS) (c : Bool) : Bool := match σ with
  | .here => c | .place => true
def rowP (b : Bk) (k : PS) (a c : Bool) : Row := ((ffrom (pfits k a c) b.ps 0).map fun i => b.days.length + i, rightP (sortP k (pact b k a c)) a c, mkP (sortP k (pact b k a c)) a c)
def rowQ (b : Bk) (k : QS) (c : Bool) : Row := ((ffrom (qfits k c) b.qs 0).map fun i => b.days.length + b.ps.length + i, rightQ (sortQ k (qact b k c)) c, mkQ (sortQ k (qact b k c)) c)
def trans (b : Bk) (st : St) (c : Bool) : Row := match st with
  | .I x => rowP b .I x c
  | .you _ => rowP b .you true c
  | .name _ x => rowP b .name x c
  | .here => rowQ b .here c
  | .place _ => rowQ b .place c
theorem person_state_eq (σ : PS) (a c : Bool) (mu : Mem) : F__law_person_state [.str (psn σ), .bl a, .bl c] mu = some (eSt (mkP σ a c), mu) := by
  refine df_pure ?_ (by simp)
  unfold b__law_person_state
  cases σ <;> walk_at "ev" <;> exact ⟨rfl, rfl⟩
@[simp] theorem mut_eRow (r : Row) : isMut (eRow r) = false := rfl
theorem behP (b : Bk) (k : PS) (a c : Bool) (t h : Int) (ht : eqS (.int 0) (.int t) = some a) (hh : eqS (.int 0) (.int h) = some c) (ta : decide (t = 0) = a) (hc : decide (h = 0) = c) (base : Mem) (acc : List D) (hacc : Nat.ble 100000 acc.length = false) (d1 : D) (e4 e5 e6 e7 e10 : Option D) (Q : Out → Dm.Env → Mem → Prop)
    (k2 : ∀ e5 e6 e7, Q .nx [some (eLB b), some d1, some (.str (psn k)), some (.loc base.length), e4, e5, e6, e7, some (.int t), some (.int h), e10] (base ++ [.lst (acc ++ [eRow (rowP b k a c)])])) :
    ws (seqS (asgS (callF F__law_person_step (consA (bin2 ixQ (vaS 0) (cS (.int 1))) (consA (vaS 2) (consA (cS (.int 0)) (consA (vaS 8) (consA (vaS 9) nilA)))))) (tupG 3 (consG (nmG 5) (consG (nmG 6) (consG (nmG 7) nilG)))))
      (seqS (setS 5 (ifS (bS (bin2 isNQ (vaS 5) (cS .non))) (cS .non) (bin2 addQ (vaS 5) (callQ lenQ (consA (bin2 ixQ (vaS 0) (cS (.int 0))) nilA)))))
      (dropS (appS (vaS 3) (tupS (consA (vaS 5) (consA (bin2 eqQ (vaS 7) (cS (.int 0))) (consA (callF F__law_person_state (consA (vaS 6) (consA (bin2 eqQ (vaS 8) (cS (.int 0))) (consA (bin2 eqQ (vaS 9) (cS (.int 0))) nilA)))) nilA))))))))
      [some (eLB b), some d1, some (.str (psn k)), some (.loc base.length), e4, e5, e6, e7, some (.int t), some (.int h), e10] (base ++ [.lst acc]) Q := by
  have hps := person_step_eq b k (.int 0) (.int t) (.int h) ht hh rfl rfl rfl (base ++ [.lst acc])
  have e1 : eqQ (base ++ [.lst acc]) (.int t) (.int 0) = some (.bl a) := by rw [← ta]; rfl
  have e2 : eqQ (base ++ [.lst acc]) (.int h) (.int 0) = some (.bl c) := by rw [← hc]; rfl
  have e3 : ∀ σ, eqQ (base ++ [.lst acc]) (pick σ (.int 0) (.int t) (.int h)) (.int 0) = some (.bl (rightP σ a c)) := by
    intro σ
    cases σ
    · exact e1
    · exact e2
    · rfl
  unfold rowP at k2
  generalize sortP k (pact b k a c) = σ at hps k2
  have e3 := e3 σ
  have hst := person_state_eq σ a c (base ++ [.lst acc])
  cases hi : ffrom (pfits k a c) b.ps 0 with
  | none =>
    rw [hi] at hps k2
    walk_at "ev"
    refine app_last ?_ ?_
    · walk_at "ev"; exact ⟨rfl, rfl⟩
    walk_at "ev"
    refine wq_i e3 ?_
    walk_at "ev"
    rw [ta, hc]
    walk_at "ev"
    exact ⟨rfl, rfl, hacc, k2 _ _ _⟩
  | some i =>
    rw [hi] at hps k2
    walk_at "ev"
    refine app_last ?_ ?_
    · walk_at "ev"; exact ⟨rfl, rfl⟩
    walk_at "ev"
    refine wq_i e3 ?_
    walk_at "ev"
    rw [ta, hc]
    walk_at "ev"
    rw [eN_add]
    exact ⟨rfl, rfl, hacc, k2 _ _ _⟩
theorem behQ (b : Bk) (k : QS) (c : Bool) (h : Int) (hh : eqS (.int 0) (.int h) = some c) (hc : decide (h = 0) = c) (base : Mem) (acc : List D) (hacc : Nat.ble 100000 acc.length = false) (d1 : D) (e4 e5 e6 e7 e8 e9 : Option D) (Q : Out → Dm.Env → Mem → Prop)
    (k2 : ∀ e5 e6 e7, Q .nx [some (eLB b), some d1, some (.str (qsn k)), some (.loc base.length), e4, e5, e6, e7, e8, e9, some (.int h)] (base ++ [.lst (acc ++ [eRow (rowQ b k c)])])) :
    ws (seqS (asgS (callF F__law_place_step (consA (bin2 ixQ (vaS 0) (cS (.int 2))) (consA (vaS 2) (consA (cS (.int 0)) (consA (vaS 10) nilA))))) (tupG 3 (consG (nmG 5) (consG (nmG 6) (consG (nmG 7) nilG)))))
      (seqS (setS 5 (ifS (bS (bin2 isNQ (vaS 5) (cS .non))) (cS .non) (bin2 addQ (bin2 addQ (vaS 5) (callQ lenQ (consA (bin2 ixQ (vaS 0) (cS (.int 0))) nilA))) (callQ lenQ (consA (bin2 ixQ (vaS 0) (cS (.int 1))) nilA)))))
      (dropS (appS (vaS 3) (tupS (consA (vaS 5) (consA (bin2 eqQ (vaS 7) (cS (.int 0))) (consA (ifS (bS (bin2 eqQ (vaS 6) (cS (.str "here")))) (tupS (consA (cS (.str "here")) nilA)) (tupS (consA (vaS 6) (consA (bin2 eqQ (vaS 10) (cS (.int 0))) nilA)))) nilA))))))))
      [some (eLB b), some d1, some (.str (qsn k)), some (.loc base.length), e4, e5, e6, e7, e8, e9, some (.int h)] (base ++ [.lst acc]) Q := by
  have hps := place_step_eq b k (.int 0) (.int h) hh rfl rfl (base ++ [.lst acc])
  have e2 : eqQ (base ++ [.lst acc]) (.int h) (.int 0) = some (.bl c) := by rw [← hc]; rfl
  unfold rowQ at k2
  generalize sortQ k (qact b k c) = σ at hps k2
  cases hi : ffrom (qfits k c) b.qs 0 with
  | none =>
    rw [hi] at hps k2
    cases σ with
    | here =>
      walk_at "ev"
      refine app_last ?_ ?_
      · walk_at "ev"; exact ⟨rfl, rfl⟩
      walk_at "ev"
      rw [hc]
      exact ⟨rfl, rfl, hacc, k2 _ _ _⟩
    | place =>
      walk_at "ev"
      refine app_last ?_ ?_
      · walk_at "ev"; exact ⟨rfl, rfl⟩
      walk_at "ev"
      rw [hc]
      exact ⟨rfl, rfl, hacc, k2 _ _ _⟩
  | some i =>
    rw [hi] at hps k2
    cases σ with
    | here =>
      walk_at "ev"
      refine app_last ?_ ?_
      · walk_at "ev"; exact ⟨rfl, rfl⟩
      walk_at "ev"
      rw [hc, List.length_map, eN_add2]
      exact ⟨rfl, rfl, hacc, k2 _ _ _⟩
    | place =>
      walk_at "ev"
      refine app_last ?_ ?_
      · walk_at "ev"; exact ⟨rfl, rfl⟩
      walk_at "ev"
      rw [hc, List.length_map, eN_add2]
      exact ⟨rfl, rfl, hacc, k2 _ _ _⟩
def hds : St → Str
  | .I _ => "I" | .you _ => "you" | .name _ _ => "name" | .here => "here" | .place _ => "place"
theorem law_behind_eq (b : Bk) (st : St) (mu : Mem) : F__law_behind [eLB b, eSt st] mu = some (.lst [eRow (trans b st true), eRow (trans b st false)], mu) := by
  refine df_tail (m1 := mu) (l := [.gone]) ?_ rfl rfl
  unfold b__law_behind
  have tailP : ∀ (k : PS) (a : Bool) (t : Int) (ht : eqS (.int 0) (.int t) = some a) (ta : decide (t = 0) = a) (d1 : D) (e4 e5 e6 e7 e9 e10 : Option D) (QS : Out → Dm.Env → Mem → Prop)
      (kk : ∀ e5 e6 e7 e9, QS .nx [some (eLB b), some d1, some (.str (psn k)), some (.loc mu.length), e4, e5, e6, e7, some (.int t), e9, e10] (mu ++ [.lst [eRow (rowP b k a true), eRow (rowP b k a false)]])),
      ws (forS (itLS (lstS (consA (cS (.int 0)) (consA (cS (.int 2)) nilA)))) (nmG 9) (seqS (asgS (callF F__law_person_step (consA (bin2 ixQ (vaS 0) (cS (.int 1))) (consA (vaS 2) (consA (cS (.int 0)) (consA (vaS 8) (consA (vaS 9) nilA)))))) (tupG 3 (consG (nmG 5) (consG (nmG 6) (consG (nmG 7) nilG)))))
        (seqS (setS 5 (ifS (bS (bin2 isNQ (vaS 5) (cS .non))) (cS .non) (bin2 addQ (vaS 5) (callQ lenQ (consA (bin2 ixQ (vaS 0) (cS (.int 0))) nilA)))))
        (dropS (appS (vaS 3) (tupS (consA (vaS 5) (consA (bin2 eqQ (vaS 7) (cS (.int 0))) (consA (callF F__law_person_state (consA (vaS 6) (consA (bin2 eqQ (vaS 8) (cS (.int 0))) (consA (bin2 eqQ (vaS 9) (cS (.int 0))) nilA)))) nilA))))))))) [some (eLB b), some d1, some (.str (psn k)), some (.loc mu.length), e4, e5, e6, e7, some (.int t), e9, e10] (mu ++ [.lst []]) QS := by
    intro k a t ht ta d1 e4 e5 e6 e7 e9 e10 QS kk
    refine ws_forU ?_
    refine wa_itL ?_
    walk_at "ev"
    refine wfl_cons (wg_nm ?_)
    refine behP b k a true t 0 ht rfl ta rfl mu [] rfl d1 e4 e5 e6 e7 e10 _ fun e5 e6 e7 => turn_nxU ?_
    refine wfl_cons (wg_nm ?_)
    refine behP b k a false t 2 ht rfl ta rfl mu [_] rfl d1 e4 e5 e6 e7 e10 _ fun e5 e6 e7 => turn_nxU ?_
    exact wfl_nil (kk _ _ _ _)
  have tailQ : ∀ (k : QS) (d1 : D) (e4 e5 e6 e7 e8 e9 e10 : Option D) (QS : Out → Dm.Env → Mem → Prop)
      (kk : ∀ e5 e6 e7 e10, QS .nx [some (eLB b), some d1, some (.str (qsn k)), some (.loc mu.length), e4, e5, e6, e7, e8, e9, e10] (mu ++ [.lst [eRow (rowQ b k true), eRow (rowQ b k false)]])),
      ws (forS (itLS (lstS (consA (cS (.int 0)) (consA (cS (.int 1)) nilA)))) (nmG 10) (seqS (asgS (callF F__law_place_step (consA (bin2 ixQ (vaS 0) (cS (.int 2))) (consA (vaS 2) (consA (cS (.int 0)) (consA (vaS 10) nilA))))) (tupG 3 (consG (nmG 5) (consG (nmG 6) (consG (nmG 7) nilG)))))
        (seqS (setS 5 (ifS (bS (bin2 isNQ (vaS 5) (cS .non))) (cS .non) (bin2 addQ (bin2 addQ (vaS 5) (callQ lenQ (consA (bin2 ixQ (vaS 0) (cS (.int 0))) nilA))) (callQ lenQ (consA (bin2 ixQ (vaS 0) (cS (.int 1))) nilA)))))
        (dropS (appS (vaS 3) (tupS (consA (vaS 5) (consA (bin2 eqQ (vaS 7) (cS (.int 0))) (consA (ifS (bS (bin2 eqQ (vaS 6) (cS (.str "here")))) (tupS (consA (cS (.str "here")) nilA)) (tupS (consA (vaS 6) (consA (bin2 eqQ (vaS 10) (cS (.int 0))) nilA)))) nilA))))))))) [some (eLB b), some d1, some (.str (qsn k)), some (.loc mu.length), e4, e5, e6, e7, e8, e9, e10] (mu ++ [.lst []]) QS := by
    intro k d1 e4 e5 e6 e7 e8 e9 e10 QS kk
    refine ws_forU ?_
    refine wa_itL ?_
    walk_at "ev"
    refine wfl_cons (wg_nm ?_)
    refine behQ b k true 0 rfl rfl mu [] rfl d1 e4 e5 e6 e7 e8 e9 _ fun e5 e6 e7 => turn_nxU ?_
    refine wfl_cons (wg_nm ?_)
    refine behQ b k false 1 rfl rfl mu [_] rfl d1 e4 e5 e6 e7 e8 e9 _ fun e5 e6 e7 => turn_nxU ?_
    exact wfl_nil (kk _ _ _ _)
  cases st with
  | I x =>
    walk_at "ev"
    refine we_lstM ?_
    walk_at "ev"
    cases x with
    | true =>
      walk_at "ev"
      refine tailP .I true 0 rfl rfl (eSt (.I true)) none none none none none none _ fun e5 e6 e7 e9 => ?_
      walk_at "ev"
      refine frz_last ?_ ?_
      · walk_at "ev"; exact ⟨rfl, rfl⟩
      · exact ⟨rfl, rfl⟩
    | false =>
      walk_at "ev"
      refine tailP .I false 1 rfl rfl (eSt (.I false)) none none none none none none _ fun e5 e6 e7 e9 => ?_
      walk_at "ev"
      refine frz_last ?_ ?_
      · walk_at "ev"; exact ⟨rfl, rfl⟩
      · exact ⟨rfl, rfl⟩
  | you x =>
    walk_at "ev"
    refine we_lstM ?_
    walk_at "ev"
    refine tailP .you true 0 rfl rfl (eSt (.you x)) none none none none none none _ fun e5 e6 e7 e9 => ?_
    walk_at "ev"
    refine frz_last ?_ ?_
    · walk_at "ev"; exact ⟨rfl, rfl⟩
    · exact ⟨rfl, rfl⟩
  | name y x =>
    walk_at "ev"
    refine we_lstM ?_
    walk_at "ev"
    cases x with
    | true =>
      walk_at "ev"
      refine tailP .name true 0 rfl rfl (eSt (.name y true)) none none none none none none _ fun e5 e6 e7 e9 => ?_
      walk_at "ev"
      refine frz_last ?_ ?_
      · walk_at "ev"; exact ⟨rfl, rfl⟩
      · exact ⟨rfl, rfl⟩
    | false =>
      walk_at "ev"
      refine tailP .name false 1 rfl rfl (eSt (.name y false)) none none none none none none _ fun e5 e6 e7 e9 => ?_
      walk_at "ev"
      refine frz_last ?_ ?_
      · walk_at "ev"; exact ⟨rfl, rfl⟩
      · exact ⟨rfl, rfl⟩
  | here =>
    walk_at "ev"
    refine we_lstM ?_
    walk_at "ev"
    refine tailQ .here (eSt .here) none none none none none none none _ fun e5 e6 e7 e10 => ?_
    walk_at "ev"
    refine frz_last ?_ ?_
    · walk_at "ev"; exact ⟨rfl, rfl⟩
    · exact ⟨rfl, rfl⟩
  | place x =>
    walk_at "ev"
    refine we_lstM ?_
    walk_at "ev"
    refine tailQ .place (eSt (.place x)) none none none none none none none _ fun e5 e6 e7 e10 => ?_
    walk_at "ev"
    refine frz_last ?_ ?_
    · walk_at "ev"; exact ⟨rfl, rfl⟩
    · exact ⟨rfl, rfl⟩
local macro_rules | `(tactic| walk_at "sp") => `(tactic| with_reducible refine wf_of (law_behind_eq _ _ _) ?_)
def begun : Wo → List St
  | .pI => [.I false, .I true]
  | .pyou => [.you false, .you true]
  | .pname _ => [.name false false, .name true false, .name false true, .name true true]
  | .here => [.here]
  | .place _ => [.place false, .place true]
theorem law_begun_eq (w : Wo) (mu : Mem) : F__law_begun [eW w] mu = some (.lst ((begun w).map eSt), mu) := by
  refine df_pure ?_ rfl
  unfold b__law_begun
  cases w with
  | pname n =>
    walk_at "ev"
    refine we_map (items := rngD 0 4) (outs := (begun (.pname n)).map eSt) (m0 := mu) ?_ rfl (by decide) rfl ?_ ?_
    · refine wa_it1 ?_
      walk_at "ev"
      exact ⟨_, rfl, by decide, rfl, rfl⟩
    · intro i d v acc hd hv
      match i with
      | 0 => cases hd; cases hv; walk_at "ev"; exact ⟨rfl, rfl⟩
      | 1 => cases hd; cases hv; walk_at "ev"; exact ⟨rfl, rfl⟩
      | 2 => cases hd; cases hv; walk_at "ev"; exact ⟨rfl, rfl⟩
      | 3 => cases hd; cases hv; walk_at "ev"; exact ⟨rfl, rfl⟩
      | j + 4 => cases hd
    · exact ⟨rfl, rfl⟩
  | _ =>
    walk_at "ev"
    exact ⟨rfl, rfl⟩
local macro_rules | `(tactic| walk_at "sp") => `(tactic| with_reducible refine wf_of (law_begun_eq _ _) ?_)
end T
/-! Pu7: plain: levels and queues reach the same. -/
namespace T
open PySem PySem.Spec PyProof.Rows L2 Dm
section
variable (tr : St → Bool → Row) (S : List St)
inductive Reach : Nat → St → Prop where
  | zero {s : St} : s ∈ S → Reach 0 s
  | succ {n : Nat} {s : St} {c : Bool} : Reach n s → (tr s c).2.1 = true → Reach (n + 1) (tr s c).2.2
def Wrong (s : St) : Prop := ∃ c, (tr s c).2.1 = false
end
def putU (U : List Nat) (k : Nat) : List Nat := if k ∈ U then U else U ++ [k]
def putUo (U : List Nat) : Option Nat → List Nat
  | none => U
  | some k => putU U k
structure LS where
  K : List St
  U : List Nat
  L : Option Nat
  O : List St
def lawRow (t : Nat) (x : LS) (r : Row) : LS :=
  ⟨if r.2.1 = true ∧ r.2.2 ∉ x.K then x.K ++ [r.2.2] else x.K, putUo x.U r.1, if r.2.1 = false ∧ x.L = none then some (t + 1) else x.L, if r.2.1 = true ∧ r.2.2 ∉ x.K then x.O ++ [r.2.2] else x.O⟩
def rowsOf (tr : St → Bool → Row) (lvl : List St) : List Row := lvl.flatMap fun s => [tr s true, tr s false]
def lawLevel (tr : St → Bool → Row) (t : Nat) (K : List St) (U : List Nat) (L : Option Nat) (lvl : List St) : LS := (rowsOf tr lvl).foldl (lawRow t) ⟨K, U, L, []⟩
def lawRun (tr : St → Bool → Row) : Nat → Nat → List St → List Nat → Option Nat → List St → List St × List Nat × Option Nat
  | 0, _, K, U, L, _ => (K, U, L)
  | n + 1, t, K, U, L, lvl => if (lawLevel tr t K U L lvl).O = [] then ((lawLevel tr t K U L lvl).K, (lawLevel tr t K U L lvl).U, (lawLevel tr t K U L lvl).L)
    else lawRun tr n (t + 1) (lawLevel tr t K U L lvl).K (lawLevel tr t K U L lvl).U (lawLevel tr t K U L lvl).L (lawLevel tr t K U L lvl).O
theorem mem_putU {U : List Nat} {k j : Nat} : j ∈ putU U k ↔ j ∈ U ∨ j = k := by
  unfold putU
  split
  · rename_i h
    constructor
    · exact .inl
    · rintro (z | z)
      · exact z
      · rw [z]; exact h
  · simp
theorem nodup_putU {U : List Nat} {k : Nat} (h : U.Nodup) : (putU U k).Nodup := by
  unfold putU
  split
  · exact h
  · rename_i hk
    rw [List.nodup_append]
    exact ⟨h, by simp, fun a ha b hb => by
      have : b = k := by simpa using hb
      subst this
      exact fun e => hk (e ▸ ha)⟩
theorem mem_putUo {U : List Nat} {o : Option Nat} {j : Nat} : j ∈ putUo U o ↔ j ∈ U ∨ o = some j := by
  cases o with
  | none => simp [putUo]
  | some k =>
    unfold putUo
    rw [mem_putU]
    simp [eq_comm]
theorem nodup_putUo {U : List Nat} {o : Option Nat} (h : U.Nodup) : (putUo U o).Nodup := by
  cases o with
  | none => exact h
  | some k => exact nodup_putU h
theorem nodup_snoc {l : List St} {s : St} (h : l.Nodup) (hs : s ∉ l) : (l ++ [s]).Nodup := by
  rw [List.nodup_append]
  exact ⟨h, by simp, fun a ha b hb => by
    have : b = s := by simpa using hb
    subst this
    exact fun e => hs (e ▸ ha)⟩
structure FoldOk (t : Nat) (K0 : List St) (x : LS) (rows : List Row) (y : LS) : Prop where
  split : y.K = K0 ++ y.O
  nd : y.K.Nodup
  mem : ∀ s, s ∈ y.K ↔ s ∈ x.K ∨ ∃ r ∈ rows, r.2.1 = true ∧ r.2.2 = s
  und : y.U.Nodup
  umem : ∀ k, k ∈ y.U ↔ k ∈ x.U ∨ ∃ r ∈ rows, r.1 = some k
  some_ : ∀ l, x.L = some l → y.L = some l
  none_ : x.L = none → (y.L = none ∧ ∀ r ∈ rows, r.2.1 = true) ∨ (y.L = some (t + 1) ∧ ∃ r ∈ rows, r.2.1 = false)
theorem fold_ok (t : Nat) (K0 : List St) : ∀ (rows : List Row) (x : LS), x.K = K0 ++ x.O → x.K.Nodup → x.U.Nodup → FoldOk t K0 x rows (rows.foldl (lawRow t) x)
  | [], x, h1, h2, h3 => ⟨h1, h2, by simp, h3, by simp, fun l h => h, fun h => .inl ⟨h, by simp⟩⟩
  | r :: rows, x, h1, h2, h3 => by
    have e1 : (lawRow t x r).K = K0 ++ (lawRow t x r).O := by
      unfold lawRow
      dsimp only
      split
      · rw [h1, List.append_assoc]
      · exact h1
    have e2 : (lawRow t x r).K.Nodup := by
      unfold lawRow
      dsimp only
      split
      · rename_i h
        exact nodup_snoc h2 h.2
      · exact h2
    have e3 : (lawRow t x r).U.Nodup := nodup_putUo h3
    have ih := fold_ok t K0 rows (lawRow t x r) e1 e2 e3
    have mK : ∀ s, s ∈ (lawRow t x r).K ↔ s ∈ x.K ∨ (r.2.1 = true ∧ r.2.2 = s) := by
      intro s
      unfold lawRow
      dsimp only
      split
      · rename_i h
        rw [List.mem_append, List.mem_singleton]
        constructor
        · rintro (z | z)
          · exact .inl z
          · exact .inr ⟨h.1, z.symm⟩
        · rintro (z | z)
          · exact .inl z
          · exact .inr z.2.symm
      · rename_i h
        constructor
        · exact .inl
        · rintro (z | ⟨z1, z2⟩)
          · exact z
          · subst z2
            exact Decidable.byContradiction fun q => h ⟨z1, q⟩
    have mU : ∀ k, k ∈ (lawRow t x r).U ↔ k ∈ x.U ∨ r.1 = some k := fun k => mem_putUo
    rw [List.foldl_cons]
    refine ⟨ih.split, ih.nd, fun s => ?_, ih.und, fun k => ?_, fun l h => ?_, fun h => ?_⟩
    · rw [ih.mem, mK]
      constructor
      · rintro ((z | z) | ⟨r', z1, z2⟩)
        · exact .inl z
        · exact .inr ⟨r, List.mem_cons_self, z⟩
        · exact .inr ⟨r', List.mem_cons_of_mem _ z1, z2⟩
      · rintro (z | ⟨r', z1, z2⟩)
        · exact .inl (.inl z)
        · rcases List.mem_cons.mp z1 with rfl | z1
          · exact .inl (.inr z2)
          · exact .inr ⟨r', z1, z2⟩
    · rw [ih.umem, mU]
      constructor
      · rintro ((z | z) | ⟨r', z1, z2⟩)
        · exact .inl z
        · exact .inr ⟨r, List.mem_cons_self, z⟩
        · exact .inr ⟨r', List.mem_cons_of_mem _ z1, z2⟩
      · rintro (z | ⟨r', z1, z2⟩)
        · exact .inl (.inl z)
        · rcases List.mem_cons.mp z1 with rfl | z1
          · exact .inl (.inr z2)
          · exact .inr ⟨r', z1, z2⟩
    · refine ih.some_ l ?_
      unfold lawRow
      dsimp only
      rw [if_neg (by rw [h]; simp)]
      exact h
    · cases hr : r.2.1 with
      | false =>
        refine .inr ⟨ih.some_ _ ?_, r, List.mem_cons_self, hr⟩
        unfold lawRow
        dsimp only
        rw [if_pos ⟨hr, h⟩]
      | true =>
        have hL : (lawRow t x r).L = none := by
          unfold lawRow
          dsimp only
          rw [if_neg (by rw [hr]; simp)]
          exact h
        rcases ih.none_ hL with ⟨z1, z2⟩ | ⟨z1, r', z2, z3⟩
        · refine .inl ⟨z1, fun q hq => ?_⟩
          rcases List.mem_cons.mp hq with rfl | hq
          · exact hr
          · exact z2 q hq
        · exact .inr ⟨z1, r', List.mem_cons_of_mem _ z2, z3⟩
theorem mem_rows {tr : St → Bool → Row} {lvl : List St} {r : Row} : r ∈ rowsOf tr lvl ↔ ∃ s ∈ lvl, ∃ c, r = tr s c := by
  unfold rowsOf
  rw [List.mem_flatMap]
  constructor
  · rintro ⟨s, h1, h2⟩
    rcases List.mem_cons.mp h2 with h2 | h2
    · exact ⟨s, h1, true, h2⟩
    · exact ⟨s, h1, false, by simpa using h2⟩
  · rintro ⟨s, h1, c, rfl⟩
    refine ⟨s, h1, ?_⟩
    cases c <;> simp
/-- all that is asked of an exploration -/
structure Done (tr : St → Bool → Row) (S : List St) (K : List St) (U : List Nat) (L : Option Nat) : Prop where
  nd : K.Nodup
  mem : ∀ s, s ∈ K ↔ ∃ n, Reach tr S n s
  und : U.Nodup
  umem : ∀ k, k ∈ U ↔ ∃ n s c, Reach tr S n s ∧ (tr s c).1 = some k
  none_ : L = none → ∀ n s, Reach tr S n s → ¬ Wrong tr s
  some_ : ∀ l, L = some l → 1 ≤ l ∧ (∃ s, Reach tr S (l - 1) s ∧ Wrong tr s) ∧ ∀ n s, Reach tr S n s → Wrong tr s → l - 1 ≤ n
structure LInv (tr : St → Bool → Row) (S : List St) (t : Nat) (K : List St) (U : List Nat) (L : Option Nat) (lvl : List St) : Prop where
  nd : K.Nodup
  mem : ∀ s, s ∈ K ↔ ∃ n, n ≤ t ∧ Reach tr S n s
  lev : ∀ s ∈ lvl, Reach tr S t s
  all : ∀ s, Reach tr S t s → s ∈ lvl ∨ ∃ n, n < t ∧ Reach tr S n s
  und : U.Nodup
  umem : ∀ k, k ∈ U ↔ ∃ n s c, n < t ∧ Reach tr S n s ∧ (tr s c).1 = some k
  none_ : L = none → ∀ n s, n < t → Reach tr S n s → ¬ Wrong tr s
  some_ : ∀ l, L = some l → 1 ≤ l ∧ (∃ s, Reach tr S (l - 1) s ∧ Wrong tr s) ∧ ∀ n s, Reach tr S n s → Wrong tr s → l - 1 ≤ n
  big : t ≤ K.length
def allSt : List St := [.I true, .I false, .you true, .you false, .name true true, .name true false, .name false true, .name false false, .here, .place true, .place false]
theorem mem_allSt (s : St) : s ∈ allSt := by
  cases s with
  | I c => cases c <;> decide
  | you c => cases c <;> decide
  | name a c => cases a <;> cases c <;> decide
  | here => decide
  | place c => cases c <;> decide
theorem nodup_le : ∀ {l m : List St}, l.Nodup → (∀ s ∈ l, s ∈ m) → l.length ≤ m.length
  | [], _, _, _ => Nat.zero_le _
  | a :: l, m, nd, h => by
    rw [List.nodup_cons] at nd
    have ha := h a List.mem_cons_self
    have ih := nodup_le (m := m.erase a) nd.2 fun s hs => by
      have hne : s ≠ a := fun e => nd.1 (e ▸ hs)
      exact (List.mem_erase_of_ne hne).mpr (h s (List.mem_cons_of_mem _ hs))
    rw [List.length_erase_of_mem ha] at ih
    have : 0 < m.length := List.length_pos_of_mem ha
    rw [List.length_cons]
    omega
theorem small_K {K : List St} (h : K.Nodup) : K.length ≤ 11 := nodup_le (m := allSt) h fun s _ => mem_allSt s
section
variable {tr : St → Bool → Row} {S : List St}
theorem law_turn {t : Nat} {K : List St} {U : List Nat} {L : Option Nat} {lvl : List St} (I : LInv tr S t K U L lvl) :
    ((lawLevel tr t K U L lvl).O = [] → Done tr S (lawLevel tr t K U L lvl).K (lawLevel tr t K U L lvl).U (lawLevel tr t K U L lvl).L) ∧
    ((lawLevel tr t K U L lvl).O ≠ [] → LInv tr S (t + 1) (lawLevel tr t K U L lvl).K (lawLevel tr t K U L lvl).U (lawLevel tr t K U L lvl).L (lawLevel tr t K U L lvl).O) := by
  have F := fold_ok t K (rowsOf tr lvl) ⟨K, U, L, []⟩ (by simp) I.nd I.und
  change FoldOk t K ⟨K, U, L, []⟩ (rowsOf tr lvl) (lawLevel tr t K U L lvl) at F
  generalize lawLevel tr t K U L lvl = y at F
  have mem' : ∀ s, s ∈ y.K ↔ ∃ n, n ≤ t + 1 ∧ Reach tr S n s := by
    intro s
    rw [F.mem]
    constructor
    · rintro (z | ⟨r, hr, z1, z2⟩)
      · obtain ⟨n, h1, h2⟩ := (I.mem s).mp z
        exact ⟨n, by omega, h2⟩
      · obtain ⟨s0, h1, c, rfl⟩ := mem_rows.mp hr
        subst z2
        exact ⟨t + 1, Nat.le_refl _, .succ (I.lev s0 h1) z1⟩
    · rintro ⟨n, h1, h2⟩
      by_cases hn : n ≤ t
      · exact .inl ((I.mem s).mpr ⟨n, hn, h2⟩)
      · have : n = t + 1 := by omega
        subst this
        cases h2 with
        | succ h3 h4 =>
          rename_i s0 c
          rcases I.all s0 h3 with z | ⟨m, z1, z2⟩
          · exact .inr ⟨tr s0 c, mem_rows.mpr ⟨s0, z, c, rfl⟩, h4, rfl⟩
          · exact .inl ((I.mem _).mpr ⟨m + 1, by omega, .succ z2 h4⟩)
  have umem' : ∀ k, k ∈ y.U ↔ ∃ n s c, n < t + 1 ∧ Reach tr S n s ∧ (tr s c).1 = some k := by
    intro k
    rw [F.umem]
    constructor
    · rintro (z | ⟨r, hr, z⟩)
      · obtain ⟨n, s, c, h1, h2⟩ := (I.umem k).mp z
        exact ⟨n, s, c, by omega, h2⟩
      · obtain ⟨s0, h1, c, rfl⟩ := mem_rows.mp hr
        exact ⟨t, s0, c, by omega, I.lev s0 h1, z⟩
    · rintro ⟨n, s, c, h1, h2, h3⟩
      by_cases hn : n < t
      · exact .inl ((I.umem k).mpr ⟨n, s, c, hn, h2, h3⟩)
      · have : n = t := by omega
        subst this
        rcases I.all s h2 with z | ⟨m, z1, z2⟩
        · exact .inr ⟨tr s c, mem_rows.mpr ⟨s, z, c, rfl⟩, h3⟩
        · exact .inl ((I.umem k).mpr ⟨m, s, c, z1, z2, h3⟩)
  have noneW : y.L = none → ∀ n s, n < t + 1 → Reach tr S n s → ¬ Wrong tr s := by
    intro h n s h1 h2 ⟨c, h3⟩
    cases hL : L with
    | some l => rw [F.some_ l hL] at h; cases h
    | none =>
      rcases F.none_ hL with ⟨_, z⟩ | ⟨z, _⟩
      · by_cases hn : n < t
        · exact I.none_ hL n s hn h2 ⟨c, h3⟩
        · have : n = t := by omega
          subst this
          rcases I.all s h2 with q | ⟨m, q1, q2⟩
          · have := z (tr s c) (mem_rows.mpr ⟨s, q, c, rfl⟩)
            rw [h3] at this
            cases this
          · exact I.none_ hL m s q1 q2 ⟨c, h3⟩
      · rw [z] at h; cases h
  have someW : ∀ l, y.L = some l → 1 ≤ l ∧ (∃ s, Reach tr S (l - 1) s ∧ Wrong tr s) ∧ ∀ n s, Reach tr S n s → Wrong tr s → l - 1 ≤ n := by
    intro l h
    cases hL : L with
    | some l' =>
      rw [F.some_ l' hL] at h
      cases h
      exact I.some_ l hL
    | none =>
      rcases F.none_ hL with ⟨z, _⟩ | ⟨z, r, hr, z2⟩
      · rw [z] at h; cases h
      · rw [z] at h
        cases h
        obtain ⟨s0, h1, c, rfl⟩ := mem_rows.mp hr
        refine ⟨by omega, ⟨s0, I.lev s0 h1, c, z2⟩, fun n s h3 h4 => ?_⟩
        refine Nat.le_of_not_lt fun hn => ?_
        exact I.none_ hL n s (by omega) h3 h4
  constructor
  · intro hO
    have hK : y.K = K := by rw [F.split, hO, List.append_nil]
    have back : ∀ n s, Reach tr S n s → ∃ m, m ≤ t ∧ Reach tr S m s := by
      intro n s h
      induction h with
      | zero h => exact ⟨0, Nat.zero_le _, .zero h⟩
      | succ h1 h2 ih =>
        rename_i n s c
        obtain ⟨m, q1, q2⟩ := ih
        have q3 : Reach tr S (m + 1) (tr s c).2.2 := .succ q2 h2
        have := (mem' _).mpr ⟨m + 1, by omega, q3⟩
        rw [hK] at this
        exact (I.mem _).mp this
    refine ⟨F.nd, fun s => ?_, F.und, fun k => ?_, fun h n s h1 => ?_, someW⟩
    · rw [hK, I.mem]
      constructor
      · rintro ⟨n, _, h⟩
        exact ⟨n, h⟩
      · rintro ⟨n, h⟩
        exact back n s h
    · rw [umem']
      constructor
      · rintro ⟨n, s, c, _, h⟩
        exact ⟨n, s, c, h⟩
      · rintro ⟨n, s, c, h1, h2⟩
        obtain ⟨m, q1, q2⟩ := back n s h1
        exact ⟨m, s, c, by omega, q2, h2⟩
    · obtain ⟨m, q1, q2⟩ := back n s h1
      exact noneW h m s (by omega) q2
  · intro hO
    refine ⟨F.nd, mem', fun s hs => ?_, fun s hs => ?_, F.und, umem', noneW, someW, ?_⟩
    · have h1 : s ∈ y.K := by rw [F.split]; exact List.mem_append_right _ hs
      rcases (F.mem s).mp h1 with z | ⟨r, hr, z1, z2⟩
      · exfalso
        have nd := F.nd
        rw [F.split, List.nodup_append] at nd
        exact nd.2.2 s z s hs rfl
      · obtain ⟨s0, h0, c, rfl⟩ := mem_rows.mp hr
        subst z2
        exact .succ (I.lev s0 h0) z1
    · have h1 := (mem' s).mpr ⟨t + 1, Nat.le_refl _, hs⟩
      rw [F.split] at h1
      rcases List.mem_append.mp h1 with z | z
      · obtain ⟨n, q1, q2⟩ := (I.mem s).mp z
        exact .inr ⟨n, by omega, q2⟩
      · exact .inl z
    · have h1 : y.K.length = K.length + y.O.length := by rw [F.split, List.length_append]
      have h2 : 0 < y.O.length := List.length_pos_iff.mpr hO
      have := I.big
      omega
theorem law_run : ∀ (n t : Nat) (K : List St) (U : List Nat) (L : Option Nat) (lvl : List St), LInv tr S t K U L lvl → 12 ≤ n + t → Done tr S (lawRun tr n t K U L lvl).1 (lawRun tr n t K U L lvl).2.1 (lawRun tr n t K U L lvl).2.2
  | 0, t, K, U, L, lvl, I, hn => by
    have h1 := I.big
    have h2 := small_K I.nd
    omega
  | n + 1, t, K, U, L, lvl, I, hn => by
    unfold lawRun
    split
    · rename_i h
      exact (law_turn I).1 h
    · rename_i h
      exact law_run n (t + 1) _ _ _ _ ((law_turn I).2 h) (by omega)
theorem law_done (hS : S.Nodup) : Done tr S (lawRun tr 60 0 S [] none S).1 (lawRun tr 60 0 S [] none S).2.1 (lawRun tr 60 0 S [] none S).2.2 := by
  refine law_run 60 0 S [] none S ⟨hS, fun s => ?_, fun s h => .zero h, fun s h => ?_, List.nodup_nil, fun k => ?_, (fun _ n s h => by omega), (fun l h => by cases h), Nat.zero_le _⟩ (by omega)
  · constructor
    · exact fun h => ⟨0, Nat.le_refl _, .zero h⟩
    · rintro ⟨n, h1, h2⟩
      have : n = 0 := by omega
      subst this
      cases h2
      assumption
  · cases h
    exact .inl (by assumption)
  · constructor
    · intro h; cases h
    · rintro ⟨n, s, c, h, _⟩; omega
end
end T
/-! Pu8: the law's closure by data. -/
namespace T
open PySem PySem.Spec PyProof.Rows L2 Dm
local macro_rules | `(tactic| walk_at "sp") => `(tactic| fail)
local macro_rules | `(tactic| walk_at "ev") => `(tactic| repeat (first
  | apply_rules -exfalso (transparency := .reducible) (maxDepth := 100000) only [ws_seq, nxt_nx, ws_set, ws_if, ws_ret, ws_nx, ws_bk, ws_drop, ws_put, we_c, we_bin2, wt_bS, wt_tr, wt_not, wt_and, wa_nil, wa_cons, we_tup, we_lst, we_callQ, we_call, wg_nm, wgs_nil, wgs_cons, ex_bl, ex_lst]
  | (apply_rules -exfalso (transparency := .reducible) (maxDepth := 1) only [we_va]; exact rfl)
  | (apply_rules -exfalso (transparency := .reducible) (maxDepth := 1) only [ok_and]; first | rfl | focus (simp [okItems]; done) | focus (simp [okItems, *]; done))
  | with_reducible refine wg_tup rfl ?_
  | with_reducible refine wf_of (by assumption) ?_
  | walk_at "sp"
  | apply_rules -exfalso (transparency := .reducible) (maxDepth := 1) only [wf_of (law_begun_eq _ _), wf_of (law_behind_eq _ _ _), wq_i (isN_eN _)]
  | (apply_rules -exfalso (transparency := .reducible) (maxDepth := 1) only [wq_i]; exact rfl)
  | (apply_rules -exfalso (transparency := .reducible) (maxDepth := 1) only [br_t]; first | assumption | decide +kernel | rfl)
  | (apply_rules -exfalso (transparency := .reducible) (maxDepth := 1) only [br_f]; first | assumption | decide +kernel | rfl)))
/-! data of states, as keys, as things that are compared -/
def eK (K : List St) : List (D × D) := K.map fun s => (eSt s, .bl true)
def eU (U : List Nat) : List (Int × D) := U.map fun (k : Nat) => ((k : Int), .bl true)
theorem key_inj {a b : St} : (toKey (eSt a) = toKey (eSt b)) ↔ a = b := by
  have h : (allSt.all fun a => allSt.all fun b => decide (decide (toKey (eSt a) = toKey (eSt b)) = decide (a = b))) = true := by decide +kernel
  have h1 := of_decide_eq_true (List.all_eq_true.mp (List.all_eq_true.mp h a (mem_allSt a)) b (mem_allSt b))
  constructor
  · intro e
    rw [decide_eq_true e] at h1
    exact of_decide_eq_true h1.symm
  · intro e
    rw [e]
theorem has_eK {K : List St} {s : St} : hasT (eK K) (eSt s) = decide (s ∈ K) := by
  unfold hasT eK
  induction K with
  | nil => rfl
  | cons a K ih =>
    rw [List.map_cons, List.any_cons, ih]
    by_cases h : a = s
    · subst h; simp
    · have h1 : ¬ toKey (eSt a) = toKey (eSt s) := fun e => h (key_inj.mp e)
      rw [decide_eq_false h1]
      have h2 : ¬ s = a := fun e => h e.symm
      simp [h2]
def putK (K : List St) (s : St) : List St := if s ∈ K then K else K ++ [s]
theorem put_eK {K : List St} {s : St} : putT (eK K) (eSt s) (.bl true) = eK (putK K s) := by
  unfold putT putK
  rw [has_eK]
  by_cases h : s ∈ K
  · rw [if_pos (by simpa using h), if_pos h]
    unfold eK
    rw [List.map_map]
    apply List.map_congr_left
    intro a _
    show (if toKey (eSt a) = toKey (eSt s) then ((eSt a, D.bl true) : D × D) else (eSt a, .bl true)) = _
    split <;> rfl
  · rw [if_neg (by simpa using h), if_neg h]
    unfold eK
    rw [List.map_append]
    rfl
theorem put_eU {U : List Nat} {k : Nat} : putI (eU U) (k : Int) (.bl true) = eU (putU U k) := by
  unfold putI putU
  have h0 : ((eU U).any fun p => decide (p.1 = (k : Int))) = decide (k ∈ U) := by
    unfold eU
    induction U with
    | nil => rfl
    | cons a U ih =>
      rw [List.map_cons, List.any_cons, ih]
      by_cases h : a = k
      · subst h; simp
      · have h2 : ¬ k = a := fun e => h e.symm
        have h3 : ¬ ((a : Nat) : Int) = (k : Nat) := fun e => h (by omega)
        simp [h2, h3]
  rw [h0]
  by_cases h : k ∈ U
  · rw [if_pos (by simpa using h), if_pos h]
    unfold eU
    rw [List.map_map]
    apply List.map_congr_left
    intro a _
    show (if ((a : Nat) : Int) = (k : Nat) then ((((a : Nat) : Int), D.bl true) : Int × D) else _) = _
    split <;> rfl
  · rw [if_neg (by simpa using h), if_neg h]
    unfold eU
    rw [List.map_append]
    rfl
theorem eSt_tup (s : St) : ∃ ds k, eSt s = .tup ds ∧ toKey (.tup ds) = some k ∧ Nat.ble 9 k.depth = false := by
  cases s with
  | I c => cases c <;> exact ⟨_, _, rfl, rfl, by decide +kernel⟩
  | you c => cases c <;> exact ⟨_, _, rfl, rfl, by decide +kernel⟩
  | name a c => cases a <;> cases c <;> exact ⟨_, _, rfl, rfl, by decide +kernel⟩
  | here => exact ⟨_, _, rfl, rfl, by decide +kernel⟩
  | place c => cases c <;> exact ⟨_, _, rfl, rfl, by decide +kernel⟩
theorem ble_small {n : Nat} (h : n ≤ 1000) : Nat.ble 100000 n = false := by
  cases q : Nat.ble 100000 n with
  | false => rfl
  | true => have := Nat.le_of_ble_eq_true q; omega
theorem put_T {m : Mem} {j : Nat} {K : List St} {s : St} (hm : m[j]? = some (.dicT (eK K))) (hK : K.length ≤ 1000) : putM m (.loc j) (eSt s) (.bl true) = some (m.set j (.dicT (eK (putK K s)))) := by
  obtain ⟨ds, k, e1, e2, e3⟩ := eSt_tup s
  rw [← put_eK, e1]
  unfold putM
  simp only [hm, e2, e3, isMut]
  have : Nat.ble 100000 (eK K).length = false := by unfold eK; rw [List.length_map]; exact ble_small hK
  rw [this]
  rfl
theorem put_I {m : Mem} {j : Nat} {U : List Nat} {k : Nat} (hm : m[j]? = some (.dicI (eU U))) (hU : U.length ≤ 1000) : putM m (.loc j) (.int (k : Nat)) (.bl true) = some (m.set j (.dicI (eU (putU U k)))) := by
  rw [← put_eU]
  unfold putM
  simp only [hm, isMut]
  have : Nat.ble 100000 (eU U).length = false := by unfold eU; rw [List.length_map]; exact ble_small hU
  rw [this]
  rfl
theorem nin_T {m : Mem} {j : Nat} {K : List St} {s : St} (hm : m[j]? = some (.dicT (eK K))) : ninTQ m (eSt s) (.loc j) = some (.bl (!decide (s ∈ K))) := by
  obtain ⟨ds, k, e1, e2, e3⟩ := eSt_tup s
  rw [← has_eK, e1]
  unfold ninTQ inT
  simp only [hm, e2, e3]
  rfl
theorem isnN_eN {m : Mem} (o : Option Nat) : isnNQ m (eN o) .non = some (.bl (!o.isNone)) := by cases o <;> rfl
local macro_rules | `(tactic| walk_at "sp") => `(tactic| with_reducible refine wq_i (isnN_eN _) ?_)
theorem small_U {U : List Nat} (nd : U.Nodup) (h : ∀ k ∈ U, k < 63) : U.length ≤ 63 := by
  have : ∀ (n : Nat) (l : List Nat), l.Nodup → (∀ k ∈ l, k < n) → l.length ≤ n := by
    intro n
    induction n with
    | zero =>
      intro l _ h
      cases l with
      | nil => exact Nat.le_refl _
      | cons a l => exact absurd (h a List.mem_cons_self) (Nat.not_lt_zero _)
    | succ n ih =>
      intro l nd h
      have h1 := ih (l.filter (· ≠ n)) (nd.filter _) fun k hk => by
        have := List.mem_filter.mp hk
        have h2 := h k this.1
        have h3 : k ≠ n := by simpa using this.2
        omega
      have h2 : l.length ≤ (l.filter (· ≠ n)).length + 1 := by
        clear ih h h1
        induction l with
        | nil => simp
        | cons a l ih =>
          rw [List.nodup_cons] at nd
          rw [List.filter_cons]
          by_cases ha : a = n
          · subst ha
            have : l.filter (· ≠ a) = l := List.filter_eq_self.mpr fun k hk => by
              have : k ≠ a := fun e => nd.1 (e ▸ hk)
              simpa using this
            rw [if_neg (by simp), this]
            exact Nat.le_refl _
          · have := ih nd.2
            simp [ha]
            simpa using this
      omega
  exact this 63 U nd h
structure LOk (x : LS) : Prop where
  nd : x.K.Nodup
  und : x.U.Nodup
  ub : ∀ k ∈ x.U, k < 63
  ol : x.O.length ≤ x.K.length
theorem LOk.row {x : LS} {t : Nat} {r : Row} (h : LOk x) (hr : ∀ k, r.1 = some k → k < 63) : LOk (lawRow t x r) := by
  refine ⟨?_, nodup_putUo h.und, fun k hk => ?_, ?_⟩
  · unfold lawRow
    dsimp only
    split
    · rename_i z
      exact nodup_snoc h.nd z.2
    · exact h.nd
  · rcases mem_putUo.mp (show k ∈ putUo x.U r.1 from hk) with z | z
    · exact h.ub k z
    · exact hr k z
  · unfold lawRow
    dsimp only
    split
    · rw [List.length_append, List.length_append]; exact Nat.add_le_add_right h.ol _
    · exact h.ol
/-- the memory of the law's closure -/
def mL (hd : MO) (jk : Mem) (x : LS) : Mem := ([hd, .dicT (eK x.K), .dicI (eU x.U)] ++ jk) ++ [.lst (x.O.map eSt)]
theorem law_row {hd : MO} {jk : Mem} {x : LS} {t : Nat} {r : Row} {bk w lv st : D} {Q : Out → Dm.Env → Mem → Prop} (ok : LOk x) (hr : ∀ k, r.1 = some k → k < 63)
    (k : Q .nx [some bk, some w, some (.loc 1), some (.loc 2), some (eN (lawRow t x r).L), some lv, some st, some (.int (t : Nat)), some (.loc (3 + jk.length)), some (eN r.1), some (.bl r.2.1), some (eSt r.2.2)] (mL hd jk (lawRow t x r))) :
    ws (seqS (iffS (bS (bin2 isnNQ (vaS 9) (cS .non))) (putS (vaS 3) (vaS 9) (cS (.bl true))) nxS)
      (seqS (iffS (andT (notT (trS (vaS 10))) (bS (bin2 isNQ (vaS 4) (cS .non)))) (setS 4 (bin2 addQ (vaS 7) (cS (.int 1)))) nxS)
      (iffS (andT (trS (vaS 10)) (bS (bin2 ninTQ (vaS 11) (vaS 2)))) (seqS (putS (vaS 2) (vaS 11) (cS (.bl true)))
      (dropS (appS (vaS 8) (vaS 11)))) nxS)))
      [some bk, some w, some (.loc 1), some (.loc 2), some (eN x.L), some lv, some st, some (.int (t : Nat)), some (.loc (3 + jk.length)), some (eN r.1), some (.bl r.2.1), some (eSt r.2.2)] (mL hd jk x) Q := by
  obtain ⟨K, U, L, O⟩ := x
  obtain ⟨r1, r2, r3⟩ := r
  have hKl : K.length ≤ 1000 := by have h : K.length ≤ 11 := small_K ok.nd; omega
  have hUl : U.length ≤ 1000 := by have h : U.length ≤ 63 := small_U ok.und ok.ub; omega
  have hOl : Nat.ble 100000 (O.map eSt).length = false := by
    rw [List.length_map]
    exact ble_small (Nat.le_trans ok.ol hKl)
  -- the rule's number
  have s1 : ∀ (Q : Out → Dm.Env → Mem → Prop) (de : Dm.Env), de = [some bk, some w, some (.loc 1), some (.loc 2), some (eN L), some lv, some st, some (.int (t : Nat)), some (.loc (3 + jk.length)), some (eN r1), some (.bl r2), some (eSt r3)] → Q .nx de (mL hd jk ⟨K, putUo U r1, L, O⟩) →
      ws (iffS (bS (bin2 isnNQ (vaS 9) (cS .non))) (putS (vaS 3) (vaS 9) (cS (.bl true))) nxS) de (mL hd jk ⟨K, U, L, O⟩) Q := by
    rintro Q de rfl q
    cases r1 with
    | none => walk_at "ev"; exact q
    | some j =>
      walk_at "ev"
      refine wq_i (put_I (m := mL hd jk ⟨K, U, L, O⟩) (j := 2) rfl hUl) ?_
      exact q
  have s2 : ∀ (Q : Out → Dm.Env → Mem → Prop) (m : Mem) (de : Dm.Env), de = [some bk, some w, some (.loc 1), some (.loc 2), some (eN L), some lv, some st, some (.int (t : Nat)), some (.loc (3 + jk.length)), some (eN r1), some (.bl r2), some (eSt r3)] →
      Q .nx [some bk, some w, some (.loc 1), some (.loc 2), some (eN (if r2 = false ∧ L = none then some (t + 1) else L)), some lv, some st, some (.int (t : Nat)), some (.loc (3 + jk.length)), some (eN r1), some (.bl r2), some (eSt r3)] m →
      ws (iffS (andT (notT (trS (vaS 10))) (bS (bin2 isNQ (vaS 4) (cS .non)))) (setS 4 (bin2 addQ (vaS 7) (cS (.int 1)))) nxS) de m Q := by
    rintro Q m de rfl q
    cases r2 with
    | true =>
      rw [if_neg (by simp)] at q
      walk_at "ev"
      exact q
    | false =>
      cases L with
      | none =>
        rw [if_pos ⟨rfl, rfl⟩] at q
        walk_at "ev"
        exact q
      | some l =>
        rw [if_neg (by simp)] at q
        walk_at "ev"
        exact q
  have hloc : ∀ U, 3 + jk.length = ([hd, MO.dicT (eK (putK K r3)), MO.dicI (eU U)] ++ jk).length := fun U => by simp; omega
  have s3 : ∀ (U : List Nat) (l : D) (Q : Out → Dm.Env → Mem → Prop) (de : Dm.Env), de = [some bk, some w, some (.loc 1), some (.loc 2), some l, some lv, some st, some (.int (t : Nat)), some (.loc (3 + jk.length)), some (eN r1), some (.bl r2), some (eSt r3)] →
      Q .nx de (mL hd jk ⟨if r2 = true ∧ r3 ∉ K then K ++ [r3] else K, U, L, if r2 = true ∧ r3 ∉ K then O ++ [r3] else O⟩) →
      ws (iffS (andT (trS (vaS 10)) (bS (bin2 ninTQ (vaS 11) (vaS 2)))) (seqS (putS (vaS 2) (vaS 11) (cS (.bl true))) (dropS (appS (vaS 8) (vaS 11)))) nxS) de (mL hd jk ⟨K, U, L, O⟩) Q := by
    rintro U l Q de rfl q
    cases r2 with
    | false =>
      rw [if_neg (by simp), if_neg (by simp)] at q
      walk_at "ev"
      exact q
    | true =>
      have hn := nin_T (m := mL hd jk ⟨K, U, L, O⟩) (j := 1) (K := K) (s := r3) rfl
      by_cases hm : r3 ∈ K
      · rw [if_neg (by simp [hm]), if_neg (by simp [hm])] at q
        rw [decide_eq_true hm] at hn
        walk_at "ev"
        refine wq_i hn ?_
        walk_at "ev"
        exact q
      · rw [if_pos ⟨rfl, hm⟩, if_pos ⟨rfl, hm⟩] at q
        rw [decide_eq_false hm] at hn
        have hp := put_T (m := mL hd jk ⟨K, U, L, O⟩) (j := 1) (K := K) (s := r3) rfl hKl
        walk_at "ev"
        refine wq_i hn ?_
        walk_at "ev"
        refine wq_i hp ?_
        walk_at "ev"
        have hK : putK K r3 = K ++ [r3] := by unfold putK; rw [if_neg hm]
        rw [hK]
        refine app_last (base := [hd, .dicT (eK (K ++ [r3])), .dicI (eU U)] ++ jk) (ds := O.map eSt) ?_ ?_
        · walk_at "ev"
          exact ⟨by rw [← hK, ← hloc U], rfl⟩
        · walk_at "ev"
          refine ⟨rfl, by simp, hOl, ?_⟩
          unfold mL at q
          rw [List.map_append] at q
          exact q
  refine ws_seq ?_
  refine s1 _ _ rfl ?_
  refine nxt_nx ?_
  refine ws_seq ?_
  refine s2 _ _ _ rfl ?_
  refine nxt_nx ?_
  exact s3 (putUo U r1) _ _ _ rfl k
/-! the loops -/
theorem closed_level {hd : MO} {jk : Mem} {b : Bk} {t : Nat} {w lv : D} (hb : ∀ s c k, (trans b s c).1 = some k → k < 63) {Q : Out → Dm.Env → Mem → Prop} {y : LS}
    (k : ∀ e6 e9 e10 e11, Q .nx [some (eLB b), some w, some (.loc 1), some (.loc 2), some (eN y.L), some lv, e6, some (.int (t : Nat)), some (.loc (3 + jk.length)), e9, e10, e11] (mL hd jk y)) (lvl : List St) (x : LS) (e6 e9 e10 e11 : Option D) (ok : LOk x) (hlv : lv = .lst (lvl.map eSt)) (hy : (rowsOf (trans b) lvl).foldl (lawRow t) x = y) :
    ws (forS (itLS (vaS 5)) (nmG 6) (forS (itLS (callF F__law_behind (consA (vaS 0) (consA (vaS 6) nilA)))) (tupG 3 (consG (nmG 9) (consG (nmG 10) (consG (nmG 11) nilG)))) (seqS (iffS (bS (bin2 isnNQ (vaS 9) (cS .non))) (putS (vaS 3) (vaS 9) (cS (.bl true))) nxS)
      (seqS (iffS (andT (notT (trS (vaS 10))) (bS (bin2 isNQ (vaS 4) (cS .non)))) (setS 4 (bin2 addQ (vaS 7) (cS (.int 1)))) nxS)
      (iffS (andT (trS (vaS 10)) (bS (bin2 ninTQ (vaS 11) (vaS 2)))) (seqS (putS (vaS 2) (vaS 11) (cS (.bl true)))
      (dropS (appS (vaS 8) (vaS 11)))) nxS)))))
      [some (eLB b), some w, some (.loc 1), some (.loc 2), some (eN x.L), some lv, e6, some (.int (t : Nat)), some (.loc (3 + jk.length)), e9, e10, e11] (mL hd jk x) Q := by
  subst hlv
  refine ws_for (fun ds e m => ∃ l x e6 e9 e10 e11, ds = l.map eSt ∧ e = [some (eLB b), some w, some (.loc 1), some (.loc 2), some (eN x.L), some (.lst (lvl.map eSt)), e6, some (.int (t : Nat)), some (.loc (3 + jk.length)), e9, e10, e11] ∧ m = mL hd jk x ∧ LOk x ∧ (rowsOf (trans b) l).foldl (lawRow t) x = y) ?_ ?_ ?_
  · refine wa_itL ?_
    walk_at "ev"
    exact ⟨lvl, x, e6, e9, e10, e11, rfl, rfl, rfl, ok, hy⟩
  · rintro d ds e m ⟨l, x, e6, e9, e10, e11, h1, rfl, rfl, ok, hy⟩
    cases l with
    | nil => cases h1
    | cons s l =>
      cases h1
      walk_at "ev"
      refine ws_forU ?_
      refine wa_itL ?_
      walk_at "ev"
      have hr : ∀ c k, (trans b s c).1 = some k → k < 63 := fun c => hb s c
      refine wfl_cons ?_
      refine wg_tup rfl (wgs_cons (wg_nm (wgs_cons (wg_nm (wgs_cons (wg_nm (wgs_nil ?_)))))))
      refine law_row (x := x) (t := t) (r := trans b s true) ok (hr true) ?_
      refine turn_nxU ?_
      refine wfl_cons ?_
      refine wg_tup rfl (wgs_cons (wg_nm (wgs_cons (wg_nm (wgs_cons (wg_nm (wgs_nil ?_)))))))
      refine law_row (x := lawRow t x (trans b s true)) (t := t) (r := trans b s false) (ok.row (hr true)) (hr false) ?_
      refine turn_nxU ?_
      refine wfl_nil ?_
      refine turn_nx' ?_
      exact ⟨l, _, _, _, _, _, rfl, rfl, rfl, (ok.row (hr true)).row (hr false), hy⟩
  · rintro e m ⟨l, x, e6, e9, e10, e11, h1, rfl, rfl, ok, hy⟩
    cases l with
    | cons s l => cases h1
    | nil =>
      have hy : x = y := hy
      subst hy
      exact k _ _ _ _
theorem LInv.lok {tr : St → Bool → Row} {S : List St} {t : Nat} {K : List St} {U : List Nat} {L : Option Nat} {lvl : List St} (I : LInv tr S t K U L lvl) (hb : ∀ s c k, (tr s c).1 = some k → k < 63) : LOk ⟨K, U, L, []⟩ := by
  refine ⟨I.nd, I.und, fun k hk => ?_, Nat.zero_le _⟩
  obtain ⟨n, s, c, _, _, h⟩ := (I.umem k).mp hk
  exact hb s c k h
theorem toPys_St : ∀ (O : List St), toPys (O.map eSt) = some (O.map fun s => pyT (eSt s))
  | [] => by simp only [List.map_nil, toPys]
  | s :: O => by
    have h : toPy (eSt s) = some (pyT (eSt s)) := by
      cases s with
      | I c => rfl
      | you c => rfl
      | name a c => rfl
      | here => rfl
      | place c => rfl
    simp only [List.map_cons, toPys, h, toPys_St O]
theorem shape_St : ∀ (O : List St), PyData.canLayAll0 (O.map fun s => pyT (eSt s)) = true ∧ PyData.depthAll (O.map fun s => pyT (eSt s)) ≤ 1
  | [] => ⟨by simp [PyData.canLayAll0], by simp [PyData.depthAll]⟩
  | s :: O => by
    obtain ⟨h1, h2⟩ := shape_St O
    have h3 : (allSt.all fun s => (pyT (eSt s)).canLay0 && decide ((pyT (eSt s)).depth ≤ 1)) = true := by decide +kernel
    have h4 := List.all_eq_true.mp h3 s (mem_allSt s)
    rw [Bool.and_eq_true] at h4
    have h5 := of_decide_eq_true h4.2
    refine ⟨?_, ?_⟩
    · rw [List.map_cons, PyData.canLayAll0, h1, h4.1]; rfl
    · rw [List.map_cons, PyData.depthAll]
      exact Nat.max_le.mpr ⟨h5, h2⟩
theorem eq_nil_St (O : List St) {m : Mem} : eqDQ m (.lst (O.map eSt)) (.lst []) = some (.bl O.isEmpty) := by
  obtain ⟨h1, h2⟩ := shape_St O
  unfold eqDQ eqData
  simp only [toPy, toPys_St, toPys, Option.map_some]
  have s1 : SeqAt.shaped (.list (O.map fun s => pyT (eSt s))) = true := by
    unfold SeqAt.shaped
    rw [PyData.canLay0, h1, PyData.depth, Bool.true_and]
    exact decide_eq_true (by omega)
  have s2 : SeqAt.shaped (.list []) = true := by decide +kernel
  rw [s1, s2]
  cases O with
  | nil => simp [PyData.eqv, PyData.eqvAll]
  | cons s O => simp [PyData.eqv, PyData.eqvAll]
theorem keys_eK {K : List St} : (eK K).map (·.1) = K.map eSt := by
  unfold eK
  rw [List.map_map]
  rfl
theorem keys_eU {U : List Nat} : (eU U).map (·.1) = U.map fun (k : Nat) => (k : Int) := by
  unfold eU
  rw [List.map_map]
  rfl
def sortK (K : List St) : List D := (K.map eSt).mergeSort (PySem.W.dataLe false pyT)
def sortU (U : List Nat) : List Int := (U.map fun (k : Nat) => (k : Int)).mergeSort fun a b => decide (a ≤ b)
theorem okKey_St (K : List St) : (K.map eSt).all okKey = true := by
  rw [List.all_map, List.all_eq_true]
  intro s _
  cases s <;> rfl
theorem alike_St (K : List St) : alikeL (K.map eSt) = true := by
  unfold alikeL
  rw [List.all_map, List.all_eq_true]
  intro a _
  show ((K.map eSt).all fun b => PySem.W.alike (pyT (eSt a)) (pyT b)) = true
  rw [List.all_map, List.all_eq_true]
  intro b _
  have h : (allSt.all fun a => allSt.all fun b => PySem.W.alike (pyT (eSt a)) (pyT (eSt b))) = true := by decide +kernel
  exact List.all_eq_true.mp (List.all_eq_true.mp h a (mem_allSt a)) b (mem_allSt b)
theorem srt_T {m : Mem} {j : Nat} {K : List St} (hm : m[j]? = some (.dicT (eK K))) (hK : K.length ≤ 1000) : srtTQ m [.loc j] = some (.lst (sortK K)) := by
  unfold srtTQ keysT
  simp only [hm, keys_eK, okKey_St, alike_St]
  have : Nat.ble (K.map eSt).length 1000 = true := by rw [List.length_map]; exact Nat.ble_eq_true_of_le hK
  rw [this]
  rfl
theorem srt_I {m : Mem} {j : Nat} {U : List Nat} (hm : m[j]? = some (.dicI (eU U))) (hU : U.length ≤ 63) : srtIQ m [.loc j] = some (.lst ((sortU U).map .int)) := by
  unfold srtIQ keysI
  simp only [hm, keys_eU]
  have : Nat.ble (U.map fun (k : Nat) => (k : Int)).length 63 = true := by rw [List.length_map]; exact Nat.ble_eq_true_of_le hU
  rw [this]
  rfl
theorem rngD_cons {lo : Nat} {n : Nat} : rngD (lo : Int) (n + 1) = .int (lo : Nat) :: rngD ((lo + 1 : Nat) : Int) n := by
  unfold rngD
  rw [List.range_succ_eq_map, List.map_cons, List.map_map]
  have h : ∀ i ∈ List.range n, ((fun i : Nat => D.int ((lo : Int) + (i : Nat))) ∘ Nat.succ) i = (fun i : Nat => D.int (((lo + 1 : Nat) : Int) + (i : Nat))) i := by
    intro i _
    show D.int _ = D.int _
    congr 1
    simp only [Nat.succ_eq_add_one]
    omega
  rw [List.map_congr_left h]
  have h0 : (lo : Int) + ((0 : Nat) : Int) = (lo : Nat) := by omega
  rw [h0]
theorem nd_begun (w : Wo) : (begun w).Nodup := by
  cases w with
  | pI => show [St.I false, .I true].Nodup; decide
  | pyou => show [St.you false, .you true].Nodup; decide
  | pname n => show [St.name false false, .name true false, .name false true, .name true true].Nodup; decide
  | here => show [St.here].Nodup; decide
  | place n => show [St.place false, .place true].Nodup; decide
theorem law_closed_eq (b : Bk) (w : Wo) (hd : MO) (hb : ∀ s c k, (trans b s c).1 = some k → k < 63) {K : List St} {U : List Nat} {L : Option Nat} (hrun : lawRun (trans b) 60 0 (begun w) [] none (begun w) = (K, U, L)) :
    F__law_closed [eLB b, eW w] [hd] = some (.tup [eN L, .lst (sortK K), .lst ((sortU U).map .int)], [hd]) := by
  have hS : (begun w).Nodup := nd_begun w
  have hdone := law_done (tr := trans b) hS
  rw [hrun] at hdone
  have hub : ∀ k ∈ U, k < 63 := fun k hk => by
    obtain ⟨n, s, c, _, h⟩ := (hdone.umem k).mp hk
    exact hb s c k h
  have fin : ∀ (jk : Mem) (de : Dm.Env) (e5 e6 e7 e8 e9 e10 e11 : Option D), de = [some (eLB b), some (eW w), some (.loc 1), some (.loc 2), some (eN L), e5, e6, e7, e8, e9, e10, e11] →
      ws (retS (tupS (consA (vaS 4) (consA (callQ srtTQ (consA (vaS 2) nilA)) (consA (callQ srtIQ (consA (vaS 3) nilA)) nilA))))) de ([hd, .dicT (eK K), .dicI (eU U)] ++ jk) fun o _ m => o = .rt (.tup [eN L, .lst (sortK K), .lst ((sortU U).map .int)]) ∧ ∃ l, m = [hd] ++ l := by
    rintro jk de e5 e6 e7 e8 e9 e10 e11 rfl
    walk_at "ev"
    refine wq_i (srt_T (j := 1) (K := K) rfl (by have h : K.length ≤ 11 := small_K hdone.nd; omega)) ?_
    walk_at "ev"
    refine wq_i (srt_I (j := 2) (U := U) rfl (small_U hdone.und hub)) ?_
    walk_at "ev"
    exact ⟨rfl, _, rfl⟩
  have key : ws b__law_closed (startD 12 [eLB b, eW w]) [hd] fun o _ m => o = .rt (.tup [eN L, .lst (sortK K), .lst ((sortU U).map .int)]) ∧ ∃ l, m = [hd] ++ l := by
    unfold b__law_closed
    walk_at "ev"
    refine we_dicT ?_
    walk_at "ev"
    refine we_dicI ?_
    walk_at "ev"
    refine ws_for (fun ds e m => ∃ l l2 e6, begun w = l2 ++ l ∧ ds = l.map eSt ∧ e = [some (eLB b), some (eW w), some (.loc 1), some (.loc 2), some .non, some (.lst ((begun w).map eSt)), e6, none, none, none, none, none] ∧ m = [hd, .dicT (eK l2), .dicI (eU [])]) ?_ ?_ ?_
    · refine wa_itL ?_
      walk_at "ev"
      exact ⟨begun w, [], none, rfl, rfl, rfl, rfl⟩
    · rintro d ds e m ⟨l, l2, e6, h0, h1, rfl, rfl⟩
      cases l with
      | nil => cases h1
      | cons s l =>
        cases h1
        have hnd : (l2 ++ s :: l).Nodup := h0 ▸ hS
        have hs : s ∉ l2 := fun z => by
          rw [List.nodup_append] at hnd
          exact hnd.2.2 s z s List.mem_cons_self rfl
        have hl : l2.length ≤ 1000 := by
          rw [List.nodup_append] at hnd
          have := small_K hnd.1
          omega
        walk_at "ev"
        refine wq_i (put_T (m := [hd, .dicT (eK l2), .dicI (eU [])]) (j := 1) (K := l2) rfl hl) ?_
        refine turn_nx' ⟨l, l2 ++ [s], _, ?_, rfl, rfl, ?_⟩
        · rw [h0]; simp
        · have : putK l2 s = l2 ++ [s] := by unfold putK; rw [if_neg hs]
          rw [this]
          rfl
    · rintro e m ⟨l, l2, e6, h0, h1, rfl, rfl⟩
      cases l with
      | cons s l => cases h1
      | nil =>
        rw [List.append_nil] at h0
        subst h0
        refine nxt_nx ?_
        walk_at "ev"
        refine ws_for (fun ds e m => ∃ n t K1 U1 L1 lvl jk e6 e7 e8 e9 e10 e11, ds = rngD ((t : Nat) : Int) n ∧ e = [some (eLB b), some (eW w), some (.loc 1), some (.loc 2), some (eN L1), some (.lst (lvl.map eSt)), e6, e7, e8, e9, e10, e11] ∧ m = [hd, .dicT (eK K1), .dicI (eU U1)] ++ jk ∧ LInv (trans b) (begun w) t K1 U1 L1 lvl ∧ 12 ≤ n + t ∧ lawRun (trans b) n t K1 U1 L1 lvl = (K, U, L)) ?_ ?_ ?_
        · refine wa_it1 ?_
          walk_at "ev"
          refine ⟨60, rfl, by decide, 60, 0, begun w, [], none, begun w, [], _, _, _, _, _, _, rfl, rfl, rfl, ?_, by omega, hrun⟩
          refine ⟨hS, fun s => ?_, fun s h => .zero h, fun s h => ?_, List.nodup_nil, fun k => ?_, (fun _ n s h => by omega), (fun l h => by cases h), Nat.zero_le _⟩
          · constructor
            · exact fun h => ⟨0, Nat.le_refl _, .zero h⟩
            · rintro ⟨n, h1, h2⟩
              have : n = 0 := by omega
              subst this
              cases h2
              assumption
          · cases h
            exact .inl (by assumption)
          · constructor
            · intro h; cases h
            · rintro ⟨n, s, c, h, _⟩; omega
        · rintro d ds e m ⟨n, t, K1, U1, L1, lvl, jk, e6, e7, e8, e9, e10, e11, h1, rfl, rfl, I, hn, hr⟩
          cases n with
          | zero => cases h1
          | succ n =>
            rw [rngD_cons] at h1
            cases h1
            have ok : LOk ⟨K1, U1, L1, []⟩ := I.lok hb
            walk_at "ev"
            refine we_lstM ?_
            walk_at "ev"
            have hjl : ([hd, MO.dicT (eK K1), MO.dicI (eU U1)] ++ jk).length = 3 + jk.length := by simp; omega
            rw [hjl]
            refine closed_level (jk := jk) (y := lawLevel (trans b) t K1 U1 L1 lvl) hb ?_ lvl ⟨K1, U1, L1, []⟩ _ _ _ _ ok rfl rfl
            intro e6 e9 e10 e11
            refine nxt_nx ?_
            have hT := law_turn I
            unfold lawRun at hr
            generalize lawLevel (trans b) t K1 U1 L1 lvl = y at hr hT
            have hlis : lisQ (mL hd jk y) [.loc (3 + jk.length)] = some (.lst (y.O.map eSt)) := by
              show ((match (mL hd jk y)[3 + jk.length]? with
                | some (.lst ds) => some ds
                | _ => none).map D.lst) = _
              have : (mL hd jk y)[3 + jk.length]? = some (.lst (y.O.map eSt)) := by
                unfold mL
                rw [List.getElem?_append_right (by simp; omega)]
                have : 3 + jk.length - ([hd, MO.dicT (eK y.K), MO.dicI (eU y.U)] ++ jk).length = 0 := by simp; omega
                rw [this]; rfl
              rw [this]; rfl
            walk_at "ev"
            refine wq_i hlis ?_
            walk_at "ev"
            refine wq_i (eq_nil_St y.O) ?_
            cases hO : y.O with
            | nil =>
              rw [if_pos hO] at hr
              injection hr with g1 g2
              injection g2 with g2 g3
              walk_at "ev"
              refine turn_bk ?_
              refine nxt_nx ?_
              rw [g3]
              unfold mL
              rw [g1, g2, List.append_assoc]
              exact fin _ _ _ _ _ _ _ _ _ rfl
            | cons s O =>
              have hne : y.O ≠ [] := by rw [hO]; simp
              rw [if_neg hne] at hr
              walk_at "ev"
              refine turn_nx' ⟨n, t + 1, y.K, y.U, y.L, y.O, jk ++ [.lst (y.O.map eSt)], _, _, _, _, _, _, rfl, by rw [← hO]; rfl, ?_, hT.2 hne, by omega, hr⟩
              unfold mL
              rw [List.append_assoc]
        · rintro e m ⟨n, t, K1, U1, L1, lvl, jk, e6, e7, e8, e9, e10, e11, h1, rfl, rfl, I, hn, hr⟩
          cases n with
          | succ n => rw [rngD_cons] at h1; cases h1
          | zero =>
            exfalso
            have h1 := I.big
            have h2 := small_K I.nd
            omega
  obtain ⟨o, e, m, h1, rfl, l, rfl⟩ := key
  exact df_tail (m1 := [hd]) (l := l) ⟨_, e, _, h1, rfl, rfl⟩ rfl rfl
local macro_rules | `(tactic| walk_at "sp") => `(tactic| with_reducible refine wf_of (law_closed_eq _ _ _ (by assumption) (by assumption)) ?_)
end T
/-! Pu9: plain: the program's queue. -/
namespace T
open PySem PySem.Spec PyProof.Rows L2 Dm
structure Nd where
  w : Wo
  s : Spo
  pv : Option (Nat × Mv)
def stN (n : Nd) : St := stOf n.w n.s
def newN (b : Bk) (i : Nat) (nd : Nd) (m : Mv) : Nd := ⟨newW b nd.w nd.s m, aft nd.s m, some (i, m)⟩
def rightM (b : Bk) (nd : Nd) (m : Mv) : Bool := decide (meant (newW b nd.w nd.s m) (aft nd.s m) = meant nd.w nd.s)
def cOf (w : Wo) (s : Spo) (m : Mv) : Bool := if isP w then decide (meant w s = m.h) else decide (meant w s = m.p)
def SpOk (s : Spo) : Prop := NameOk s.t ∧ NameOk s.h ∧ NameOk s.p
def MvOk (m : Mv) : Prop := m.dl = 0 ∧ NameOk m.h ∧ NameOk m.p
def NodeOk (n : Nd) : Prop := WOk n.w ∧ SpOk n.s
theorem meant_ok {w : Wo} {s : Spo} (h1 : WOk w) (h2 : SpOk s) : NameOk (meant w s) := by
  obtain ⟨a, b, c⟩ := h2
  cases w with
  | pI => exact a
  | pyou => exact b
  | pname n => exact h1
  | here => exact c
  | place n => exact h1
theorem dec_comm (a b : Str) : decide (a = b) = decide (b = a) := decide_eq_decide.mpr ⟨Eq.symm, Eq.symm⟩
theorem trans_node (b : Bk) (nd : Nd) (m : Mv) (i : Nat) : (trans b (stN nd) (cOf nd.w nd.s m)).1 = num b nd.w nd.s m ∧ (trans b (stN nd) (cOf nd.w nd.s m)).2.1 = rightM b nd m ∧ (rightM b nd m = true → (trans b (stN nd) (cOf nd.w nd.s m)).2.2 = stN (newN b i nd m)) := by
  obtain ⟨w, s, pv⟩ := nd
  have hP : ∀ (k : PS) (a : Bool), kd w = .p k → a = decide (meant w s = s.h) → trans b (stOf w s) (cOf w s m) = rowP b k a (cOf w s m) → (trans b (stOf w s) (cOf w s m)).1 = num b w s m ∧ (trans b (stOf w s) (cOf w s m)).2.1 = rightM b ⟨w, s, pv⟩ m ∧ (rightM b ⟨w, s, pv⟩ m = true → (trans b (stOf w s) (cOf w s m)).2.2 = stN (newN b i ⟨w, s, pv⟩ m)) := by
    intro k a hk ha ht
    have hc : cOf w s m = decide (meant w s = m.h) := by unfold cOf; rw [(isP_p hk).1]; rfl
    have hn : num b w s m = (ffrom (pfits k a (decide (meant w s = m.h))) b.ps 0).map fun i => b.days.length + i := by unfold num; rw [hk, ha]
    have hw : newW b w s m = match pact b k a (decide (meant w s = m.h)) with | .keep => w | .I => .pI | .you => .pyou | .name => .pname (meant w s) := by unfold newW; rw [hk, ha] <;> rfl
    rw [ht, hc]
    unfold rowP rightM stN newN
    dsimp only
    rw [hn, hw]
    refine ⟨rfl, ?_⟩
    generalize pact b k a (decide (meant w s = m.h)) = ac
    subst ha
    have c1 := dec_comm s.h (meant w s)
    have c2 := dec_comm m.h (meant w s)
    cases ac with
    | keep =>
      cases w with
      | pI =>
        cases hk
        refine ⟨c1.symm, fun h => ?_⟩
        have h : s.h = s.t := of_decide_eq_true h
        show St.I (decide (s.t = m.h)) = St.I (decide (s.h = m.h))
        rw [h]
      | pyou =>
        cases hk
        refine ⟨c2.symm, fun h => ?_⟩
        have h : m.h = s.h := of_decide_eq_true h
        show St.you (decide (s.h = s.h)) = St.you (decide (m.h = s.h))
        rw [h]
      | pname n =>
        cases hk
        exact ⟨(decide_eq_true rfl).symm, fun _ => rfl⟩
      | here => cases hk
      | place n => cases hk
    | I =>
      refine ⟨c1.symm, fun h => ?_⟩
      have h : s.h = meant w s := of_decide_eq_true h
      show St.I (decide (meant w s = m.h)) = St.I (decide (s.h = m.h))
      rw [h]
    | you =>
      refine ⟨c2.symm, fun h => ?_⟩
      have h : m.h = meant w s := of_decide_eq_true h
      show St.you (decide (meant w s = s.h)) = St.you (decide (m.h = s.h))
      rw [h]
    | name => exact ⟨(decide_eq_true rfl).symm, fun _ => rfl⟩
  have hQ : ∀ (k : QS), kd w = .q k → trans b (stOf w s) (cOf w s m) = rowQ b k (cOf w s m) → (trans b (stOf w s) (cOf w s m)).1 = num b w s m ∧ (trans b (stOf w s) (cOf w s m)).2.1 = rightM b ⟨w, s, pv⟩ m ∧ (rightM b ⟨w, s, pv⟩ m = true → (trans b (stOf w s) (cOf w s m)).2.2 = stN (newN b i ⟨w, s, pv⟩ m)) := by
    intro k hk ht
    have hc : cOf w s m = decide (meant w s = m.p) := by unfold cOf; rw [(isP_q hk).1]; rfl
    have hn : num b w s m = (ffrom (qfits k (decide (meant w s = m.p))) b.qs 0).map fun i => b.days.length + b.ps.length + i := by unfold num; rw [hk]
    have hw : newW b w s m = match qact b k (decide (meant w s = m.p)) with | .keep => w | .here => .here | .place => .place (meant w s) := by unfold newW; rw [hk] <;> rfl
    rw [ht, hc]
    unfold rowQ rightM stN newN
    dsimp only
    rw [hn, hw]
    refine ⟨rfl, ?_⟩
    generalize qact b k (decide (meant w s = m.p)) = ac
    have c2 := dec_comm m.p (meant w s)
    cases ac with
    | keep =>
      cases w with
      | here =>
        cases hk
        exact ⟨c2.symm, fun h => rfl⟩
      | place n =>
        cases hk
        exact ⟨(decide_eq_true rfl).symm, fun _ => rfl⟩
      | pI => cases hk
      | pyou => cases hk
      | pname n => cases hk
    | here => exact ⟨c2.symm, fun h => rfl⟩
    | place => exact ⟨(decide_eq_true rfl).symm, fun _ => rfl⟩
  cases w with
  | pI => exact hP .I _ rfl rfl rfl
  | pyou => exact hP .you true rfl (decide_eq_true rfl).symm rfl
  | pname n => exact hP .name _ rfl rfl rfl
  | here => exact hQ .here rfl rfl
  | place n => exact hQ .place rfl rfl
theorem cover (w : Wo) (s : Spo) (c : Bool) : ∃ m ∈ moves w s, cOf w s m = c := by
  unfold moves cOf
  cases hp : isP w with
  | false =>
    cases c with
    | true => exact ⟨_, List.mem_cons_self, decide_eq_true rfl⟩
    | false =>
      refine ⟨⟨0, "a", otherOf [meant w s]⟩, by simp, decide_eq_false fun h => ?_⟩
      exact other_not (free1 (meant w s)) (List.mem_singleton.mpr (Eq.symm h))
  | true =>
    have hm : meant w s ∈ pnames w s := by unfold pnames; split <;> simp
    have hf : ("a" : Str) ∉ pnames w s ∨ ("b" : Str) ∉ pnames w s ∨ ("c" : Str) ∉ pnames w s := by
      unfold pnames
      split
      · exact free1 _
      · exact free2 _ _
    cases c with
    | true => exact ⟨⟨0, meant w s, "a"⟩, List.mem_map.mpr ⟨meant w s, List.mem_append_left _ hm, rfl⟩, decide_eq_true rfl⟩
    | false =>
      refine ⟨⟨0, otherOf (pnames w s), "a"⟩, List.mem_map.mpr ⟨_, List.mem_append_right _ (List.mem_singleton.mpr rfl), rfl⟩, decide_eq_false fun h => ?_⟩
      exact other_not hf (by rw [← show meant w s = otherOf (pnames w s) from h]; exact hm)
theorem moves_ok {w : Wo} {s : Spo} (h1 : WOk w) (h2 : SpOk s) : ∀ m ∈ moves w s, MvOk m := by
  intro m hm
  have hn := meant_ok h1 h2
  unfold moves at hm
  split at hm
  · obtain ⟨n, h3, rfl⟩ := List.mem_map.mp hm
    refine ⟨rfl, ?_, nok_a⟩
    rcases List.mem_append.mp h3 with h3 | h3
    · unfold pnames at h3
      split at h3
      · rw [List.mem_singleton.mp h3]; exact hn
      · rcases List.mem_cons.mp h3 with h3 | h3
        · rw [h3]; exact hn
        · rw [List.mem_singleton.mp h3]; exact h2.2.1
    · rw [List.mem_singleton.mp h3]; exact other_ok _
  · rcases List.mem_cons.mp hm with rfl | hm
    · exact ⟨rfl, nok_a, hn⟩
    · rw [List.mem_singleton.mp hm]
      exact ⟨rfl, nok_a, other_ok _⟩
theorem new_ok {b : Bk} {i : Nat} {nd : Nd} {m : Mv} (h : NodeOk nd) (hm : MvOk m) : NodeOk (newN b i nd m) := by
  have hn := meant_ok h.1 h.2
  refine ⟨?_, h.2.2.1, hm.2.1, hm.2.2⟩
  show WOk (newW b nd.w nd.s m)
  unfold newW
  split
  · split
    · exact h.1
    · trivial
    · trivial
    · exact hn
  · split
    · exact h.1
    · trivial
    · exact hn
theorem starts_ok {w : Wo} (h : WOk w) : ∀ s ∈ starts w, SpOk s := by
  intro s hs
  cases w with
  | pI =>
    rcases List.mem_cons.mp hs with rfl | hs
    · exact ⟨nok_a, nok_a, nok_a⟩
    · rw [List.mem_singleton.mp hs]; exact ⟨nok_a, nok_b, nok_a⟩
  | pyou =>
    rcases List.mem_cons.mp hs with rfl | hs
    · exact ⟨nok_a, nok_a, nok_a⟩
    · rw [List.mem_singleton.mp hs]; exact ⟨nok_b, nok_a, nok_a⟩
  | here => rw [List.mem_singleton.mp hs]; exact ⟨nok_a, nok_b, nok_a⟩
  | place n =>
    rcases List.mem_cons.mp hs with rfl | hs
    · exact ⟨nok_a, nok_b, h⟩
    · rw [List.mem_singleton.mp hs]; exact ⟨nok_a, nok_b, other_ok _⟩
  | pname n =>
    have h : NameOk n := h
    have ho := other_ok [n]
    rcases List.mem_cons.mp hs with rfl | hs
    · exact ⟨h, h, nok_a⟩
    · rcases List.mem_cons.mp hs with rfl | hs
      · exact ⟨h, ho, nok_a⟩
      · rcases List.mem_cons.mp hs with rfl | hs
        · exact ⟨ho, h, nok_a⟩
        · rw [List.mem_singleton.mp hs]; exact ⟨ho, ho, nok_a⟩
def startSt : Wo → List St
  | .pI => [.I true, .I false]
  | .pyou => [.you true, .you false]
  | .pname _ => [.name true true, .name true false, .name false true, .name false false]
  | .here => [.here]
  | .place _ => [.place true, .place false]
theorem ne_other (n : Str) : n ≠ otherOf [n] := fun e => other_not (free1 n) (by rw [← e]; exact List.mem_singleton.mpr rfl)
theorem starts_st (w : Wo) : (starts w).map (stOf w) = startSt w := by
  cases w with
  | pI => rfl
  | pyou => rfl
  | here => rfl
  | place n =>
    show [St.place (decide (n = n)), St.place (decide (n = otherOf [n]))] = _
    rw [decide_eq_true rfl, decide_eq_false (ne_other n)]
    rfl
  | pname n =>
    show [St.name (decide (n = n)) (decide (n = n)), St.name (decide (n = n)) (decide (n = otherOf [n])), St.name (decide (n = otherOf [n])) (decide (n = n)), St.name (decide (n = otherOf [n])) (decide (n = otherOf [n]))] = _
    rw [decide_eq_true rfl, decide_eq_false (ne_other n)]
    rfl
theorem mem_startSt (w : Wo) (s : St) : s ∈ startSt w ↔ s ∈ begun w := by
  cases w with
  | pI =>
    show s ∈ [St.I true, .I false] ↔ s ∈ [St.I false, .I true]
    simp [or_comm]
  | pyou =>
    show s ∈ [St.you true, .you false] ↔ s ∈ [St.you false, .you true]
    simp [or_comm]
  | here => exact Iff.rfl
  | place n =>
    show s ∈ [St.place true, .place false] ↔ s ∈ [St.place false, .place true]
    simp [or_comm]
  | pname n =>
    show s ∈ [St.name true true, .name true false, .name false true, .name false false] ↔ s ∈ [St.name false false, .name true false, .name false true, .name true true]
    simp only [List.mem_cons, List.not_mem_nil, or_false]
    constructor
    · rintro (h | h | h | h)
      · exact .inr (.inr (.inr h))
      · exact .inr (.inl h)
      · exact .inr (.inr (.inl h))
      · exact .inl h
    · rintro (h | h | h | h)
      · exact .inr (.inr (.inr h))
      · exact .inr (.inl h)
      · exact .inr (.inr (.inl h))
      · exact .inl h
theorem nd_startSt (w : Wo) : (startSt w).Nodup := by
  cases w with
  | pI => show [St.I true, .I false].Nodup; decide
  | pyou => show [St.you true, .you false].Nodup; decide
  | pname n => show [St.name true true, .name true false, .name false true, .name false false].Nodup; decide
  | here => show [St.here].Nodup; decide
  | place n => show [St.place true, .place false].Nodup; decide
/-! a node's moves, folded -/
def pm (b : Bk) (i : Nat) (nd : Nd) (x : List Nd × List Nat) (m : Mv) : List Nd × List Nat :=
  (if rightM b nd m = true ∧ stN (newN b i nd m) ∉ x.1.map stN then x.1 ++ [newN b i nd m] else x.1, putUo x.2 (num b nd.w nd.s m))
structure PF (b : Bk) (i : Nat) (nd : Nd) (ns : List Nd) (U : List Nat) (ms : List Mv) (y : List Nd × List Nat) : Prop where
  ext : ∃ ex, y.1 = ns ++ ex ∧ ∀ e ∈ ex, ∃ m ∈ ms, rightM b nd m = true ∧ e = newN b i nd m
  nod : (y.1.map stN).Nodup
  cov : ∀ m ∈ ms, rightM b nd m = true → stN (newN b i nd m) ∈ y.1.map stN
  und : y.2.Nodup
  umem : ∀ k, k ∈ y.2 ↔ k ∈ U ∨ ∃ m ∈ ms, num b nd.w nd.s m = some k
theorem pf_nil {b : Bk} {i : Nat} {nd : Nd} {ns : List Nd} {U : List Nat} (h1 : (ns.map stN).Nodup) (h2 : U.Nodup) : PF b i nd ns U [] (ns, U) := ⟨⟨[], by simp, by simp⟩, h1, by simp, h2, by simp⟩
theorem PF.step {b : Bk} {i : Nat} {nd : Nd} {ns : List Nd} {U : List Nat} {ms : List Mv} {y : List Nd × List Nat} (F : PF b i nd ns U ms y) (m : Mv) : PF b i nd ns U (ms ++ [m]) (pm b i nd y m) := by
  obtain ⟨ex, e1, e2⟩ := F.ext
  have hu : ∀ k, k ∈ (pm b i nd y m).2 ↔ k ∈ U ∨ ∃ m' ∈ ms ++ [m], num b nd.w nd.s m' = some k := by
    intro k
    show k ∈ putUo y.2 (num b nd.w nd.s m) ↔ _
    rw [mem_putUo, F.umem]
    constructor
    · rintro ((z | ⟨m', z1, z2⟩) | z)
      · exact .inl z
      · exact .inr ⟨m', List.mem_append_left _ z1, z2⟩
      · exact .inr ⟨m, by simp, z⟩
    · rintro (z | ⟨m', z1, z2⟩)
      · exact .inl (.inl z)
      · rcases List.mem_append.mp z1 with z1 | z1
        · exact .inl (.inr ⟨m', z1, z2⟩)
        · rw [List.mem_singleton.mp z1] at z2
          exact .inr z2
  by_cases hc : rightM b nd m = true ∧ stN (newN b i nd m) ∉ y.1.map stN
  · have hy : (pm b i nd y m).1 = y.1 ++ [newN b i nd m] := by unfold pm; dsimp only; rw [if_pos hc]
    refine ⟨⟨ex ++ [newN b i nd m], by rw [hy, e1, List.append_assoc], fun e he => ?_⟩, ?_, fun m' hm' hr => ?_, nodup_putUo F.und, hu⟩
    · rcases List.mem_append.mp he with he | he
      · obtain ⟨m', z1, z2⟩ := e2 e he
        exact ⟨m', List.mem_append_left _ z1, z2⟩
      · exact ⟨m, by simp, hc.1, List.mem_singleton.mp he⟩
    · rw [hy, List.map_append]
      exact nodup_snoc F.nod hc.2
    · rw [hy, List.map_append]
      rcases List.mem_append.mp hm' with z | z
      · exact List.mem_append_left _ (F.cov m' z hr)
      · rw [List.mem_singleton.mp z]
        exact List.mem_append_right _ (List.mem_singleton.mpr rfl)
  · have hy : (pm b i nd y m).1 = y.1 := by unfold pm; dsimp only; rw [if_neg hc]
    refine ⟨⟨ex, by rw [hy, e1], fun e he => ?_⟩, by rw [hy]; exact F.nod, fun m' hm' hr => ?_, nodup_putUo F.und, hu⟩
    · obtain ⟨m', z1, z2⟩ := e2 e he
      exact ⟨m', List.mem_append_left _ z1, z2⟩
    · rw [hy]
      rcases List.mem_append.mp hm' with z | z
      · exact F.cov m' z hr
      · have := List.mem_singleton.mp z
        subst this
        exact Decidable.byContradiction fun q => hc ⟨hr, q⟩
/-! the queue -/
structure QI (b : Bk) (w0 : Wo) (ns : List Nd) (dp : List Nat) (U : List Nat) (i : Nat) : Prop where
  len : dp.length = ns.length
  ok : ∀ (j : Nat) (nd : Nd), ns[j]? = some nd → NodeOk nd
  node : ∀ (j : Nat) (nd : Nd), ns[j]? = some nd → (nd.pv = none ∧ nd.w = w0 ∧ nd.s ∈ starts w0 ∧ dp[j]? = some 0) ∨
    ∃ (i' : Nat) (m : Mv) (nd' : Nd) (d : Nat), nd.pv = some (i', m) ∧ i' < j ∧ ns[i']? = some nd' ∧ m ∈ moves nd'.w nd'.s ∧ rightM b nd' m = true ∧ nd.w = newW b nd'.w nd'.s m ∧ nd.s = aft nd'.s m ∧ dp[i']? = some d ∧ dp[j]? = some (d + 1)
  nod : (ns.map stN).Nodup
  st : ∀ s ∈ begun w0, ∃ j : Nat, (ns.map stN)[j]? = some s ∧ dp[j]? = some 0
  suc : ∀ (j : Nat) (nd : Nd) (d : Nat), j < i → ns[j]? = some nd → dp[j]? = some d → ∀ c, (trans b (stN nd) c).2.1 = true → ∃ j' d' : Nat, (ns.map stN)[j']? = some (trans b (stN nd) c).2.2 ∧ dp[j']? = some d' ∧ d' ≤ d + 1
  mono : ∀ j j' d d' : Nat, j ≤ j' → dp[j]? = some d → dp[j']? = some d' → d ≤ d'
  top : ∀ j d di : Nat, dp[i]? = some di → dp[j]? = some d → d ≤ di + 1
  und : U.Nodup
  umem : ∀ k, k ∈ U ↔ ∃ (j : Nat) (nd : Nd) (c : Bool), j < i ∧ ns[j]? = some nd ∧ (trans b (stN nd) c).1 = some k
  le : i ≤ ns.length
section
variable {b : Bk} {w0 : Wo} {ns : List Nd} {dp : List Nat} {U : List Nat} {i : Nat}
theorem QI.dep (I : QI b w0 ns dp U i) {j : Nat} {nd : Nd} (h : ns[j]? = some nd) : ∃ d, dp[j]? = some d := by
  have h1 := (List.getElem?_eq_some_iff.mp h).1
  rw [← I.len] at h1
  exact ⟨_, List.getElem?_eq_getElem h1⟩
theorem QI.reach (I : QI b w0 ns dp U i) : ∀ (j : Nat) (nd : Nd) (d : Nat), ns[j]? = some nd → dp[j]? = some d → Reach (trans b) (begun w0) d (stN nd) := by
  intro j
  induction j using Nat.strongRecOn with
  | ind j ih =>
    intro nd d h hd
    rcases I.node j nd h with ⟨h1, h2, h3, h4⟩ | ⟨i', m, nd', d', h1, h2, h3, h4, h5, h6, h7, h8, h9⟩
    · rw [h4] at hd
      cases hd
      refine .zero ?_
      rw [← mem_startSt, ← starts_st]
      unfold stN
      rw [h2]
      exact List.mem_map.mpr ⟨nd.s, h3, rfl⟩
    · rw [h9] at hd
      cases hd
      have r := ih i' h2 nd' d' h3 h8
      obtain ⟨t1, t2, t3⟩ := trans_node b nd' m 0
      have e : stN nd = (trans b (stN nd') (cOf nd'.w nd'.s m)).2.2 := by
        rw [t3 h5]
        unfold stN newN
        rw [h6, h7]
      rw [e]
      exact .succ r (by rw [t2]; exact h5)
theorem st_at {s : St} {j : Nat} (h : (ns.map stN)[j]? = some s) : ∃ nd, ns[j]? = some nd ∧ stN nd = s := by
  rw [List.getElem?_map] at h
  obtain ⟨nd, h1, h2⟩ := Option.map_eq_some_iff.mp h
  exact ⟨nd, h1, h2⟩
/-- what lies less deep than the node at i has been looked at -/
theorem QI.near (I : QI b w0 ns dp U i) {di : Nat} (hi : dp[i]? = some di) : ∀ n s, Reach (trans b) (begun w0) n s → n < di → ∃ (j : Nat) (nd : Nd) (d : Nat), j < i ∧ ns[j]? = some nd ∧ stN nd = s ∧ dp[j]? = some d ∧ d ≤ n := by
  have lt : ∀ j d : Nat, dp[j]? = some d → d < di → j < i := fun j d h1 h2 => by
    refine Nat.lt_of_not_le fun h => ?_
    have := I.mono i j di d h hi h1
    omega
  intro n s h
  induction h with
  | zero hs =>
    intro hn
    obtain ⟨j, h1, h2⟩ := I.st _ hs
    obtain ⟨nd, h3, h4⟩ := st_at h1
    exact ⟨j, nd, 0, lt j 0 h2 hn, h3, h4, h2, Nat.le_refl _⟩
  | succ h1 h2 ih =>
    intro hn
    obtain ⟨j, nd, d, q1, q2, q3, q4, q5⟩ := ih (by omega)
    subst q3
    obtain ⟨j', d', r1, r2, r3⟩ := I.suc j nd d q1 q2 q4 _ h2
    obtain ⟨nd', r4, r5⟩ := st_at r1
    exact ⟨j', nd', d', lt j' d' r2 (by omega), r4, r5, r2, by omega⟩
theorem QI.all (I : QI b w0 ns dp U ns.length) : ∀ n s, Reach (trans b) (begun w0) n s → ∃ (j : Nat) (nd : Nd), ns[j]? = some nd ∧ stN nd = s := by
  intro n s h
  induction h with
  | zero hs =>
    obtain ⟨j, h1, h2⟩ := I.st _ hs
    obtain ⟨nd, h3, h4⟩ := st_at h1
    exact ⟨j, nd, h3, h4⟩
  | succ h1 h2 ih =>
    obtain ⟨j, nd, q1, q2⟩ := ih
    subst q2
    obtain ⟨d, hd⟩ := I.dep q1
    obtain ⟨j', d', r1, _, _⟩ := I.suc j nd d (List.getElem?_eq_some_iff.mp q1).1 q1 hd _ h2
    obtain ⟨nd', r4, r5⟩ := st_at r1
    exact ⟨j', nd', r4, r5⟩
theorem QI.known (I : QI b w0 ns dp U ns.length) (s : St) : s ∈ ns.map stN ↔ ∃ n, Reach (trans b) (begun w0) n s := by
  constructor
  · intro h
    obtain ⟨j, hj⟩ := List.mem_iff_getElem?.mp h
    obtain ⟨nd, h1, rfl⟩ := st_at hj
    obtain ⟨d, hd⟩ := I.dep h1
    exact ⟨d, I.reach j nd d h1 hd⟩
  · rintro ⟨n, h⟩
    obtain ⟨j, nd, h1, rfl⟩ := I.all n s h
    exact List.mem_map.mpr ⟨nd, List.mem_of_getElem? h1, rfl⟩
theorem QI.used (I : QI b w0 ns dp U ns.length) (k : Nat) : k ∈ U ↔ ∃ n s c, Reach (trans b) (begun w0) n s ∧ (trans b s c).1 = some k := by
  rw [I.umem]
  constructor
  · rintro ⟨j, nd, c, _, h1, h2⟩
    obtain ⟨d, hd⟩ := I.dep h1
    exact ⟨d, stN nd, c, I.reach j nd d h1 hd, h2⟩
  · rintro ⟨n, s, c, h1, h2⟩
    obtain ⟨j, nd, h3, rfl⟩ := I.all n s h1
    exact ⟨j, nd, c, (List.getElem?_eq_some_iff.mp h3).1, h3, h2⟩
theorem QI.turn (I : QI b w0 ns dp U i) {nd : Nd} (hi : ns[i]? = some nd) {y : List Nd × List Nat} (F : PF b i nd ns U (moves nd.w nd.s) y) : ∃ dp', QI b w0 y.1 dp' y.2 (i + 1) := by
  obtain ⟨ex, e1, e2⟩ := F.ext
  obtain ⟨di, hdi⟩ := I.dep hi
  have hil := (List.getElem?_eq_some_iff.mp hi).1
  have old : ∀ {j : Nat} {n : Nd}, ns[j]? = some n → y.1[j]? = some n := fun {j n} h => by
    rw [e1, List.getElem?_append_left (List.getElem?_eq_some_iff.mp h).1]; exact h
  have oldS : ∀ {j : Nat} {s : St}, (ns.map stN)[j]? = some s → (y.1.map stN)[j]? = some s := fun {j s} h => by
    obtain ⟨n, h1, h2⟩ := st_at h
    rw [List.getElem?_map, old h1, ← h2]; rfl
  have oldD : ∀ {j d : Nat}, dp[j]? = some d → (dp ++ List.replicate ex.length (di + 1))[j]? = some d := fun {j d} h => by
    rw [List.getElem?_append_left (List.getElem?_eq_some_iff.mp h).1]; exact h
  have newD : ∀ {j d : Nat}, (dp ++ List.replicate ex.length (di + 1))[j]? = some d → dp[j]? = some d ∨ (ns.length ≤ j ∧ d = di + 1) := fun {j d} h => by
    by_cases hj : j < dp.length
    · rw [List.getElem?_append_left hj] at h; exact .inl h
    · rw [List.getElem?_append_right (Nat.le_of_not_lt hj), List.getElem?_replicate] at h
      split at h
      · cases h; exact .inr ⟨by rw [← I.len]; omega, rfl⟩
      · cases h
  have leD : ∀ {j d : Nat}, (dp ++ List.replicate ex.length (di + 1))[j]? = some d → d ≤ di + 1 := fun {j d} h => by
    rcases newD h with h | ⟨_, h⟩
    · exact I.top j d di hdi h
    · omega
  have hlen : (dp ++ List.replicate ex.length (di + 1)).length = y.1.length := by rw [e1]; simp [I.len]
  have split : ∀ {j : Nat} {n : Nd}, y.1[j]? = some n → ns[j]? = some n ∨ (ns.length ≤ j ∧ n ∈ ex ∧ (dp ++ List.replicate ex.length (di + 1))[j]? = some (di + 1)) := fun {j n} h => by
    by_cases hj : j < ns.length
    · rw [e1, List.getElem?_append_left hj] at h; exact .inl h
    · have hj' := Nat.le_of_not_lt hj
      have hl := (List.getElem?_eq_some_iff.mp h).1
      have h0 := h
      rw [e1, List.getElem?_append_right hj'] at h
      refine .inr ⟨hj', List.mem_of_getElem? h, ?_⟩
      rw [List.getElem?_append_right (by rw [I.len]; exact hj'), List.getElem?_replicate, if_pos]
      have := (List.getElem?_eq_some_iff.mp h).1
      rw [I.len]
      omega
  refine ⟨dp ++ List.replicate ex.length (di + 1), hlen, fun j n h => ?_, fun j n h => ?_, F.nod, fun s hs => ?_, fun j n d hj h hd c hc => ?_, fun j j' d d' hj h1 h2 => ?_, fun j d d1 h1 h2 => ?_, F.und, fun k => ?_, ?_⟩
  · rcases split h with h | ⟨_, h, _⟩
    · exact I.ok j n h
    · obtain ⟨m, h1, h2, rfl⟩ := e2 n h
      have ho := I.ok i nd hi
      exact new_ok ho (moves_ok ho.1 ho.2 m h1)
  · rcases split h with h | ⟨hj, h, hD⟩
    · rcases I.node j n h with ⟨h1, h2, h3, h4⟩ | ⟨i', m, nd', d', h1, h2, h3, h4, h5, h6, h7, h8, h9⟩
      · exact .inl ⟨h1, h2, h3, oldD h4⟩
      · exact .inr ⟨i', m, nd', d', h1, h2, old h3, h4, h5, h6, h7, oldD h8, oldD h9⟩
    · obtain ⟨m, h1, h2, rfl⟩ := e2 n h
      exact .inr ⟨i, m, nd, di, rfl, by omega, old hi, h1, h2, rfl, rfl, oldD hdi, hD⟩
  · obtain ⟨j, h1, h2⟩ := I.st s hs
    exact ⟨j, oldS h1, oldD h2⟩
  · rcases split h with h | ⟨hj', _, _⟩
    · rcases newD hd with hd | ⟨hd, _⟩
      · by_cases hji : j = i
        · subst hji
          rw [hi] at h
          cases h
          rw [hdi] at hd
          cases hd
          obtain ⟨m, hm, hcm⟩ := cover nd.w nd.s c
          obtain ⟨t1, t2, t3⟩ := trans_node b nd m j
          rw [hcm] at t1 t2 t3
          rw [t2] at hc
          have h5 := F.cov m hm hc
          rw [← t3 hc] at h5
          obtain ⟨j', hj'⟩ := List.mem_iff_getElem?.mp h5
          have hl := (List.getElem?_eq_some_iff.mp hj').1
          rw [List.length_map, ← hlen] at hl
          exact ⟨j', _, hj', List.getElem?_eq_getElem hl, leD (List.getElem?_eq_getElem hl)⟩
        · obtain ⟨j', d', q1, q2, q3⟩ := I.suc j n d (by omega) h hd c hc
          exact ⟨j', d', oldS q1, oldD q2, q3⟩
      · have := (List.getElem?_eq_some_iff.mp h).1
        omega
    · omega
  · rcases newD h1 with h1 | ⟨g1, rfl⟩
    · rcases newD h2 with h2 | ⟨g2, rfl⟩
      · exact I.mono j j' d d' hj h1 h2
      · exact I.top j d di hdi h1
    · rcases newD h2 with h2 | ⟨g2, rfl⟩
      · have := (List.getElem?_eq_some_iff.mp h2).1
        rw [I.len] at this
        omega
      · exact Nat.le_refl _
  · have h3 := leD h2
    rcases newD h1 with h1 | ⟨_, h1⟩
    · have := I.mono i (i + 1) di d1 (by omega) hdi h1
      omega
    · omega
  · rw [F.umem, I.umem]
    constructor
    · rintro (⟨j, n, c, h1, h2, h3⟩ | ⟨m, h1, h2⟩)
      · exact ⟨j, n, c, by omega, old h2, h3⟩
      · obtain ⟨t1, _, _⟩ := trans_node b nd m i
        exact ⟨i, nd, cOf nd.w nd.s m, by omega, old hi, by rw [t1]; exact h2⟩
    · rintro ⟨j, n, c, h1, h2, h3⟩
      by_cases hji : j = i
      · subst hji
        rw [old hi] at h2
        cases h2
        obtain ⟨m, hm, hcm⟩ := cover nd.w nd.s c
        obtain ⟨t1, _, _⟩ := trans_node b nd m j
        rw [hcm] at t1
        exact .inr ⟨m, hm, by rw [← t1]; exact h3⟩
      · refine .inl ⟨j, n, c, by omega, ?_, h3⟩
        rw [e1, List.getElem?_append_left (by omega)] at h2
        exact h2
  · have : y.1.length = ns.length + ex.length := by rw [e1]; simp
    omega
end
theorem pi_start {b : Bk} {w0 : Wo} (h : WOk w0) : QI b w0 ((starts w0).map fun s => ⟨w0, s, none⟩) ((starts w0).map fun _ => 0) [] 0 := by
  have hm : ((starts w0).map fun s => (⟨w0, s, none⟩ : Nd)).map stN = startSt w0 := by
    rw [List.map_map]
    exact starts_st w0
  have dz : ∀ {j d : Nat}, ((starts w0).map fun _ => 0)[j]? = some d → d = 0 := fun {j d} h => by
    rw [List.getElem?_map] at h
    obtain ⟨_, _, h⟩ := Option.map_eq_some_iff.mp h
    exact h.symm
  have dat : ∀ {j : Nat}, j < (starts w0).length → ((starts w0).map fun _ => 0)[j]? = some 0 := fun {j} h => by
    rw [List.getElem?_map, List.getElem?_eq_getElem h]; rfl
  have nat_ : ∀ {j : Nat} {nd : Nd}, ((starts w0).map fun s => (⟨w0, s, none⟩ : Nd))[j]? = some nd → ∃ s, s ∈ starts w0 ∧ nd = ⟨w0, s, none⟩ ∧ j < (starts w0).length := fun {j nd} h => by
    rw [List.getElem?_map] at h
    obtain ⟨s, h1, h2⟩ := Option.map_eq_some_iff.mp h
    exact ⟨s, List.mem_of_getElem? h1, h2.symm, (List.getElem?_eq_some_iff.mp h1).1⟩
  refine ⟨by simp, fun j nd h' => ?_, fun j nd h' => ?_, by rw [hm]; exact nd_startSt w0, fun s hs => ?_, fun j nd d hj => by omega, fun j j' d d' _ h1 h2 => by rw [dz h1]; omega, fun j d di h1 h2 => by rw [dz h2]; omega, List.nodup_nil, fun k => ?_, Nat.zero_le _⟩
  · obtain ⟨s, h1, rfl, _⟩ := nat_ h'
    exact ⟨h, starts_ok h s h1⟩
  · obtain ⟨s, h1, rfl, h2⟩ := nat_ h'
    exact .inl ⟨rfl, rfl, h1, dat h2⟩
  · rw [hm]
    rw [← mem_startSt] at hs
    obtain ⟨j, hj⟩ := List.mem_iff_getElem?.mp hs
    refine ⟨j, hj, dat ?_⟩
    have := (List.getElem?_eq_some_iff.mp hj).1
    rw [← starts_st, List.length_map] at this
    exact this
  · constructor
    · intro h; cases h
    · rintro ⟨j, nd, c, h, _⟩; omega
end T
/-! Pu10: explore by data. -/
namespace T
open PySem PySem.Spec PyProof.Rows L2 Dm
local macro_rules | `(tactic| walk_at "sp") => `(tactic| fail)
local macro_rules | `(tactic| walk_at "ev") => `(tactic| repeat (first
  | apply_rules -exfalso (transparency := .reducible) (maxDepth := 100000) only [ws_seq, nxt_nx, ws_set, ws_if, ws_ret, ws_nx, ws_asg, ws_drop, ws_put, we_c, we_bin2, wt_bS, wt_tr, wt_not, wa_nil, wa_cons, we_tup, we_callQ, we_call, we_calld, wg_nm, wgs_nil, wgs_cons, ex_bl]
  | (apply_rules -exfalso (transparency := .reducible) (maxDepth := 1) only [we_va]; exact rfl)
  | (apply_rules -exfalso (transparency := .reducible) (maxDepth := 1) only [ok_and]; first | rfl | focus (simp [okItems]; done) | focus (simp [okItems, *]; done))
  | with_reducible refine wg_tup rfl ?_
  | with_reducible refine wf_of (by assumption) ?_
  | walk_at "sp"
  | apply_rules -exfalso (transparency := .reducible) (maxDepth := 1) only [wq_i (isnN_eN _), wf_of (state_of_eq _ _ _), wf_of (write_word_eq _ _ _ _ _), wf_of (meant_at_eq _ _ _), wf_of (spot_after_eq _ _ _)]
  | (apply_rules -exfalso (transparency := .reducible) (maxDepth := 1) only [wq_i]; exact rfl)
  | (apply_rules -exfalso (transparency := .reducible) (maxDepth := 1) only [br_t]; first | assumption | decide +kernel | rfl)
  | (apply_rules -exfalso (transparency := .reducible) (maxDepth := 1) only [br_f]; first | assumption | decide +kernel | rfl)))
def ePvI : Option (Nat × Mv) → D
  | none => .non
  | some p => .int (p.1 : Nat)
def ePvM : Option (Nat × Mv) → D
  | none => .non
  | some p => eM p.2
def eNd (n : Nd) : D := .tup [eW n.w, eS n.s, ePvI n.pv, ePvM n.pv]
def eWr : Option (Nat × Mv) → D
  | none => .non
  | some p => .tup [.int (p.1 : Nat), eM p.2]
@[simp] theorem mut_ePvI (o : Option (Nat × Mv)) : isMut (ePvI o) = false := by cases o <;> rfl
@[simp] theorem mut_ePvM (o : Option (Nat × Mv)) : isMut (ePvM o) = false := by cases o <;> rfl
@[simp] theorem mut_eNd (o : Nd) : isMut (eNd o) = false := rfl
@[simp] theorem mut_eWr (o : Option (Nat × Mv)) : isMut (eWr o) = false := by cases o <;> rfl
theorem isN_eWr {m : Mem} (o : Option (Nat × Mv)) : isNQ m (eWr o) .non = some (.bl o.isNone) := by cases o <;> rfl
local macro_rules | `(tactic| walk_at "sp") => `(tactic| with_reducible refine wq_i (isN_eWr _) ?_)
def mE (hd : MO) (ns : List Nd) (U : List Nat) : Mem := [hd, .lst (ns.map eNd), .dicT (eK (ns.map stN)), .dicI (eU U)]
theorem small_ns {ns : List Nd} (h : (ns.map stN).Nodup) : ns.length ≤ 11 := by
  have := small_K h
  rwa [List.length_map] at this
theorem neQ_str {m : Mem} {a b : Str} : neQ m (.str a) (.str b) = some (.bl (!decide (a = b))) := rfl
local macro_rules | `(tactic| walk_at "sp") => `(tactic| with_reducible refine wq_i neQ_str ?_)
theorem state_of_app (w : Wo) (s : Spo) (mu : Mem) : F_state_of ([eW w, eS s] ++ [.int 10]) mu = some (eSt (stOf w s), mu) := state_of_eq w s mu
local macro_rules | `(tactic| walk_at "sp") => `(tactic| with_reducible refine wf_of (state_of_app _ _ _) ?_)
theorem ws_then {s1 s2 : SS} {de e1 : Dm.Env} {mu m1 : Mem} {Q : Out → Dm.Env → Mem → Prop} (h : ws s1 de mu fun o e m => o = .nx ∧ e = e1 ∧ m = m1) (k : ws s2 e1 m1 Q) : ws (seqS s1 s2) de mu Q := by
  obtain ⟨o, e, m, h1, rfl, rfl, rfl⟩ := h
  exact ws_seq ⟨_, _, _, h1, k⟩
/-- what explore answers -/
def ExPost (b : Bk) (w0 : Wo) (whole : Bool) (d : D) : Prop := ∃ (ns : List Nd) (x : D) (U : List Nat), d = .tup [.lst (ns.map eNd), x, .lst ((sortU U).map .int)] ∧
  ((∃ dp, QI b w0 ns dp U ns.length ∧ (whole = false → x = .non ∧ ∀ nd ∈ ns, ¬ Wrong (trans b) (stN nd))) ∨
   (whole = false ∧ ∃ (i : Nat) (m : Mv) (nd : Nd) (ns0 ex : List Nd) (dp U0 : List Nat), x = .tup [.int (i : Nat), eM m] ∧ ns = ns0 ++ ex ∧ QI b w0 ns0 dp U0 i ∧ ns0[i]? = some nd ∧ (∀ (j : Nat) (nd' : Nd), j < i → ns0[j]? = some nd' → ¬ Wrong (trans b) (stN nd')) ∧ m ∈ moves nd.w nd.s ∧ rightM b nd m = false))
/-- one move -/
theorem ex_move {b : Bk} {hd : MO} {i : Nat} {nd : Nd} {m : Mv} {ns : List Nd} {U : List Nat} {whole : Bool} {W : Option (Nat × Mv)} {wd : D} {e10 e13 e14 e15 : Option D} {Q : Out → Dm.Env → Mem → Prop}
    (hns : (ns.map stN).Nodup) (hU : U.Nodup) (hub : ∀ k ∈ U, k < 63) (hk : ∀ k, num b nd.w nd.s m = some k → k < 63)
    (k1 : rightM b nd m = true → ∀ e13 e14 e15, Q .nx [some (eMB b), some wd, some (.bl whole), some (.loc 1), some (.loc 2), some (.loc 3), some (eWr W), some (eS nd.s), some (.int (i : Nat)), some (eW nd.w), e10, some (.str (meant nd.w nd.s)), some (eM m), e13, e14, e15] (mE hd (pm b i nd (ns, U) m).1 (pm b i nd (ns, U) m).2))
    (k2 : rightM b nd m = false → whole = true → ∀ W' e13 e14 e15, Q .nx [some (eMB b), some wd, some (.bl whole), some (.loc 1), some (.loc 2), some (.loc 3), some (eWr W'), some (eS nd.s), some (.int (i : Nat)), some (eW nd.w), e10, some (.str (meant nd.w nd.s)), some (eM m), e13, e14, e15] (mE hd (pm b i nd (ns, U) m).1 (pm b i nd (ns, U) m).2))
    (k3 : rightM b nd m = false → whole = false → W = none → ∀ e m', Q (.rt (.tup [.lst (ns.map eNd), .tup [.int (i : Nat), eM m], .lst ((sortU (putUo U (num b nd.w nd.s m))).map .int)])) e ([hd] ++ m'))
    (hW : whole = false → W = none) :
    ws (seqS (asgS (callF F_write_word (consA (vaS 0) (consA (vaS 9) (consA (vaS 7) (consA (vaS 12) nilA))))) (tupG 2 (consG (nmG 13) (consG (nmG 14) nilG))))
      (seqS (setS 15 (callF F_spot_after (consA (vaS 7) (consA (vaS 12) nilA))))
      (seqS (iffS (bS (bin2 isnNQ (vaS 13) (cS .non))) (putS (vaS 5) (vaS 13) (cS (.bl true))) nxS)
      (iffS (bS (bin2 neQ (callF F_meant_at (consA (vaS 14) (consA (vaS 15) nilA))) (vaS 11))) (seqS (iffS (bS (bin2 isNQ (vaS 6) (cS .non))) (setS 6 (tupS (consA (vaS 8) (consA (vaS 12) nilA)))) nxS)
      (iffS (notT (trS (vaS 2))) (retS (tupS (consA (frzS (vaS 3)) (consA (vaS 6) (consA (callQ srtIQ (consA (vaS 5) nilA)) nilA))))) nxS)) (iffS (bS (bin2 ninTQ (callFd F_state_of [.int 10] (consA (vaS 14) (consA (vaS 15) nilA))) (vaS 4))) (seqS (putS (vaS 4) (callFd F_state_of [.int 10] (consA (vaS 14) (consA (vaS 15) nilA))) (cS (.bl true)))
      (dropS (appS (vaS 3) (tupS (consA (vaS 14) (consA (vaS 15) (consA (vaS 8) (consA (vaS 12) nilA)))))))) nxS)))))
      [some (eMB b), some wd, some (.bl whole), some (.loc 1), some (.loc 2), some (.loc 3), some (eWr W), some (eS nd.s), some (.int (i : Nat)), some (eW nd.w), e10, some (.str (meant nd.w nd.s)), some (eM m), e13, e14, e15] (mE hd ns U) Q := by
  have hKl : (ns.map stN).length ≤ 1000 := by have := small_K hns; omega
  have hUl : U.length ≤ 1000 := by have := small_U hU hub; omega
  have hub' : ∀ k ∈ putUo U (num b nd.w nd.s m), k < 63 := fun k h => by
    rcases mem_putUo.mp h with z | z
    · exact hub k z
    · exact hk k z
  have s1 : ∀ (Q : Out → Dm.Env → Mem → Prop) (de : Dm.Env), de[13]? = some (some (eN (num b nd.w nd.s m))) → de[5]? = some (some (.loc 3)) → Q .nx de (mE hd ns (putUo U (num b nd.w nd.s m))) →
      ws (iffS (bS (bin2 isnNQ (vaS 13) (cS .non))) (putS (vaS 5) (vaS 13) (cS (.bl true))) nxS) de (mE hd ns U) Q := by
    intro Q de h1 h2 q
    refine ws_if (wt_bS (we_bin2 (we_va h1 (we_c (wq_i (isnN_eN _) ⟨_, rfl, ?_⟩)))))
    cases hn : num b nd.w nd.s m with
    | none =>
      rw [hn] at q
      exact ⟨(fun z => by cases z), fun _ => ws_nx q⟩
    | some j =>
      rw [hn] at q h1
      refine ⟨fun _ => ?_, (fun z => by cases z)⟩
      refine ws_put (we_c (we_va h2 (we_va h1 (wq_i (put_I (m := mE hd ns U) (j := 3) rfl hUl) ?_))))
      exact q
  apply ws_then
  · walk_at "ev"
    exact ⟨rfl, rfl, rfl⟩
  apply ws_then
  · walk_at "ev"
    exact ⟨rfl, rfl, rfl⟩
  refine ws_seq ?_
  refine s1 _ _ rfl rfl ?_
  refine nxt_nx ?_
  generalize hU' : putUo U (num b nd.w nd.s m) = U' at *
  have hUl' : U'.length ≤ 63 := by rw [← hU']; exact small_U (nodup_putUo hU) (by rw [hU']; exact hub')
  have hp2 : (pm b i nd (ns, U) m).2 = U' := hU'
  have hr : decide (meant (newW b nd.w nd.s m) (aft nd.s m) = meant nd.w nd.s) = rightM b nd m := rfl
  cases hrm : rightM b nd m with
  | false =>
    rw [hrm] at hr
    have hr2 : (!decide (meant (newW b nd.w nd.s m) (aft nd.s m) = meant nd.w nd.s)) = true := by rw [hr]; rfl
    have hp1 : (pm b i nd (ns, U) m).1 = ns := by unfold pm; dsimp only; rw [if_neg (by rw [hrm]; simp)]
    cases whole with
    | true =>
      have k2 := k2 hrm rfl
      rw [hp1, hp2] at k2
      cases W with
      | none =>
        walk_at "ev"
        exact k2 (some (i, m)) _ _ _
      | some p =>
        walk_at "ev"
        exact k2 (some p) _ _ _
    | false =>
      have hW := hW rfl
      subst hW
      walk_at "ev"
      refine we_frz ?_
      walk_at "ev"
      refine ⟨1, ns.map eNd, rfl, rfl, ?_⟩
      walk_at "ev"
      refine wq_i (srt_I (j := 3) (U := U') rfl hUl') ?_
      walk_at "ev"
      exact k3 hrm rfl rfl _ _
  | true =>
    rw [hrm] at hr
    have hr2 : (!decide (meant (newW b nd.w nd.s m) (aft nd.s m) = meant nd.w nd.s)) = false := by rw [hr]; rfl
    have k1 := k1 hrm
    rw [hp2] at k1
    have hn := nin_T (m := mE hd ns U') (j := 2) (K := ns.map stN) (s := stN (newN b i nd m)) rfl
    have hst : stOf (newW b nd.w nd.s m) (aft nd.s m) = stN (newN b i nd m) := rfl
    by_cases hm : stN (newN b i nd m) ∈ ns.map stN
    · have hp1 : (pm b i nd (ns, U) m).1 = ns := by unfold pm; dsimp only; rw [if_neg (by rw [hrm]; exact fun z => z.2 hm)]
      rw [hp1] at k1
      rw [decide_eq_true hm] at hn
      walk_at "ev"
      rw [hst]
      refine wq_i hn ?_
      walk_at "ev"
      exact k1 _ _ _
    · have hp1 : (pm b i nd (ns, U) m).1 = ns ++ [newN b i nd m] := by unfold pm; dsimp only; rw [if_pos ⟨hrm, hm⟩]
      rw [hp1] at k1
      rw [decide_eq_false hm] at hn
      have hp := put_T (m := mE hd ns U') (j := 2) (K := ns.map stN) (s := stN (newN b i nd m)) rfl hKl
      have hK : putK (ns.map stN) (stN (newN b i nd m)) = (ns ++ [newN b i nd m]).map stN := by unfold putK; rw [if_neg hm, List.map_append]; rfl
      rw [hK] at hp
      walk_at "ev"
      rw [hst]
      refine wq_i hn ?_
      walk_at "ev"
      rw [hst]
      refine wq_i hp ?_
      walk_at "ev"
      refine we_app ?_
      walk_at "ev"
      refine ⟨1, ns.map eNd, rfl, rfl, ?_⟩
      walk_at "ev"
      refine ⟨ns.map eNd, rfl, by simp, ble_small (by rw [List.length_map] at hKl ⊢; exact hKl), ?_⟩
      have k1 := k1 (some (eN (num b nd.w nd.s m))) (some (eW (newW b nd.w nd.s m))) (some (eS (aft nd.s m)))
      unfold mE at k1
      rw [List.map_append (f := eNd)] at k1
      exact k1
end T
/-! Pu11: explore by data. -/
namespace T
open PySem PySem.Spec PyProof.Rows L2 Dm
local macro_rules | `(tactic| walk_at "ev") => `(tactic| repeat (first
  | apply_rules -exfalso (transparency := .reducible) (maxDepth := 100000) only [ws_seq, nxt_nx, nxt_rt, ws_set, ws_ret, ws_asg, ws_drop, ws_put, we_c, we_bin2, wt_bS, wa_nil, wa_cons, we_tup, we_callQ, we_call, we_calld, wg_nm, wgs_nil, wgs_cons, ex_lst]
  | (apply_rules -exfalso (transparency := .reducible) (maxDepth := 1) only [we_va]; exact rfl)
  | (apply_rules -exfalso (transparency := .reducible) (maxDepth := 1) only [ok_and]; first | rfl | focus (simp [okItems]; done) | focus (simp [okItems, *]; done))
  | with_reducible refine wg_tup rfl ?_
  | with_reducible refine wf_of (by assumption) ?_
  | apply_rules -exfalso (transparency := .reducible) (maxDepth := 1) only [wf_of (state_of_app _ _ _), wf_of (moves_from_eq _ _ _), wf_of (start_spots_eq _ _), wf_of (meant_at_eq _ _ _)]
  | (apply_rules -exfalso (transparency := .reducible) (maxDepth := 1) only [wq_i]; exact rfl)))
theorem num_small {b : Bk} (hb : ∀ s c k, (trans b s c).1 = some k → k < 63) (nd : Nd) (m : Mv) : ∀ k, num b nd.w nd.s m = some k → k < 63 := fun k h => by
  obtain ⟨t1, _, _⟩ := trans_node b nd m 0
  exact hb _ _ k (t1.trans h)
theorem ix_node {hd : MO} {ns : List Nd} {U : List Nat} {i : Nat} {nd : Nd} (h : ns[i]? = some nd) : ixQ (mE hd ns U) (.loc 1) (.int (i : Nat)) = some (.tup [eW nd.w, eS nd.s, ePvI nd.pv, ePvM nd.pv]) := by
  show atI (ns.map eNd) _ = _
  refine atI_nat ?_
  rw [List.getElem?_map, h]
  rfl
theorem explore_eq (b : Bk) (w : Wo) (hd : MO) (whole : Bool) (hw : WOk w) (hb : ∀ s c k, (trans b s c).1 = some k → k < 63) : ∃ d, F_explore [eMB b, eW w, .bl whole] [hd] = some (d, [hd]) ∧ ExPost b w whole d := by
  have fin : ∀ (ns : List Nd) (dp U : List Nat) (W : Option (Nat × Mv)) (de : Dm.Env) (e0 e1 e2 e7 e8 e9 e10 e11 e12 e13 e14 e15 : Option D), QI b w ns dp U ns.length → (whole = false → W = none ∧ ∀ nd ∈ ns, ¬ Wrong (trans b) (stN nd)) →
      de = [e0, e1, e2, some (.loc 1), some (.loc 2), some (.loc 3), some (eWr W), e7, e8, e9, e10, e11, e12, e13, e14, e15] →
      ws (retS (tupS (consA (frzS (vaS 3)) (consA (vaS 6) (consA (callQ srtIQ (consA (vaS 5) nilA)) nilA))))) de (mE hd ns U) fun o _ m => ∃ d l, o = .rt d ∧ m = [hd] ++ l ∧ isMut d = false ∧ ExPost b w whole d := by
    rintro ns dp U W de e0 e1 e2 e7 e8 e9 e10 e11 e12 e13 e14 e15 I hW rfl
    have hub : ∀ k ∈ U, k < 63 := fun k h => by
      obtain ⟨j, nd, c, _, _, h2⟩ := (I.umem k).mp h
      exact hb _ _ k h2
    walk_at "ev"
    refine we_frz ?_
    walk_at "ev"
    refine ⟨1, ns.map eNd, rfl, rfl, ?_⟩
    walk_at "ev"
    refine wq_i (srt_I (j := 3) (U := U) rfl (small_U I.und hub)) ?_
    walk_at "ev"
    refine ⟨_, [.gone, .dicT (eK (ns.map stN)), .dicI (eU U)], rfl, rfl, rfl, ns, eWr W, U, rfl, .inl ⟨dp, I, fun h => ?_⟩⟩
    obtain ⟨h1, h2⟩ := hW h
    subst h1
    exact ⟨rfl, h2⟩
  have key : ws b_explore (startD 16 [eMB b, eW w, .bl whole]) [hd] fun o _ m => ∃ d l, o = .rt d ∧ m = [hd] ++ l ∧ isMut d = false ∧ ExPost b w whole d := by
    unfold b_explore
    walk_at "ev"
    refine we_lstM ?_
    walk_at "ev"
    refine we_dicT ?_
    walk_at "ev"
    refine we_dicI ?_
    walk_at "ev"
    refine ws_for (fun ds e m => ∃ l l2 e7, starts w = l2 ++ l ∧ ds = l.map eS ∧ e = [some (eMB b), some (eW w), some (.bl whole), some (.loc 1), some (.loc 2), some (.loc 3), some .non, e7, none, none, none, none, none, none, none, none] ∧ m = mE hd (l2.map fun s => ⟨w, s, none⟩) []) ?_ ?_ ?_
    · refine wa_itL ?_
      walk_at "ev"
      exact ⟨starts w, [], none, rfl, rfl, rfl, rfl⟩
    · rintro d ds e m ⟨l, l2, e7, h0, h1, rfl, rfl⟩
      cases l with
      | nil => cases h1
      | cons s l =>
        cases h1
        have hnd : ((l2 ++ s :: l).map fun s => stOf w s).Nodup := by
          rw [← h0]
          show ((starts w).map (stOf w)).Nodup
          rw [starts_st]
          exact nd_startSt w
        rw [List.map_append, List.map_cons, List.nodup_append] at hnd
        have e1 : (l2.map fun s => (⟨w, s, none⟩ : Nd)).map stN = l2.map fun s => stOf w s := by rw [List.map_map]; rfl
        have hs : stOf w s ∉ (l2.map fun s => (⟨w, s, none⟩ : Nd)).map stN := fun z => by
          rw [e1] at z
          exact hnd.2.2 _ z _ List.mem_cons_self rfl
        have hl : ((l2.map fun s => (⟨w, s, none⟩ : Nd)).map stN).length ≤ 1000 := by
          rw [e1]
          have := small_K hnd.1
          omega
        have hp := put_T (m := mE hd (l2.map fun s => ⟨w, s, none⟩) []) (j := 2) (K := (l2.map fun s => (⟨w, s, none⟩ : Nd)).map stN) (s := stOf w s) rfl hl
        have hK : putK ((l2.map fun s => (⟨w, s, none⟩ : Nd)).map stN) (stOf w s) = ((l2 ++ [s]).map fun s => (⟨w, s, none⟩ : Nd)).map stN := by
          unfold putK
          rw [if_neg hs, List.map_append, List.map_append]
          rfl
        rw [hK] at hp
        walk_at "ev"
        refine wq_i hp ?_
        walk_at "ev"
        refine we_app ?_
        walk_at "ev"
        refine ⟨1, (l2.map fun s => (⟨w, s, none⟩ : Nd)).map eNd, rfl, rfl, ?_⟩
        walk_at "ev"
        refine ⟨(l2.map fun s => (⟨w, s, none⟩ : Nd)).map eNd, rfl, rfl, ble_small (by rw [List.length_map] at hl ⊢; exact hl), ?_⟩
        refine turn_nx' ⟨l, l2 ++ [s], _, by rw [h0]; simp, rfl, rfl, ?_⟩
        unfold mE
        rw [List.map_append (f := fun s => (⟨w, s, none⟩ : Nd)), List.map_append (f := eNd)]
        rfl
    · rintro e m ⟨l, l2, e7, h0, h1, rfl, rfl⟩
      cases l with
      | cons s l => cases h1
      | nil =>
        rw [List.append_nil] at h0
        subst h0
        refine nxt_nx ?_
        apply ws_then
        · walk_at "ev"
          exact ⟨rfl, rfl, rfl⟩
        refine ws_seq ?_
        refine ws_while (fun n e m => ∃ i ns dp U W e7 e9 e10 e11 e12 e13 e14 e15, e = [some (eMB b), some (eW w), some (.bl whole), some (.loc 1), some (.loc 2), some (.loc 3), some (eWr W), e7, some (.int ((i : Nat) : Int)), e9, e10, e11, e12, e13, e14, e15] ∧ m = mE hd ns U ∧ QI b w ns dp U i ∧ n + i = 12 ∧ (whole = false → W = none ∧ ∀ (j : Nat) (nd : Nd), j < i → ns[j]? = some nd → ¬ Wrong (trans b) (stN nd))) 12 (by omega) ?_ ?_
        · exact ⟨0, (starts w).map fun s => ⟨w, s, none⟩, (starts w).map fun _ => 0, [], none, _, _, _, _, _, _, _, _, rfl, rfl, pi_start hw, rfl, fun _ => ⟨rfl, fun j nd h => by omega⟩⟩
        · rintro n e m ⟨i, ns, dp, U, W, e7, e9, e10, e11, e12, e13, e14, e15, rfl, rfl, I, hn, hW⟩
          have hsm := small_ns I.nod
          have hil := I.le
          have hlt : decide (((i : Nat) : Int) < ((ns.map eNd).length : Nat)) = decide (i < ns.length) := by
            rw [List.length_map]
            exact decide_eq_decide.mpr (by omega)
          refine wt_bS (we_bin2 (we_va rfl (we_callQ (wa_cons (we_va rfl (wa_nil (wq_i rfl (wq_i rfl ⟨_, rfl, ?_⟩))))))))
          show (decide (((i : Nat) : Int) < ((ns.map eNd).length : Nat)) = true → _) ∧ (decide (((i : Nat) : Int) < ((ns.map eNd).length : Nat)) = false → _)
          rw [hlt]
          refine ⟨fun h => ?_, fun h => ?_⟩
          · have hi := of_decide_eq_true h
            obtain ⟨nd, hnd⟩ : ∃ nd, ns[i]? = some nd := ⟨_, List.getElem?_eq_getElem hi⟩
            have hix := ix_node (hd := hd) (U := U) hnd
            have ubI : ∀ k ∈ U, k < 63 := fun k h => by
              obtain ⟨j, nd, c, _, _, h2⟩ := (I.umem k).mp h
              exact hb _ _ k h2
            refine ⟨n - 1, by omega, ?_⟩
            apply ws_then
            · refine ws_asg (we_bin2 (we_va rfl (we_va rfl (wq_i hix ?_))))
              walk_at "ev"
              exact ⟨rfl, rfl, rfl⟩
            apply ws_then
            · walk_at "ev"
              exact ⟨rfl, rfl, rfl⟩
            refine ws_seq ?_
            refine ws_for (fun ds e m => ∃ ms1 ms2 y W' e12 e13 e14 e15, moves nd.w nd.s = ms1 ++ ms2 ∧ ds = ms2.map eM ∧ PF b i nd ns U ms1 y ∧ e = [some (eMB b), some (eW w), some (.bl whole), some (.loc 1), some (.loc 2), some (.loc 3), some (eWr W'), some (eS nd.s), some (.int ((i : Nat) : Int)), some (eW nd.w), some (ePvM nd.pv), some (.str (meant nd.w nd.s)), e12, e13, e14, e15] ∧ m = mE hd y.1 y.2 ∧ (whole = false → W' = none ∧ ∀ m ∈ ms1, rightM b nd m = true)) ?_ ?_ ?_
            · refine wa_itL ?_
              walk_at "ev"
              exact ⟨[], moves nd.w nd.s, (ns, U), W, _, _, _, _, rfl, rfl, pf_nil I.nod I.und, rfl, rfl, fun h => ⟨(hW h).1, by simp⟩⟩
            · rintro d ds e m ⟨ms1, ms2, y, W', e12, e13, e14, e15, h0, h1, F, rfl, rfl, hW'⟩
              cases ms2 with
              | nil => cases h1
              | cons mv ms2 =>
                cases h1
                refine wg_nm ?_
                have hub : ∀ k ∈ y.2, k < 63 := fun k h => by
                  rcases (F.umem k).mp h with z | ⟨m', _, z⟩
                  · exact ubI k z
                  · exact num_small hb nd m' k z
                have hmv : mv ∈ moves nd.w nd.s := by rw [h0]; simp
                have hst := F.step mv
                refine ex_move (i := i) (nd := nd) (m := mv) (ns := y.1) (U := y.2) (whole := whole) (W := W') F.nod F.und hub (num_small hb nd mv) (fun hr e13 e14 e15 => ?_) (fun hr hwh W2 e13 e14 e15 => ?_) (fun hr hwh hW2 e m' => ?_) (fun h => (hW' h).1)
                · refine turn_nx' ⟨ms1 ++ [mv], ms2, pm b i nd y mv, W', _, _, _, _, by rw [h0]; simp, rfl, hst, rfl, rfl, fun h => ⟨(hW' h).1, fun m hm => ?_⟩⟩
                  rcases List.mem_append.mp hm with hm | hm
                  · exact (hW' h).2 m hm
                  · rw [List.mem_singleton.mp hm]; exact hr
                · refine turn_nx' ⟨ms1 ++ [mv], ms2, pm b i nd y mv, W2, _, _, _, _, by rw [h0]; simp, rfl, hst, rfl, rfl, fun h => by rw [hwh] at h; cases h⟩
                · obtain ⟨ex, x1, x2⟩ := F.ext
                  refine turn_rt ?_
                  refine nxt_rt ?_
                  refine turn_rt ?_
                  refine nxt_rt ?_
                  exact ⟨_, m', rfl, rfl, rfl, y.1, _, _, rfl, .inr ⟨hwh, i, mv, nd, ns, ex, dp, U, rfl, x1, I, hnd, (hW hwh).2, hmv, hr⟩⟩
            · rintro e m ⟨ms1, ms2, y, W', e12, e13, e14, e15, h0, h1, F, rfl, rfl, hW'⟩
              cases ms2 with
              | cons mv ms2 => cases h1
              | nil =>
                rw [List.append_nil] at h0
                rw [← h0] at F
                obtain ⟨dp', I'⟩ := I.turn hnd F
                refine nxt_nx ?_
                refine ws_aug (n := ((i : Nat) : Int)) rfl (we_c ⟨1, rfl, ?_⟩)
                refine turn_nx' ⟨i + 1, y.1, dp', y.2, W', _, _, _, _, _, _, _, _, rfl, rfl, I', by omega, fun hwh => ⟨(hW' hwh).1, fun j nd' hj hnd' => ?_⟩⟩
                obtain ⟨ex, x1, x2⟩ := F.ext
                by_cases hji : j = i
                · subst hji
                  rw [x1, List.getElem?_append_left hi, hnd] at hnd'
                  cases hnd'
                  rintro ⟨c, hc⟩
                  obtain ⟨mv, q1, q2⟩ := cover nd.w nd.s c
                  obtain ⟨_, t2, _⟩ := trans_node b nd mv 0
                  rw [q2] at t2
                  rw [t2, (hW' hwh).2 mv (h0 ▸ q1)] at hc
                  cases hc
                · rw [x1, List.getElem?_append_left (by omega)] at hnd'
                  exact (hW hwh).2 j nd' (by omega) hnd'
          · have hi := of_decide_eq_false h
            have hii : i = ns.length := by omega
            subst hii
            refine nxt_nx ?_
            refine fin ns dp U W _ _ _ _ _ _ _ _ _ _ _ _ _ I (fun h => ⟨(hW h).1, fun nd hnd => ?_⟩) rfl
            obtain ⟨j, hj⟩ := List.mem_iff_getElem?.mp hnd
            exact (hW h).2 j nd (List.getElem?_eq_some_iff.mp hj).1 hj
  obtain ⟨o, e, m, h1, d, l, rfl, rfl, nm, P⟩ := key
  exact ⟨d, df_tail (m1 := [hd]) (l := l) ⟨_, e, _, h1, rfl, rfl⟩ rfl nm, P⟩
end T
/-! Pu12: objects; the chain; the law's look at it. -/
namespace T
open PySem PySem.Spec PyProof.Rows L2 Dm
local macro_rules | `(tactic| walk_at "s0") => `(tactic| fail)
local macro_rules | `(tactic| walk_at "ev") => `(tactic| repeat (first
  | apply_rules -exfalso (transparency := .reducible) (maxDepth := 100000) only [ws_seq, nxt_nx, ws_set, ws_if, ws_ret, ws_nx, ws_asg, ws_drop, we_c, we_bin2, we_neg, wt_bS, wt_tr, wt_not, wt_or, wa_nil, wa_cons, we_tup, we_callQ, we_call, wg_nm, wgs_nil, wgs_cons, ex_bl]
  | walk_at "s0" | with_reducible refine ws_atr ?_
  | (apply_rules -exfalso (transparency := .reducible) (maxDepth := 1) only [we_va]; exact rfl)
  | (apply_rules -exfalso (transparency := .reducible) (maxDepth := 1) only [ok_and]; first | rfl | focus (simp [okItems]; done) | focus (simp [okItems, *]; done))
  | with_reducible refine wg_tup rfl ?_
  | with_reducible refine wf_of (by assumption) ?_
  | apply_rules -exfalso (transparency := .reducible) (maxDepth := 1) only [wf_of (is_whole_eq _ _)]
  | (with_reducible refine wf_of (is_name_eq (by assumption) _) ?_)
  | (apply_rules -exfalso (transparency := .reducible) (maxDepth := 1) only [wq_i]; exact rfl)
  | (apply_rules -exfalso (transparency := .reducible) (maxDepth := 1) only [br_f]; first | assumption | decide +kernel | rfl)
  | (apply_rules -exfalso (transparency := .reducible) (maxDepth := 1) only [rb_f]; first | assumption | decide +kernel | rfl)))
theorem atr_last {base : Mem} {de : Dm.Env} {c : Nat} {fs : List (Str × D)} {x : Str} {f1 f2 : SE} {v : D} {Q : Out → Dm.Env → Mem → Prop} (h2 : we f2 de (base ++ [.ob c fs]) fun a m => a = v ∧ m = base ++ [.ob c fs]) (h1 : we f1 de (base ++ [.ob c fs]) fun a m => a = .loc base.length ∧ m = base ++ [.ob c fs])
    (hc : c < 6 ∧ x ∈ clsF c ∧ isMut v = false ∧ fs.length < 100) (k : Q .nx de (base ++ [.ob c (putD x v fs)])) : ws (atrS x f1 f2) de (base ++ [.ob c fs]) Q := by
  obtain ⟨a, m, e1, rfl, rfl⟩ := h2
  obtain ⟨o, m, e2, rfl, rfl⟩ := h1
  have g1 : (base ++ [MO.ob c fs])[base.length]? = some (.ob c fs) := by rw [List.getElem?_append_right (Nat.le_refl _), Nat.sub_self]; rfl
  refine ws_atr ⟨_, _, e1, _, _, e2, base.length, c, fs, rfl, g1, hc, ?_⟩
  rw [List.set_append_right _ _ (Nat.le_refl _), Nat.sub_self]
  exact k
local macro_rules | `(tactic| walk_at "s0") => `(tactic| ((with_reducible apply atr_last); (focus (walk_at "ev"; exact ⟨rfl, rfl⟩)); (focus (walk_at "ev"; exact ⟨rfl, rfl⟩)); (focus (exact ⟨by decide, by decide, by first | rfl | assumption, Nat.le_of_ble_eq_true rfl⟩))))
theorem df_nx {N : Nat} {b : SS} {ds : List D} {mu m1 : Mem} (h : ws b (startD N ds) mu fun o _ m => o = .nx ∧ m = m1) (hl : m1.length = mu.length) : defD N b ds mu = some (.non, m1) := by
  obtain ⟨o, e, m, e1, rfl, rfl⟩ := h
  unfold defD
  rw [e1]
  show some (D.non, m.take mu.length) = _
  rw [← hl, List.take_length]
def eStep (m : Mv) : D := .ins 1 [.int m.dl, .str m.h, .str m.p]
def eSit (s : Spo) : D := .ins 0 [.str s.t, .str s.h, .int s.d, .str s.p]
theorem step_init {dl : Int} {h p : Str} (h0 : 0 ≤ dl) (h1 : NameOk h) (h2 : NameOk p) (base : Mem) : F_Step_init (.loc base.length :: [.int dl, .str h, .str p]) (base ++ [.ob 1 []]) = some (.non, base ++ [.ob 1 ((clsF 1).zip [.int dl, .str h, .str p])]) := by
  refine df_nx ?_ (by simp)
  unfold b_Step_init
  have e0 : decide (dl < 0) = false := decide_eq_false (by omega)
  walk_at "ev"
  exact ⟨rfl, rfl⟩
theorem sit_init {t h p : Str} {d : Int} (h0 : NameOk t) (h1 : NameOk h) (h2 : NameOk p) (base : Mem) : F_Situation_init (.loc base.length :: [.str t, .str h, .int d, .str p]) (base ++ [.ob 0 []]) = some (.non, base ++ [.ob 0 ((clsF 0).zip [.str t, .str h, .int d, .str p])]) := by
  refine df_nx ?_ (by simp)
  unfold b_Situation_init
  walk_at "ev"
  exact ⟨rfl, rfl⟩
theorem wrong_init {x y : D} (hx : isMut x = false) (hy : isMut y = false) (base : Mem) : F_WrongChain_init (.loc base.length :: [x, y]) (base ++ [.ob 4 []]) = some (.non, base ++ [.ob 4 ((clsF 4).zip [x, y])]) := by
  refine df_nx ?_ (by simp)
  unfold b_WrongChain_init
  walk_at "ev"
  exact ⟨rfl, rfl⟩
theorem closed_init {x : D} (hx : isMut x = false) (base : Mem) : F_Closed_init (.loc base.length :: [x]) (base ++ [.ob 3 []]) = some (.non, base ++ [.ob 3 ((clsF 3).zip [x])]) := by
  refine df_nx ?_ (by simp)
  unfold b_Closed_init
  walk_at "ev"
  exact ⟨rfl, rfl⟩
theorem talk_init {x y z : D} (hx : isMut x = false) (hy : isMut y = false) (hz : isMut z = false) (base : Mem) : F_TalkErr_init (.loc base.length :: [x, y, z]) (base ++ [.ob 5 []]) = some (.non, base ++ [.ob 5 ((clsF 5).zip [x, y, z])]) := by
  refine df_nx ?_ (by simp)
  unfold b_TalkErr_init
  walk_at "ev"
  exact ⟨rfl, rfl⟩
/-- an object is made -/
theorem mk_step {de : Dm.Env} {mu m : Mem} {ga : SA} {Q : D → Mem → Prop} {dl : Int} {h p : Str} (hg : wa ga de mu fun ds m' => ds = [.int dl, .str h, .str p] ∧ m' = m) (h0 : 0 ≤ dl) (h1 : NameOk h) (h2 : NameOk p) (k : Q (.ins 1 [.int dl, .str h, .str p]) m) : we (mkF 1 F_Step_init ga) de mu Q := by
  obtain ⟨ds, m', e, rfl, rfl⟩ := hg
  exact we_mkI ⟨_, _, e, [.int dl, .str h, .str p], step_init h0 h1 h2 m', rfl, k⟩
theorem mk_sit {de : Dm.Env} {mu m : Mem} {ga : SA} {Q : D → Mem → Prop} {t h p : Str} {d : Int} (hg : wa ga de mu fun ds m' => ds = [.str t, .str h, .int d, .str p] ∧ m' = m) (h0 : NameOk t) (h1 : NameOk h) (h2 : NameOk p) (k : Q (.ins 0 [.str t, .str h, .int d, .str p]) m) : we (mkF 0 F_Situation_init ga) de mu Q := by
  obtain ⟨ds, m', e, rfl, rfl⟩ := hg
  exact we_mkI ⟨_, _, e, [.str t, .str h, .int d, .str p], sit_init h0 h1 h2 m', rfl, k⟩
theorem mk_wrong {de : Dm.Env} {mu m : Mem} {ga : SA} {Q : D → Mem → Prop} {x y : D} (hg : wa ga de mu fun ds m' => ds = [x, y] ∧ m' = m) (hx : isMut x = false) (hy : isMut y = false) (k : Q (.ins 4 [x, y]) m) : we (mkF 4 F_WrongChain_init ga) de mu Q := by
  obtain ⟨ds, m', e, rfl, rfl⟩ := hg
  exact we_mkI ⟨_, _, e, [x, y], wrong_init hx hy m', rfl, k⟩
theorem mk_closed {de : Dm.Env} {mu m : Mem} {ga : SA} {Q : D → Mem → Prop} {x : D} (hg : wa ga de mu fun ds m' => ds = [x] ∧ m' = m) (hx : isMut x = false) (k : Q (.ins 3 [x]) m) : we (mkF 3 F_Closed_init ga) de mu Q := by
  obtain ⟨ds, m', e, rfl, rfl⟩ := hg
  exact we_mkI ⟨_, _, e, [x], closed_init hx m', rfl, k⟩
theorem mk_talk {de : Dm.Env} {mu m : Mem} {ga : SA} {Q : D → Mem → Prop} {x y z : D} (hg : wa ga de mu fun ds m' => ds = [x, y, z] ∧ m' = m) (hx : isMut x = false) (hy : isMut y = false) (hz : isMut z = false) (k : Q (.ins 5 [x, y, z]) m) : we (mkF 5 F_TalkErr_init ga) de mu Q := by
  obtain ⟨ds, m', e, rfl, rfl⟩ := hg
  exact we_mkI ⟨_, _, e, [x, y, z], talk_init hx hy hz m', rfl, k⟩
/-! chains -/
inductive Run (b : Bk) : Wo → Spo → List Mv → Wo → Spo → Prop where
  | nil {w : Wo} {s : Spo} : Run b w s [] w s
  | cons {w w' : Wo} {s s' : Spo} {m : Mv} {ms : List Mv} : rightM b ⟨w, s, none⟩ m = true → MvOk m → Run b (newW b w s m) (aft s m) ms w' s' → Run b w s (m :: ms) w' s'
theorem chain_to_eq {b : Bk} {w0 : Wo} {ns0 ex : List Nd} {dp U : List Nat} {i : Nat} {nd : Nd} {m : Mv} {di : Nat} (hd : MO) (I : QI b w0 ns0 dp U i) (hw : WOk w0) (hi : ns0[i]? = some nd) (hdi : dp[i]? = some di) (hm : MvOk m) :
    ∃ (s0 : Spo) (ms : List Mv), s0 ∈ starts w0 ∧ ms.length = di ∧ Run b w0 s0 ms nd.w nd.s ∧ F_chain_to [.lst ((ns0 ++ ex).map eNd), .int (i : Nat), eM m] [hd] = some (.tup [eSit s0, .tup ((ms ++ [m]).map eStep)], [hd]) := by
  have hat : ∀ {j : Nat} {n : Nd} {mu : Mem}, ns0[j]? = some n → ixQ mu (.lst ((ns0 ++ ex).map eNd)) (.int (j : Nat)) = some (.tup [eW n.w, eS n.s, ePvI n.pv, ePvM n.pv]) := fun {j n mu} h => by
    show atI _ _ = _
    refine atI_nat ?_
    rw [List.getElem?_map, List.getElem?_append_left (List.getElem?_eq_some_iff.mp h).1, h]
    rfl
  have key : ws b_chain_to (startD 12 [.lst ((ns0 ++ ex).map eNd), .int (i : Nat), eM m]) [hd] fun o _ mm => ∃ (s0 : Spo) (ms : List Mv) (l : Mem), s0 ∈ starts w0 ∧ ms.length = di ∧ Run b w0 s0 ms nd.w nd.s ∧ o = .rt (.tup [eSit s0, .tup ((ms ++ [m]).map eStep)]) ∧ mm = [hd] ++ l := by
    unfold b_chain_to
    apply ws_then
    · walk_at "ev"
      refine we_lstM ?_
      walk_at "ev"
      exact ⟨rfl, rfl, rfl⟩
    refine ws_seq ?_
    refine ws_while (fun n e mm => ∃ (j : Nat) (nj : Nd) (ms : List Mv) (d : Nat), j ≤ n ∧ n ≤ 12 ∧ ns0[j]? = some nj ∧ dp[j]? = some d ∧ Run b nj.w nj.s ms nd.w nd.s ∧ (∀ m ∈ ms, MvOk m) ∧ ms.length + d = di ∧ ms.length + j ≤ i ∧ e = [some (.lst ((ns0 ++ ex).map eNd)), some (.int (j : Nat)), some (eM m), some (.loc 1), none, none, none, none, none, none, none, none] ∧ mm = [hd, .lst ((m :: ms.reverse).map eM)]) 12 (by omega) ?_ ?_
    · have := small_ns I.nod
      have h2 := (List.getElem?_eq_some_iff.mp hi).1
      exact ⟨i, nd, [], di, by omega, by omega, hi, hdi, .nil, by simp, by simp, by simp, rfl, rfl⟩
    · rintro n e mm ⟨j, nj, ms, d, hjn, hn12, hj, hd', R, hok, hlen, hlen2, rfl, rfl⟩
      have hx := hat (mu := [hd, .lst ((m :: ms.reverse).map eM)]) hj
      have hsm := small_ns I.nod
      have hil := I.le
      rcases I.node j nj hj with ⟨h1, h2, h3, h4⟩ | ⟨i', mv, n', d', h1, h2, h3, h4, h5, h6, h7, h8, h9⟩
      · rw [h1] at hx
        refine wt_bS (we_bin2 (we_bin2 (we_bin2 (we_va rfl (we_va rfl (wq_i hx (we_neg (we_c ⟨2, rfl, wq_i rfl (we_c (wq_i rfl ⟨_, rfl, ?_⟩))⟩))))))))
        refine ⟨(fun z => by cases z), fun _ => ?_⟩
        refine nxt_nx ?_
        rw [h4] at hd'
        cases hd'
        have hSp : SpOk nj.s := starts_ok hw nj.s h3
        refine ws_seq (ws_asg (we_bin2 (we_bin2 (we_va rfl (we_va rfl (wq_i hx (we_neg (we_c ⟨3, rfl, wq_i (d := D.tup [.str nj.s.t, .str nj.s.h, .int nj.s.d, .str nj.s.p]) rfl ?_⟩))))))))
        apply wg_tup rfl
        walk_at "ev"
        have hmv : ∀ mm ∈ ms ++ [m], MvOk mm := fun mm h => by
          rcases List.mem_append.mp h with h | h
          · exact hok mm h
          · rw [List.mem_singleton.mp h]; exact hm
        refine we_map (items := (ms ++ [m]).map eM) (outs := (ms ++ [m]).map eStep) (m0 := [hd, .lst ((m :: ms.reverse).map eM)]) ?_ (by simp) (by simp; omega) (by simp [eStep, isMut]) ?_ ?_
        · refine wa_itL ?_
          refine we_rev ?_
          walk_at "ev"
          exact ⟨1, (m :: ms.reverse).map eM, rfl, rfl, _, rfl, by rw [← List.map_reverse]; simp, rfl⟩
        · intro q x v acc hx2 hv
          rw [List.getElem?_map] at hx2
          obtain ⟨mq, hq, rfl⟩ := Option.map_eq_some_iff.mp hx2
          rw [List.getElem?_map, hq] at hv
          cases hv
          have hq2 := hmv mq (List.mem_of_getElem? hq)
          unfold eM
          walk_at "ev"
          refine mk_step (dl := mq.dl) (h := mq.h) (p := mq.p) (m := [hd, .lst ((m :: ms.reverse).map eM)] ++ [.lst acc]) ?_ (by rw [hq2.1]; exact Int.le_refl 0) hq2.2.1 hq2.2.2 ?_
          · walk_at "ev"
            exact ⟨rfl, rfl⟩
          · exact ⟨rfl, rfl⟩
        walk_at "ev"
        refine mk_sit (t := nj.s.t) (h := nj.s.h) (d := nj.s.d) (p := nj.s.p) (m := [hd, .lst ((m :: ms.reverse).map eM)]) ?_ hSp.1 hSp.2.1 hSp.2.2 ?_
        · walk_at "ev"
          exact ⟨rfl, rfl⟩
        walk_at "ev"
        refine ⟨nj.s, ms, _, h3, by simpa using hlen, by rw [← h2]; exact R, rfl, rfl⟩
      · rw [h1] at hx
        have hx2 := hx
        refine wt_bS (we_bin2 (we_bin2 (we_bin2 (we_va rfl (we_va rfl (wq_i hx (we_neg (we_c ⟨2, rfl, wq_i rfl (we_c (wq_i rfl ⟨_, rfl, ?_⟩))⟩))))))))
        refine ⟨fun _ => ?_, (fun z => by cases z)⟩
        have hj1 : 1 ≤ n := by omega
        refine ⟨n - 1, by omega, ?_⟩
        have hmok : MvOk mv := by
          have ho := I.ok i' n' h3
          exact moves_ok ho.1 ho.2 mv h4
        refine ws_seq (ws_drop (we_app ?_))
        walk_at "ev"
        refine ⟨1, (m :: ms.reverse).map eM, rfl, rfl, ?_⟩
        refine we_bin2 (we_bin2 (we_va rfl (we_va rfl (wq_i hx (we_neg (we_c ⟨1, rfl, wq_i (d := eM mv) rfl ?_⟩))))))
        refine ⟨(m :: ms.reverse).map eM, rfl, rfl, ble_small (by simp; omega), ?_⟩
        have hx3 := hat (mu := [hd, .lst ((m :: ms.reverse).map eM ++ [eM mv])]) hj
        rw [h1] at hx3
        refine nxt_nx ?_
        refine ws_set (we_bin2 (we_bin2 (we_va rfl (we_va rfl (wq_i hx3 (we_neg (we_c ⟨2, rfl, wq_i rfl ?_⟩)))))))
        rw [h9] at hd'
        cases hd'
        have hrm : rightM b ⟨n'.w, n'.s, none⟩ mv = true := h5
        refine turn_nx' ⟨i', n', mv :: ms, d', by omega, by omega, h3, h8, .cons hrm hmok (by rw [← h6, ← h7]; exact R), ?_, by simp; omega, by simp; omega, rfl, ?_⟩
        · intro q hq
          rcases List.mem_cons.mp hq with rfl | hq
          · exact hmok
          · exact hok q hq
        · show [hd, MO.lst ((m :: ms.reverse).map eM ++ [eM mv])] = _
          simp
  obtain ⟨o, e, mm, h1, s0, ms, l, g1, g2, g3, rfl, rfl⟩ := key
  exact ⟨s0, ms, g1, g2, g3, df_tail (m1 := [hd]) (l := l) ⟨_, e, _, h1, rfl, rfl⟩ rfl rfl⟩
end T
/-! Pu13: the law's look at a wrong chain; sorted things alike. -/
namespace T
open PySem PySem.Spec PyProof.Rows L2 Dm
local macro_rules | `(tactic| walk_at "sp") => `(tactic| fail)
local macro_rules | `(tactic| walk_at "ev") => `(tactic| repeat (first
  | apply_rules -exfalso (transparency := .reducible) (maxDepth := 100000) only [ws_seq, nxt_nx, nxt_rt, ws_set, ws_if, ws_ret, ws_nx, we_c, we_bin2, wt_bS, wt_tr, wt_not, wt_or, we_and, we_not, wa_nil, wa_cons, we_tup, we_callQ, we_isi, we_fld, we_call, wg_nm, wgs_nil, wgs_cons, ex_bl, ex_tup]
  | (apply_rules -exfalso (transparency := .reducible) (maxDepth := 1) only [we_va]; exact rfl)
  | (apply_rules -exfalso (transparency := .reducible) (maxDepth := 1) only [ok_and]; first | rfl | focus (simp [okItems]; done) | focus (simp [okItems, *]; done))
  | with_reducible refine wg_tup rfl ?_
  | with_reducible refine wf_of (by assumption) ?_
  | walk_at "sp"
  | apply_rules -exfalso (transparency := .reducible) (maxDepth := 1) only [wq_i neQ_str, wf_of (law_written_eq _ _ _ _ _), wf_of (law_meant_eq _ _ _), wf_of (law_after_eq _ _ _)]
  | (apply_rules -exfalso (transparency := .reducible) (maxDepth := 1) only [wq_i]; exact rfl)
  | (apply_rules -exfalso (transparency := .reducible) (maxDepth := 1) only [br_t]; first | assumption | decide +kernel | rfl)
  | (apply_rules -exfalso (transparency := .reducible) (maxDepth := 1) only [br_f]; first | assumption | decide +kernel | rfl)
  | (apply_rules -exfalso (transparency := .reducible) (maxDepth := 1) only [rb_f]; first | assumption | decide +kernel | rfl)))
theorem law_whole_eq (i : Int) (mu : Mem) : F__law_whole [.int i] mu = some (.bl true, mu) := by
  refine df_pure ?_ rfl
  unfold b__law_whole
  walk_at "ev"
  exact ⟨rfl, rfl⟩
local macro_rules | `(tactic| walk_at "sp") => `(tactic| with_reducible refine wf_of (law_whole_eq _ _) ?_)
theorem is_steps_eq {L : List Mv} (h : ∀ m ∈ L, 0 ≤ m.dl) (mu : Mem) : F__law_is_steps [.tup (L.map eStep)] mu = some (.bl true, mu) := by
  refine df_pure ?_ rfl
  unfold b__law_is_steps
  walk_at "ev"
  refine ws_for (fun ds e m => ∃ (l : List Mv) (e1 : Option D), ds = l.map eStep ∧ (∀ m ∈ l, 0 ≤ m.dl) ∧ e = [some (.tup (L.map eStep)), e1] ∧ m = mu) ?_ ?_ ?_
  · refine wa_itT ?_
    walk_at "ev"
    exact ⟨L, none, rfl, h, rfl, rfl⟩
  · rintro d ds e m ⟨l, e1, h1, h2, rfl, rfl⟩
    cases l with
    | nil => cases h1
    | cons x l =>
      cases h1
      have e0 : decide (x.dl < 0) = false := decide_eq_false (by have := h2 x List.mem_cons_self; omega)
      unfold eStep
      walk_at "ev"
      refine turn_nx' ⟨l, _, rfl, fun m hm => h2 m (List.mem_cons_of_mem _ hm), rfl, rfl⟩
  · rintro e m ⟨l, e1, h1, h2, rfl, rfl⟩
    walk_at "ev"
    exact ⟨rfl, rfl⟩
theorem erring_eq {b : Bk} {w w' : Wo} {s s' : Spo} {ms : List Mv} {m : Mv} (R : Run b w s ms w' s') (hr : rightM b ⟨w', s', none⟩ m = false) (mu : Mem) : F__law_erring [eLB b, eW w, eSit s, .tup ((ms ++ [m]).map eStep)] mu = some (.int (ms.length : Nat), mu) := by
  refine df_pure ?_ rfl
  unfold b__law_erring
  unfold eSit
  walk_at "ev"
  refine ws_for (fun ds e mm => ∃ (n : Nat) (w1 : Wo) (s1 : Spo) (l : List Mv) (e5 e6 e7 e8 : Option D), ds = enuD n ((l ++ [m]).map eStep) ∧ Run b w1 s1 l w' s' ∧ n + l.length = ms.length ∧ e = [some (eLB b), some (eW w1), some (eSit s), some (.tup ((ms ++ [m]).map eStep)), some (eS s1), e5, e6, e7, e8] ∧ mm = mu) ?_ ?_ ?_
  · refine wa_itE ?_
    walk_at "ev"
    exact ⟨_, .inr rfl, 0, w, s, ms, none, none, none, none, rfl, R, by omega, rfl, rfl⟩
  · rintro d ds e mm ⟨n, w1, s1, l, e5, e6, e7, e8, h1, R, hn, rfl, rfl⟩
    cases l with
    | nil =>
      cases R
      cases h1
      have h2 : (!decide (meant (newW b w' s' m) (aft s' m) = meant w' s')) = true := by
        have : decide (meant (newW b w' s' m) (aft s' m) = meant w' s') = false := hr
        rw [this]; rfl
      have ew := law_written_eq b w' s' m mm
      have ea := law_after_eq s' m mm
      change F__law_written [eLB b, eW w', eS s', .tup [.int m.dl, .str m.h, .str m.p]] mm = _ at ew
      change F__law_after [eS s', .tup [.int m.dl, .str m.h, .str m.p]] mm = _ at ea
      unfold eStep
      walk_at "ev"
      refine turn_rt ?_
      walk_at "ev"
      exact ⟨by rw [← hn]; rfl, rfl⟩
    | cons x l =>
      cases R with
      | cons hx hok R =>
        cases h1
        have h2 : (!decide (meant (newW b w1 s1 x) (aft s1 x) = meant w1 s1)) = false := by
          have : decide (meant (newW b w1 s1 x) (aft s1 x) = meant w1 s1) = true := hx
          rw [this]; rfl
        have ew := law_written_eq b w1 s1 x mm
        have ea := law_after_eq s1 x mm
        change F__law_written [eLB b, eW w1, eS s1, .tup [.int x.dl, .str x.h, .str x.p]] mm = _ at ew
        change F__law_after [eS s1, .tup [.int x.dl, .str x.h, .str x.p]] mm = _ at ea
        unfold eStep
        walk_at "ev"
        refine turn_nx' ⟨n + 1, newW b w1 s1 x, aft s1 x, l, _, _, _, _, rfl, R, by simp at hn; omega, rfl, rfl⟩
  · rintro e mm ⟨n, w1, s1, l, e5, e6, e7, e8, h1, R, hn, rfl, rfl⟩
    cases l <;> cases h1
theorem Run.ok {b : Bk} {w w' : Wo} {s s' : Spo} {ms : List Mv} (R : Run b w s ms w' s') : ∀ m ∈ ms, MvOk m := by
  induction R with
  | nil => intro m h; cases h
  | cons h1 h2 h3 ih =>
    intro m h
    rcases List.mem_cons.mp h with rfl | h
    · exact h2
    · exact ih m h
theorem wrong_right_eq {b : Bk} {w w' : Wo} {s s' : Spo} {ms : List Mv} {m : Mv} (R : Run b w s ms w' s') (hm : MvOk m) (hr : rightM b ⟨w', s', none⟩ m = false) (mu : Mem) : F__law_wrong_right [eLB b, eW w, .ins 4 [eSit s, .tup ((ms ++ [m]).map eStep)], eN (some (ms.length + 1))] mu = some (.bl true, mu) := by
  refine df_pure ?_ rfl
  unfold b__law_wrong_right
  have h1 := is_steps_eq (L := ms ++ [m]) (fun x hx => by
    rcases List.mem_append.mp hx with hx | hx
    · rw [(R.ok x hx).1]; exact Int.le_refl 0
    · rw [List.mem_singleton.mp hx, hm.1]; exact Int.le_refl 0) mu
  have h2 := erring_eq R hr mu
  have e1 : isTy (eSit s) (.own 0) = some true := rfl
  have e2 : decide ((((ms ++ [m]).map eStep).length : Int) = ((ms.length + 1 : Nat) : Int)) = true := decide_eq_true (by simp)
  have e3 : decide ((ms.length : Int) = ((ms.length + 1 : Nat) : Int) - 1) = true := decide_eq_true (by omega)
  walk_at "ev"
  exact ⟨congrArg (fun b => Out.rt (D.bl b)) e3, rfl⟩
/-! sorted -/
theorem sortU_eq {U V : List Nat} (h1 : U.Nodup) (h2 : V.Nodup) (h : ∀ k, k ∈ U ↔ k ∈ V) : sortU U = sortU V := by
  have p : U.Perm V := (List.perm_ext_iff_of_nodup h1 h2).mpr h
  have p2 : (U.map fun (k : Nat) => (k : Int)).Perm (V.map fun (k : Nat) => (k : Int)) := p.map _
  have st : ∀ l : List Int, (l.mergeSort fun a b => decide (a ≤ b)).Pairwise (· ≤ ·) := fun l => by
    have := List.pairwise_mergeSort (le := fun a b : Int => decide (a ≤ b)) (fun a b c h1 h2 => by simp at *; omega) (fun a b => by simp; omega) l
    exact this.imp fun h => of_decide_eq_true h
  unfold sortU
  exact List.Perm.eq_of_pairwise (le := fun a b : Int => a ≤ b) (fun x y _ _ h1 h2 => Int.le_antisymm h1 h2) (st _) (st _) (((List.mergeSort_perm _ _).trans p2).trans (List.mergeSort_perm _ _).symm)
def leSt (a b : St) : Bool := PySem.W.dataLe false pyT (eSt a) (eSt b)
theorem leSt_total (a b : St) : (leSt a b || leSt b a) = true := by
  have h : (allSt.all fun a => allSt.all fun b => leSt a b || leSt b a) = true := by decide +kernel
  exact List.all_eq_true.mp (List.all_eq_true.mp h a (mem_allSt a)) b (mem_allSt b)
theorem leSt_anti (a b : St) (h1 : leSt a b = true) (h2 : leSt b a = true) : a = b := by
  have h : (allSt.all fun a => allSt.all fun b => !(leSt a b && leSt b a) || decide (a = b)) = true := by decide +kernel
  have h3 := List.all_eq_true.mp (List.all_eq_true.mp h a (mem_allSt a)) b (mem_allSt b)
  rw [h1, h2] at h3
  exact of_decide_eq_true h3
theorem leSt_trans (a b c : St) (h1 : leSt a b = true) (h2 : leSt b c = true) : leSt a c = true := by
  have h : (allSt.all fun a => allSt.all fun b => allSt.all fun c => !(leSt a b && leSt b c) || leSt a c) = true := by decide +kernel
  have h3 := List.all_eq_true.mp (List.all_eq_true.mp (List.all_eq_true.mp h a (mem_allSt a)) b (mem_allSt b)) c (mem_allSt c)
  rw [h1, h2] at h3
  exact h3
theorem sortK_map (K : List St) : sortK K = (K.mergeSort leSt).map eSt := by
  unfold sortK
  have h := List.map_mergeSort (r := leSt) (s := PySem.W.dataLe false pyT) (f := eSt) (l := K) (fun a _ b _ => rfl)
  exact h.symm
theorem sortK_eq {K J : List St} (h1 : K.Nodup) (h2 : J.Nodup) (h : ∀ k, k ∈ K ↔ k ∈ J) : sortK K = sortK J := by
  have p : K.Perm J := (List.perm_ext_iff_of_nodup h1 h2).mpr h
  rw [sortK_map, sortK_map]
  have st : ∀ l : List St, (l.mergeSort leSt).Pairwise fun a b => leSt a b = true := fun l => List.pairwise_mergeSort (le := leSt) leSt_trans leSt_total l
  rw [List.Perm.eq_of_pairwise (le := fun a b : St => leSt a b = true) (fun x y _ _ h1 h2 => leSt_anti x y h1 h2) (st K) (st J) (((List.mergeSort_perm _ _).trans p).trans (List.mergeSort_perm _ _).symm)]
end T
/-! Pu14: the program's answers; the law's judgement of them. -/
namespace T
open PySem PySem.Spec PyProof.Rows L2 Dm
local macro_rules | `(tactic| walk_at "ev") => `(tactic| repeat (first
  | apply_rules -exfalso (transparency := .reducible) (maxDepth := 100000) only [ws_seq, nxt_nx, nxt_rt, ws_set, ws_if, ws_ret, ws_nx, ws_asg, ws_drop, we_c, we_bin2, wt_bS, wt_tr, wt_not, wt_and, wt_or, wa_nil, wa_cons, we_callQ, we_isi, we_fld, we_cut1, we_call, we_calld, wg_nm, wgs_nil, wgs_cons, ex_bl, ex_lst, ex_tup]
  | (apply_rules -exfalso (transparency := .reducible) (maxDepth := 1) only [we_va]; exact rfl)
  | with_reducible refine wg_tup rfl ?_
  | with_reducible refine wf_of (by assumption) ?_
  | apply_rules -exfalso (transparency := .reducible) (maxDepth := 1) only [wf_of (state_of_app _ _ _), wq_i (isnN_eN _)]
  | (with_reducible refine wf_of (law_closed_eq _ _ _ (by assumption) (by assumption)) ?_)
  | (with_reducible refine wf_of (check_chain_word_eq (by assumption) _) ?_)
  | (apply_rules -exfalso (transparency := .reducible) (maxDepth := 1) only [wq_i]; exact rfl)
  | (apply_rules -exfalso (transparency := .reducible) (maxDepth := 1) only [br_t]; first | assumption | decide +kernel | rfl)
  | (apply_rules -exfalso (transparency := .reducible) (maxDepth := 1) only [br_f]; first | assumption | decide +kernel | rfl)
  | (apply_rules -exfalso (transparency := .reducible) (maxDepth := 1) only [rb_f]; first | assumption | decide +kernel | rfl)))
theorem srt_L {m : Mem} {K : List St} (hK : K.length ≤ 1000) : srtLQ m [.lst (K.map eSt)] = some (.lst (sortK K)) := by
  unfold srtLQ
  simp only [okKey_St, alike_St]
  have : Nat.ble (K.map eSt).length 1000 = true := by rw [List.length_map]; exact Nat.ble_eq_true_of_le hK
  rw [this]
  rfl
theorem always_right_eq (b : Bk) (w : Wo) (hd : MO) (hw : WOk w) (hb : ∀ s c k, (trans b s c).1 = some k → k < 63) : ∃ d, F_always_right [eMB b, eW w] [hd] = some (d, [hd]) ∧
    ((∃ K : List St, d = .ins 3 [.tup (sortK K)] ∧ K.Nodup ∧ (∀ s, s ∈ K ↔ ∃ n, Reach (trans b) (begun w) n s) ∧ ∀ n s, Reach (trans b) (begun w) n s → ¬ Wrong (trans b) s) ∨
     (∃ (s0 s' : Spo) (w' : Wo) (ms : List Mv) (m : Mv), d = .ins 4 [eSit s0, .tup ((ms ++ [m]).map eStep)] ∧ s0 ∈ starts w ∧ Run b w s0 ms w' s' ∧ MvOk m ∧ rightM b ⟨w', s', none⟩ m = false ∧
        (∃ s, Reach (trans b) (begun w) ms.length s ∧ Wrong (trans b) s) ∧ ∀ n s, Reach (trans b) (begun w) n s → Wrong (trans b) s → ms.length ≤ n)) := by
  obtain ⟨d, hE, ns, x, U, rfl, hP⟩ := explore_eq b w hd false hw hb
  rcases hP with ⟨dp, I, hx⟩ | ⟨_, i, m, nd, ns0, ex, dp, U0, rfl, rfl, I, hnd, hnw, hm, hr⟩
  · obtain ⟨rfl, hnw⟩ := hx rfl
    refine ⟨.ins 3 [.tup (sortK (ns.map stN))], ?_, .inl ⟨ns.map stN, rfl, I.nod, I.known, fun n s h => ?_⟩⟩
    · refine df_pure ?_ rfl
      unfold b_always_right
      have hsm := small_ns I.nod
      walk_at "ev"
      refine mk_closed (x := .tup (sortK (ns.map stN))) (m := [hd]) ?_ rfl ?_
      · walk_at "ev"
        refine we_map (items := ns.map eNd) (outs := (ns.map stN).map eSt) (m0 := [hd]) ?_ (by simp) (by simp; omega) (by simp) ?_ ?_
        · refine wa_itL ?_
          walk_at "ev"
          exact ⟨rfl, rfl⟩
        · intro q d v acc hq hv
          rw [List.getElem?_map] at hq
          obtain ⟨n, hn, rfl⟩ := Option.map_eq_some_iff.mp hq
          rw [List.getElem?_map, List.getElem?_map, hn] at hv
          cases hv
          unfold eNd
          walk_at "ev"
          exact ⟨rfl, rfl⟩
        · walk_at "ev"
          refine wq_i (srt_L (by rw [List.length_map]; omega)) ?_
          walk_at "ev"
          exact ⟨rfl, rfl⟩
      · exact ⟨rfl, rfl⟩
    · obtain ⟨j, nd, h1, rfl⟩ := I.all n s h
      exact hnw nd (List.mem_of_getElem? h1)
  · obtain ⟨di, hdi⟩ := I.dep hnd
    have hok := I.ok i nd hnd
    have hmv := moves_ok hok.1 hok.2 m hm
    obtain ⟨s0, ms, g1, g2, g3, g4⟩ := chain_to_eq (ex := ex) hd I hw hnd hdi hmv
    have hW : Wrong (trans b) (stN nd) := by
      obtain ⟨_, t2, _⟩ := trans_node b nd m 0
      exact ⟨cOf nd.w nd.s m, by rw [t2]; exact hr⟩
    refine ⟨_, ?_, .inr ⟨s0, nd.s, nd.w, ms, m, rfl, g1, g3, hmv, hr, ⟨stN nd, by rw [g2]; exact I.reach i nd di hnd hdi, hW⟩, fun n s h hw2 => ?_⟩⟩
    · refine df_pure ?_ rfl
      unfold b_always_right
      walk_at "ev"
      refine mk_wrong (x := eSit s0) (y := .tup ((ms ++ [m]).map eStep)) (m := [hd]) ?_ rfl rfl ?_
      · walk_at "ev"
        exact ⟨rfl, rfl⟩
      · walk_at "ev"
        exact ⟨rfl, rfl⟩
    · refine Nat.le_of_not_lt fun hn => ?_
      rw [g2] at hn
      obtain ⟨j, nd', d, q1, q2, rfl, _, _⟩ := I.near hdi n s h hn
      exact hnw j nd' q1 q2 hw2
theorem rules_reached_eq (b : Bk) (w : Wo) (hd : MO) (hw : WOk w) (hb : ∀ s c k, (trans b s c).1 = some k → k < 63) : ∃ U : List Nat, F_rules_reached [eMB b, eW w] [hd] = some (.tup ((sortU U).map .int), [hd]) ∧ U.Nodup ∧ ∀ k, k ∈ U ↔ ∃ n s c, Reach (trans b) (begun w) n s ∧ (trans b s c).1 = some k := by
  obtain ⟨d, hE, ns, x, U, rfl, hP⟩ := explore_eq b w hd true hw hb
  rcases hP with ⟨dp, I, _⟩ | ⟨h, _⟩
  · refine ⟨U, ?_, I.und, I.used⟩
    refine df_pure ?_ rfl
    unfold b_rules_reached
    walk_at "ev"
    exact ⟨rfl, rfl⟩
  · cases h
theorem toPys_int : ∀ (l : List Int), toPys (l.map D.int) = some (l.map PyData.int)
  | [] => by simp only [List.map_nil, toPys]
  | i :: l => by simp only [List.map_cons, toPys, toPy, toPys_int l]
theorem shape_int : ∀ (l : List Int), PyData.canLayAll0 (l.map PyData.int) = true ∧ PyData.depthAll (l.map PyData.int) = 0
  | [] => ⟨by simp [PyData.canLayAll0], by simp [PyData.depthAll]⟩
  | i :: l => by
    obtain ⟨h1, h2⟩ := shape_int l
    exact ⟨by rw [List.map_cons, PyData.canLayAll0, h1]; rfl, by rw [List.map_cons, PyData.depthAll, h2]; simp [PyData.depth]⟩
theorem eqv_int : ∀ (l : List Int), PyData.eqvAll (l.map PyData.int) (l.map PyData.int) = true
  | [] => by simp [PyData.eqvAll]
  | i :: l => by rw [List.map_cons, PyData.eqvAll, eqv_int l]; simp [PyData.eqv]
theorem ne_ints {l : List Int} {m : Mem} : neDQ m (.tup (l.map .int)) (.tup (l.map .int)) = some (.bl false) := by
  obtain ⟨h1, h2⟩ := shape_int l
  unfold neDQ eqData
  simp only [toPy, toPys_int, Option.map_some]
  have s1 : SeqAt.shaped (.tuple (l.map PyData.int)) = true := by
    unfold SeqAt.shaped
    rw [PyData.canLay0, h1, PyData.depth, h2]
    rfl
  rw [s1]
  simp [PyData.eqv, eqv_int]
theorem eqv_St : ∀ (O : List St), PyData.eqvAll (O.map fun s => pyT (eSt s)) (O.map fun s => pyT (eSt s)) = true
  | [] => by simp [PyData.eqvAll]
  | s :: O => by
    have h3 : (allSt.all fun s => PyData.eqv (pyT (eSt s)) (pyT (eSt s))) = true := by decide +kernel
    rw [List.map_cons, PyData.eqvAll, eqv_St O, List.all_eq_true.mp h3 s (mem_allSt s)]
    rfl
theorem ne_Sts {K : List St} {m : Mem} : neDQ m (.tup (K.map eSt)) (.tup (K.map eSt)) = some (.bl false) := by
  obtain ⟨h1, h2⟩ := shape_St K
  unfold neDQ eqData
  simp only [toPy, toPys_St, Option.map_some]
  have s1 : SeqAt.shaped (.tuple (K.map fun s => pyT (eSt s))) = true := by
    unfold SeqAt.shaped
    rw [PyData.canLay0, h1, PyData.depth, Bool.true_and]
    exact decide_eq_true (by omega)
  rw [s1]
  simp [PyData.eqv, eqv_St]
theorem answer_right_eq (b : Bk) (w : Wo) (hd : MO) (hw : WOk w) (hb : ∀ s c k, (trans b s c).1 = some k → k < 63) : F__law_answer_right [eLB b, eMB b, eW w] [hd] = some (.bl true, [hd]) := by
  refine df_pure ?_ rfl
  unfold b__law_answer_right
  obtain ⟨K, U, L, hrun⟩ : ∃ K U L, lawRun (trans b) 60 0 (begun w) [] none (begun w) = (K, U, L) := ⟨_, _, _, rfl⟩
  have hdone := law_done (tr := trans b) (nd_begun w)
  rw [hrun] at hdone
  have hC := law_closed_eq b w hd hb hrun
  obtain ⟨U', hR, u1, u2⟩ := rules_reached_eq b w hd hw hb
  have hU : sortU U' = sortU U := sortU_eq u1 hdone.und fun k => (u2 k).trans (hdone.umem k).symm
  rw [hU] at hR
  obtain ⟨d, hA, hd2⟩ := always_right_eq b w hd hw hb
  rcases hd2 with ⟨K', rfl, k1, k2, k3⟩ | ⟨s0, s', w', ms, m, rfl, g1, g2, g3, g4, g5, g6⟩
  · have hK : sortK K' = sortK K := sortK_eq k1 hdone.nd fun s => (k2 s).trans (hdone.mem s).symm
    rw [hK] at hA
    have hL : L = none := by
      cases hL : L with
      | none => rfl
      | some l =>
        obtain ⟨_, ⟨s, h1, h2⟩, _⟩ := hdone.some_ l hL
        exact absurd h2 (k3 _ s h1)
    subst hL
    rw [sortK_map] at hA hC
    walk_at "ev"
    refine wq_i ne_ints ?_
    walk_at "ev"
    refine wq_i ne_Sts ?_
    walk_at "ev"
    refine ws_for (fun ds e mm => ∃ (l : List St) (e8 : Option D), ds = l.map eSt ∧ e = [some (eLB b), some (eMB b), some (eW w), some (eN none), some (.lst ((K.mergeSort leSt).map eSt)), some (.lst ((sortU U).map .int)), some (.ins 3 [.tup ((K.mergeSort leSt).map eSt)]), some (.tup ((sortU U).map .int)), e8, none] ∧ mm = [hd]) ?_ ?_ ?_
    · refine wa_itT ?_
      walk_at "ev"
      exact ⟨K.mergeSort leSt, none, rfl, rfl, rfl⟩
    · rintro d ds e mm ⟨l, e8, h1, rfl, rfl⟩
      cases l with
      | nil => cases h1
      | cons s l =>
        cases h1
        have one : ∀ (ds : List D) (QB : D → Mem → Prop) (de : Dm.Env), de[8]? = some (some (.tup ds)) → de.length = 10 → (∀ x ∈ ds.drop 1, ∃ y, x = .bl y) → QB (.lst []) [hd] →
            we (lcS [9] (itTS (cutS1 1 (vaS 8))) (nmG 9) (andT (bS (bin2 isnNQ (vaS 9) (cS (.bl true)))) (bS (bin2 isnNQ (vaS 9) (cS (.bl false))))) (vaS 9)) de [hd] QB := by
          intro ds QB de hde hlen hds q
          refine we_lc (n := 1) (fun is acc m => (∀ x ∈ is, ∃ y, x = .bl y) ∧ acc = [] ∧ m = [hd]) ?_ ?_ ?_
          · refine wa_itT (we_cut1 (we_va hde ⟨ds, rfl, _, rfl, ⟨hds, rfl, rfl⟩, rfl⟩))
          · rintro x is acc m hm ⟨h1, rfl, rfl⟩
            obtain ⟨y, rfl⟩ := h1 x List.mem_cons_self
            have h2 : ∀ x ∈ is, ∃ y, x = .bl y := fun x hx => h1 x (List.mem_cons_of_mem _ hx)
            refine wg_nm ?_
            have hv : ((wipeD de [9]).set 9 (some (D.bl y)))[9]? = some (some (.bl y)) := by
              have : 9 < (wipeD de [9]).length := by show 9 < (de.set 9 none).length; rw [List.length_set]; omega
              rw [List.getElem?_set_self this]
            refine wt_and (wt_bS (we_bin2 (we_va hv (we_c (wq_i rfl ⟨_, rfl, ?_⟩)))))
            cases y with
            | true => exact ⟨(fun z => by cases z), fun _ => ⟨[hd], rfl, rfl, (fun _ => ⟨h2, rfl, rfl⟩), fun z => by cases z⟩⟩
            | false =>
              refine ⟨fun _ => ?_, (fun z => by cases z)⟩
              refine wt_bS (we_bin2 (we_va hv (we_c (wq_i rfl ⟨_, rfl, ?_⟩))))
              exact ⟨[hd], rfl, rfl, (fun _ => ⟨h2, rfl, rfl⟩), fun z => by cases z⟩
          · rintro acc m hm ⟨_, rfl, rfl⟩
            exact q
        have hs : ∃ ds, eSt s = .tup ds ∧ ∀ x ∈ ds.drop 1, ∃ y, x = .bl y := by
          cases s with
          | I c => exact ⟨_, rfl, fun x hx => ⟨c, List.mem_singleton.mp hx⟩⟩
          | you c => exact ⟨_, rfl, fun x hx => ⟨c, List.mem_singleton.mp hx⟩⟩
          | name a c => exact ⟨_, rfl, fun x hx => by
              rcases List.mem_cons.mp hx with h | h
              · exact ⟨a, h⟩
              · exact ⟨c, List.mem_singleton.mp h⟩⟩
          | here => exact ⟨_, rfl, fun x hx => by cases hx⟩
          | place c => exact ⟨_, rfl, fun x hx => ⟨c, List.mem_singleton.mp hx⟩⟩
        obtain ⟨ds, e1, e2⟩ := hs
        rw [e1]
        refine wg_nm ?_
        refine ws_if ?_
        refine wt_or ?_
        walk_at "ev"
        refine one ds _ _ ?_ ?_ e2 ?_
        · rfl
        · rfl
        walk_at "ev"
        refine turn_nx' ⟨l, _, rfl, rfl, rfl⟩
    · rintro e mm ⟨l, e8, h1, rfl, rfl⟩
      walk_at "ev"
      exact ⟨rfl, rfl⟩
  · have hL : L = some (ms.length + 1) := by
      obtain ⟨s, h1, h2⟩ := g5
      cases hL : L with
      | none => exact absurd h2 (hdone.none_ hL _ s h1)
      | some l =>
        obtain ⟨q1, ⟨s2, q2, q3⟩, q4⟩ := hdone.some_ l hL
        have h3 := q4 _ s h1 h2
        have h4 := g6 _ s2 q2 q3
        congr 1
        omega
    subst hL
    have hWR := wrong_right_eq g2 g3 g4 [hd]
    walk_at "ev"
    refine wq_i ne_ints ?_
    walk_at "ev"
    exact ⟨rfl, rfl⟩
end T
/-! Pu15: what the hand gives. -/
namespace T
open PySem PySem.Spec PyProof.Rows L2 Dm
local macro_rules | `(tactic| walk_at "sp") => `(tactic| fail)
local macro_rules | `(tactic| walk_at "ev") => `(tactic| repeat (first
  | apply_rules -exfalso (transparency := .reducible) (maxDepth := 100000) only [ws_seq, nxt_nx, nxt_rt, ws_set, ws_if, ws_ret, ws_nx, ws_sto, we_c, we_bin2, wt_bS, wt_and, wa_nil, wa_cons, we_callQ, we_call, ex_bl]
  | (apply_rules -exfalso (transparency := .reducible) (maxDepth := 1) only [we_va]; exact rfl)
  | with_reducible refine wf_of (by assumption) ?_
  | walk_at "sp"
  | (apply_rules -exfalso (transparency := .reducible) (maxDepth := 1) only [wq_i]; exact rfl)))
theorem wq_mul {m : Mem} {i j : Int} {Q : D → Prop} (h : (-18446744073709551616 < i ∧ i < 18446744073709551616) ∨ (-18446744073709551616 < j ∧ j < 18446744073709551616)) (k : Q (.int (i * j))) : wq (mulQ m (.int i) (.int j)) Q := ⟨_, by
  unfold mulQ iiQ
  simp only
  rw [if_pos (decide_eq_true h)], k⟩
theorem wq_mod {m : Mem} {i j : Int} {Q : D → Prop} (h : 0 < j) (k : Q (.int (i % j))) : wq (modQ m (.int i) (.int j)) Q := ⟨_, by
  unfold modQ iiQ
  simp only
  rw [if_pos (decide_eq_true h)], k⟩
theorem wq_div {m : Mem} {i j : Int} {Q : D → Prop} (h : 0 < j ∧ j < 1152921504606846976) (k : Q (.int (i / j))) : wq (divQ m (.int i) (.int j)) Q := ⟨_, by
  unfold divQ iiQ
  simp only
  rw [if_pos (decide_eq_true h)], k⟩
local macro_rules | `(tactic| walk_at "sp") => `(tactic| first | ((with_reducible apply wq_mul); (focus (first | omega | decide))) | ((with_reducible apply wq_mod); (focus (first | omega | decide))) | ((with_reducible apply wq_div); (focus (first | omega | decide))))
theorem mixed_eq (n t : Int) (mu : Mem) : ∃ v, F__law_mixed [.int n, .int t] mu = some (.int v, mu) := by
  have h : ws b__law_mixed (startD 4 [.int n, .int t]) mu fun o _ m => ∃ v, o = .rt (.int v) ∧ m = mu := by
    unfold b__law_mixed
    apply ws_then
    · walk_at "ev"
      exact ⟨rfl, rfl, rfl⟩
    have h1 : 0 ≤ (n * 48271 + t * 7919 + 12345) % 2147483647 := Int.emod_nonneg _ (by decide)
    have h2 : (n * 48271 + t * 7919 + 12345) % 2147483647 < 2147483647 := Int.emod_lt_of_pos _ (by decide)
    generalize (n * 48271 + t * 7919 + 12345) % 2147483647 = a at h1 h2
    walk_at "ev"
    exact ⟨_, rfl, rfl⟩
  obtain ⟨o, e, m, h1, v, rfl, rfl⟩ := h
  exact ⟨v, df_pure ⟨_, e, _, h1, rfl, rfl⟩ rfl⟩
def IsHand (h : MO) : Prop := ∃ (cells : List Int) (i r t : Int), h = .lst [.lst (cells.map .int), .int i, .int r, .int t] ∧ 0 ≤ i
theorem wf_H {N : Nat} {b : SS} {ds : List D} {h : MO} {rest : Mem} {Q : D → Mem → Prop} (hh : ws b (startD N ds) (h :: rest) fun o _ m => ∃ d h' l, o = .rt d ∧ m = (h' :: rest) ++ l ∧ isMut d = false ∧ Q d (h' :: rest)) : wf (defD N b) ds (h :: rest) Q := by
  obtain ⟨o, e, m, e1, d, h', l, rfl, rfl, nm, k⟩ := hh
  exact ⟨d, h' :: rest, df_tail (m1 := h' :: rest) (l := l) ⟨_, e, _, e1, rfl, rfl⟩ rfl nm, k⟩
theorem ix_cells {m : Mem} {cells : List Int} {i : Int} (h0 : 0 ≤ i) (h1 : i < (cells.map D.int).length) : ∃ c, ixQ m (.lst (cells.map .int)) (.int i) = some (.int c) := by
  rw [List.length_map] at h1
  obtain ⟨n, rfl⟩ : ∃ n : Nat, i = (n : Nat) := ⟨i.toNat, by omega⟩
  have hi : n < cells.length := by omega
  refine ⟨cells[n], ?_⟩
  show atI _ _ = _
  refine atI_nat ?_
  rw [List.getElem?_map, List.getElem?_eq_getElem hi]
  rfl
theorem take_wp {h : MO} {rest : Mem} {m : Int} {Q : D → Mem → Prop} (hh : IsHand h) (m0 : 0 < m) (m1 : m < 1152921504606846976) (k : ∀ v h', IsHand h' → 0 ≤ v → v < m → Q (.int v) (h' :: rest)) : wf F__law_take [.loc 0, .int m] (h :: rest) Q := by
  obtain ⟨cells, i, r, t, rfl, hi⟩ := hh
  have fin : ∀ x i r t, 0 ≤ i → Q (.int (x % m)) (.lst [.lst (cells.map .int), .int i, .int r, .int t] :: rest) := fun x i r t hi => k _ _ ⟨cells, i, r, t, rfl, hi⟩ (Int.emod_nonneg _ (by omega)) (Int.emod_lt_of_pos _ m0)
  refine wf_H ?_
  unfold b__law_take
  -- behind the first test
  have part2 : ∀ (i r t : Int) (de : Dm.Env) (e2 e3 : Option D), 0 ≤ i → de = [some (.loc 0), some (.int m), e2, e3] → ws (seqS (iffS (bS (bin2 gtQ (bin2 ixQ (vaS 0) (cS (.int 2))) (cS (.int 0)))) (seqS (setS 3 (bin2 ixQ (vaS 0) (cS (.int 2))))
      (seqS (stoS (vaS 0) (cS (.int 2)) (bin2 divQ (callQ intQ (consA (vaS 3) nilA)) (vaS 1)))
      (retS (bin2 modQ (callQ intQ (consA (vaS 3) nilA)) (vaS 1))))) nxS)
      (seqS (stoS (vaS 0) (cS (.int 3)) (bin2 modQ (callQ intQ (consA (bin2 addQ (bin2 ixQ (vaS 0) (cS (.int 3))) (cS (.int 1))) nilA)) (cS (.int 2147483629))))
      (retS (bin2 modQ (callQ intQ (consA (callF F__law_mixed (consA (bin2 ixQ (vaS 0) (cS (.int 3))) (consA (bin2 ixQ (vaS 0) (cS (.int 1))) nilA))) nilA)) (vaS 1)))))
      de (.lst [.lst (cells.map .int), .int i, .int r, .int t] :: rest) fun o _ mm => ∃ d h' l, o = .rt d ∧ mm = (h' :: rest) ++ l ∧ isMut d = false ∧ Q d (h' :: rest) := by
    rintro i r t de e2 e3 hi rfl
    walk_at "ev"
    refine ⟨fun hc => ?_, fun hc => ?_⟩
    · walk_at "ev"
      refine ⟨0, 2, _, 2, rfl, rfl, rfl, rfl, rfl, ?_⟩
      walk_at "ev"
      exact ⟨_, _, [], rfl, (List.append_nil _).symm, rfl, fin _ _ _ _ hi⟩
    · walk_at "ev"
      refine ⟨0, 3, _, 3, rfl, rfl, rfl, rfl, rfl, ?_⟩
      obtain ⟨v, hv⟩ := mixed_eq ((t + 1) % 2147483629) i (.lst [.lst (cells.map .int), .int i, .int r, .int ((t + 1) % 2147483629)] :: rest)
      walk_at "ev"
      refine wf_of hv ?_
      walk_at "ev"
      exact ⟨_, _, [], rfl, (List.append_nil _).symm, rfl, fin _ _ _ _ hi⟩
  refine ws_seq ?_
  walk_at "ev"
  refine ⟨fun hc => ?_, fun hc => ?_⟩
  · walk_at "ev"
    refine ⟨fun hc2 => ?_, fun hc2 => ?_⟩
    · have h2 := of_decide_eq_true hc2
      obtain ⟨c, hx⟩ := ix_cells (m := .lst [.lst (cells.map .int), .int i, .int r, .int t] :: rest) hi h2
      walk_at "ev"
      refine wq_i hx ?_
      walk_at "ev"
      refine ⟨0, 1, _, 1, rfl, rfl, rfl, rfl, rfl, ?_⟩
      walk_at "ev"
      refine ⟨fun hc3 => ?_, fun hc3 => ?_⟩
      · obtain ⟨v, hv⟩ := mixed_eq (c % 2147483647) (i + 1) (.lst [.lst (cells.map .int), .int (i + 1), .int r, .int t] :: rest)
        walk_at "ev"
        refine wf_of hv ?_
        walk_at "ev"
        exact ⟨_, _, [], rfl, (List.append_nil _).symm, rfl, fin _ _ _ _ (by omega)⟩
      · walk_at "ev"
        refine ⟨0, 2, _, 2, rfl, rfl, rfl, rfl, rfl, ?_⟩
        refine nxt_nx ?_
        exact part2 (i + 1) c t _ _ _ (by omega) rfl
    · refine ws_nx ?_
      refine nxt_nx ?_
      exact part2 i r t _ _ _ hi rfl
  · refine ⟨(fun z => by cases z), fun _ => ?_⟩
    refine ws_nx ?_
    refine nxt_nx ?_
    exact part2 i r t _ _ _ hi rfl
local macro_rules | `(tactic| walk_at "sp") => `(tactic| ((with_reducible apply take_wp); (focus assumption); (focus (first | omega | decide)); (focus (first | omega | decide)); intro _ _ _ _ _))
end T
/-! Pu16: the rules that the hand gives. -/
namespace T
open PySem PySem.Spec PyProof.Rows L2 Dm
local macro_rules | `(tactic| walk_at "sp") => `(tactic| fail)
local macro_rules | `(tactic| walk_at "ev") => `(tactic| repeat (first
  | apply_rules -exfalso (transparency := .reducible) (maxDepth := 100000) only [ws_seq, nxt_nx, nxt_rt, ws_set, ws_if, ws_ret, ws_nx, ws_asg, we_c, we_bin2, we_neg, wt_bS, wt_tr, wt_and, we_if, wa_nil, wa_cons, we_tup, we_lst, we_callQ, we_call, wg_nm, wgs_nil, wgs_cons, ex_bl, ex_int]
  | (apply_rules -exfalso (transparency := .reducible) (maxDepth := 1) only [we_va]; exact rfl)
  | (apply_rules -exfalso (transparency := .reducible) (maxDepth := 1) only [ok_and]; first | rfl | focus (simp [okItems]; done) | focus (simp [okItems, *]; done))
  | with_reducible refine wg_tup rfl ?_
  | with_reducible refine wf_of (by assumption) ?_
  | walk_at "sp"
  | (((with_reducible apply take_wp); (focus assumption); (focus (first | omega | decide)); (focus (first | omega | decide)); intro _ _ _ _ _))
  | (apply_rules -exfalso (transparency := .reducible) (maxDepth := 1) only [wq_i]; exact rfl)
  | (apply_rules -exfalso (transparency := .reducible) (maxDepth := 1) only [br_t]; first | assumption | decide +kernel | rfl)
  | (apply_rules -exfalso (transparency := .reducible) (maxDepth := 1) only [br_f]; first | assumption | decide +kernel | rfl)))
theorem wq_max {m : Mem} {i j : Int} {Q : D → Prop} (k : ∀ x, (x = i ∨ x = j) → i ≤ x → j ≤ x → Q (.int x)) : wq (maxQ m [.int i, .int j]) Q := ⟨.int (if j > i then j else i), rfl, by
  split
  · exact k j (.inr rfl) (by omega) (by omega)
  · exact k i (.inl rfl) (by omega) (by omega)⟩
theorem wq_min {m : Mem} {i j : Int} {Q : D → Prop} (k : ∀ x, (x = i ∨ x = j) → x ≤ i → x ≤ j → Q (.int x)) : wq (minQ m [.int i, .int j]) Q := ⟨.int (if j < i then j else i), rfl, by
  split
  · exact k j (.inr rfl) (by omega) (by omega)
  · exact k i (.inl rfl) (by omega) (by omega)⟩
local macro_rules | `(tactic| walk_at "sp") => `(tactic| first | ((with_reducible apply wq_max); intro _ _ _ _) | ((with_reducible apply wq_min); intro _ _ _ _))
theorem ix_list {α : Type} {f : α → D} {m : Mem} {l : List α} {v : Int} (h0 : 0 ≤ v) (h1 : v < (l.length : Nat)) : ∃ z ∈ l, ixQ m (.lst (l.map f)) (.int v) = some (f z) := by
  obtain ⟨n, rfl⟩ : ∃ n : Nat, v = (n : Nat) := ⟨v.toNat, by omega⟩
  have hi : n < l.length := by omega
  refine ⟨l[n], List.getElem_mem hi, ?_⟩
  show atI _ _ = _
  refine atI_nat ?_
  rw [List.getElem?_map, List.getElem?_eq_getElem hi]
  rfl
theorem ws_bind {s1 s2 : SS} {de : Dm.Env} {mu : Mem} {Q R : Out → Dm.Env → Mem → Prop} (h : ws s1 de mu R) (k : ∀ o e m, R o e m → nxt s2 Q o e m) : ws (seqS s1 s2) de mu Q := by
  obtain ⟨o, e, m, h1, h2⟩ := h
  exact ws_seq ⟨o, e, m, h1, k o e m h2⟩
def eI : Option Int → D
  | none => .non
  | some x => .int x
@[simp] theorem mut_eI (o : Option Int) : isMut (eI o) = false := by cases o <;> rfl
def daySorts : List Str := ["today", "coming", "last", "date"]
def dayActs : List Str := ["keep", "move", "date", "coming", "last", "weekday"]
def ActOk (a : D) : Prop := (∃ n : Int, a = .int n ∧ 0 ≤ n ∧ n ≤ 9) ∨ ∃ z, a = .str z ∧ z ∈ dayActs
structure DayB (s : Str) (lo hi le : Int) (mo : Option Int) (a : D) : Prop where
  f1 : s ∈ daySorts
  f2 : -9 ≤ lo
  f3 : lo ≤ hi
  f4 : hi ≤ 9
  f5 : 0 ≤ le
  f6 : le ≤ 9
  f7 : ∀ x, mo = some x → le ≤ x ∧ x ≤ 9
  f8 : ActOk a
def DayOk (d : D) : Prop := ∃ s lo hi le mo a, d = .tup [.str s, .int lo, .int hi, .int le, eI mo, a] ∧ DayB s lo hi le mo a
theorem ActOk.mut {a : D} (h : ActOk a) : isMut a = false := by
  rcases h with ⟨n, rfl, _⟩ | ⟨z, rfl, _⟩ <;> rfl
section
variable {h : MO} {rest : Mem} {Q : D → Mem → Prop}
theorem span_wp {lo hi : Int} (hh : IsHand h) (h1 : lo ≤ hi) (h2 : hi - lo < 1000) (k : ∀ x y h', IsHand h' → lo ≤ x → x ≤ y → y ≤ hi → Q (.tup [.int x, .int y]) (h' :: rest)) : wf F__law_span [.loc 0, .int lo, .int hi] (h :: rest) Q := by
  refine wf_H ?_
  unfold b__law_span
  walk_at "ev"
  exact ⟨_, _, [], rfl, (List.append_nil _).symm, rfl, k _ _ _ (by assumption) (by omega) (by omega) (by omega)⟩
theorem reach_wp (hh : IsHand h) (k : ∀ x y h', IsHand h' → -9 ≤ x → x ≤ y → y ≤ 9 → Q (.tup [.int x, .int y]) (h' :: rest)) : wf F__law_reach [.loc 0] (h :: rest) Q := by
  refine wf_H ?_
  unfold b__law_reach
  walk_at "ev"
  refine ⟨fun _ => ?_, fun _ => ?_⟩
  · walk_at "ev"
    exact ⟨_, _, [], rfl, (List.append_nil _).symm, rfl, k _ _ _ (by assumption) (by omega) (by omega) (by omega)⟩
  · walk_at "ev"
    refine span_wp (by assumption) (by omega) (by omega) fun x y h' hh' a1 a2 a3 => ?_
    exact ⟨_, _, [], rfl, (List.append_nil _).symm, rfl, k _ _ _ hh' (by omega) (by omega) (by omega)⟩
theorem any_wp {s : Str} (hs : s ∈ daySorts) (hh : IsHand h) (k : ∀ d h', IsHand h' → DayOk d → Q d (h' :: rest)) : wf F__law_any_rule [.loc 0, .str s] (h :: rest) Q := by
  refine wf_H ?_
  unfold b__law_any_rule
  have tl : ∀ (x y le mo : Int) (h : MO) (de : Dm.Env), IsHand h → -9 ≤ x → x ≤ y → y ≤ 9 → 0 ≤ le → le ≤ mo → mo ≤ 9 → de = [some (.loc 0), some (.str s), some (.int x), some (.int y), some (.int le), some (.int mo), none, none] →
      ws (seqS (setS 6 (callF F__law_take (consA (vaS 0) (consA (cS (.int 7)) nilA))))
      (seqS (setS 7 (ifS (bS (bin2 eqQ (vaS 6) (cS (.int 6)))) (callF F__law_take (consA (vaS 0) (consA (cS (.int 10)) nilA))) (bin2 ixQ (lstS (consA (cS (.str "keep")) (consA (cS (.str "move")) (consA (cS (.str "date")) (consA (cS (.str "coming")) (consA (cS (.str "last")) (consA (cS (.str "weekday")) nilA))))))) (vaS 6))))
      (retS (tupS (consA (vaS 1) (consA (vaS 2) (consA (vaS 3) (consA (vaS 4) (consA (ifS (bS (bin2 eqQ (callF F__law_take (consA (vaS 0) (consA (cS (.int 2)) nilA))) (cS (.int 0)))) (cS .non) (vaS 5)) (consA (vaS 7) nilA))))))))))
      de (h :: rest) fun o _ m => ∃ d h' l, o = .rt d ∧ m = (h' :: rest) ++ l ∧ isMut d = false ∧ Q d (h' :: rest) := by
    rintro x y le mo h de hh a1 a2 a3 a4 a5 a6 rfl
    have fin : ∀ (a : D) (mm : Option Int) (h' : MO), IsHand h' → ActOk a → (∀ z, mm = some z → z = mo) → Q (.tup [.str s, .int x, .int y, .int le, eI mm, a]) (h' :: rest) := fun a mm h' hh' ha hm => k _ _ hh' ⟨s, x, y, le, mm, a, rfl, hs, a1, a2, a3, a4, by omega, fun z hz => by rw [hm z hz]; exact ⟨a5, a6⟩, ha⟩
    walk_at "ev"
    refine ⟨fun hc => ?_, fun hc => ?_⟩
    · walk_at "ev"
      refine ⟨fun _ => ?_, fun _ => ?_⟩
      · walk_at "ev"
        exact ⟨_, _, [], rfl, (List.append_nil _).symm, rfl, fin _ none _ (by assumption) (.inl ⟨_, rfl, by omega, by omega⟩) (fun z hz => by cases hz)⟩
      · walk_at "ev"
        exact ⟨_, _, [], rfl, (List.append_nil _).symm, rfl, fin _ (some mo) _ (by assumption) (.inl ⟨_, rfl, by omega, by omega⟩) (fun z hz => (Option.some.inj hz).symm)⟩
    · have hc := of_decide_eq_false hc
      walk_at "ev"
      obtain ⟨z, hz, hx⟩ := ix_list (f := D.str) (m := _ :: rest) (l := dayActs) (by assumption) (by
        show _ < ((6 : Nat) : Int)
        omega)
      refine wq_i hx ?_
      walk_at "ev"
      refine ⟨fun _ => ?_, fun _ => ?_⟩
      · walk_at "ev"
        exact ⟨_, _, [], rfl, (List.append_nil _).symm, rfl, fin _ none _ (by assumption) (.inr ⟨z, rfl, hz⟩) (fun z hz => by cases hz)⟩
      · walk_at "ev"
        exact ⟨_, _, [], rfl, (List.append_nil _).symm, rfl, fin _ (some mo) _ (by assumption) (.inr ⟨z, rfl, hz⟩) (fun z hz => (Option.some.inj hz).symm)⟩
  walk_at "ev"
  refine reach_wp hh fun x y h1 hh1 a1 a2 a3 => ?_
  walk_at "ev"
  refine ⟨fun _ => ?_, fun _ => ?_⟩
  · walk_at "ev"
    refine span_wp (by assumption) (by omega) (by omega) fun le mo h2 hh2 b1 b2 b3 => ?_
    refine wg_tup rfl (wgs_cons (wg_nm (wgs_cons (wg_nm (wgs_nil ?_)))))
    refine nxt_nx ?_
    exact tl x y le mo h2 _ hh2 a1 a2 a3 (by omega) b2 (by omega) rfl
  · walk_at "ev"
    refine span_wp (by assumption) (by omega) (by omega) fun le mo h2 hh2 b1 b2 b3 => ?_
    refine wg_tup rfl (wgs_cons (wg_nm (wgs_cons (wg_nm (wgs_nil ?_)))))
    refine nxt_nx ?_
    exact tl x y le mo h2 _ hh2 a1 a2 a3 (by omega) b2 (by omega) rfl
theorem act_keep : ActOk (.str "keep") := .inr ⟨_, rfl, by decide⟩
theorem act_coming : ActOk (.str "coming") := .inr ⟨_, rfl, by decide⟩
theorem act_last : ActOk (.str "last") := .inr ⟨_, rfl, by decide⟩
theorem kept_wp {s : Str} (hs : s ∈ daySorts) (hh : IsHand h) (k : ∀ d h', IsHand h' → DayOk d → Q d (h' :: rest)) : wf F__law_kept_rule [.loc 0, .str s] (h :: rest) Q := by
  refine wf_H ?_
  unfold b__law_kept_rule
  have hs0 := hs
  simp only [daySorts, List.mem_cons, List.not_mem_nil, or_false] at hs
  rcases hs with rfl | rfl | rfl | rfl
  · walk_at "ev"
    refine reach_wp hh fun x y h1 hh1 a1 a2 a3 => ?_
    walk_at "ev"
    exact ⟨_, _, [], rfl, (List.append_nil _).symm, rfl, k _ _ (by assumption) ⟨_, x, y, 0, some 0, _, rfl, hs0, a1, a2, a3, by omega, by omega, fun z hz => by cases hz; omega, act_keep⟩⟩
  · walk_at "ev"
    refine ⟨_, _, [], rfl, (List.append_nil _).symm, rfl, k _ _ (by assumption) ⟨_, _, _, _, some _, _, rfl, hs0, ?_, ?_, ?_, ?_, ?_, (fun z hz => by cases hz; omega), act_keep⟩⟩ <;> omega
  · walk_at "ev"
    refine ⟨_, _, [], rfl, (List.append_nil _).symm, rfl, k _ _ (by assumption) ⟨_, _, _, _, some _, _, rfl, hs0, ?_, ?_, ?_, ?_, ?_, (fun z hz => by cases hz; omega), act_keep⟩⟩ <;> omega
  · walk_at "ev"
    refine reach_wp hh fun x y h1 hh1 a1 a2 a3 => ?_
    walk_at "ev"
    refine ⟨_, _, [], rfl, (List.append_nil _).symm, rfl, k _ _ (by assumption) ⟨_, x, y, _, none, _, rfl, hs0, a1, a2, a3, ?_, ?_, (fun z hz => by cases hz), act_keep⟩⟩ <;> omega
theorem weekday_wp {s a : Str} (hs : s ∈ daySorts) (ha : a ∈ (["coming", "last"] : List Str)) (hh : IsHand h) (k : ∀ d h', IsHand h' → DayOk d → Q d (h' :: rest)) : wf F__law_weekday_rule [.loc 0, .str s, .str a] (h :: rest) Q := by
  refine wf_H ?_
  unfold b__law_weekday_rule
  simp only [List.mem_cons, List.not_mem_nil, or_false] at ha
  rcases ha with rfl | rfl
  · walk_at "ev"
    refine ⟨_, _, [], rfl, (List.append_nil _).symm, rfl, k _ _ (by assumption) ⟨_, _, _, _, some _, _, rfl, hs, ?_, ?_, ?_, ?_, ?_, (fun z hz => by cases hz; omega), act_coming⟩⟩ <;> omega
  · walk_at "ev"
    refine ⟨_, _, [], rfl, (List.append_nil _).symm, rfl, k _ _ (by assumption) ⟨_, _, _, _, some _, _, rfl, hs, ?_, ?_, ?_, ?_, ?_, (fun z hz => by cases hz; omega), act_last⟩⟩ <;> omega
theorem bent_wp {d : D} (hd : DayOk d) (hh : IsHand h) (k : ∀ d h', IsHand h' → DayOk d → Q d (h' :: rest)) : wf F__law_bent [.loc 0, d] (h :: rest) Q := by
  refine wf_H ?_
  unfold b__law_bent
  obtain ⟨s, lo, hi, le, mo, a, rfl, B⟩ := hd
  have hm := B.f8.mut
  have b1 := B.f2
  have b2 := B.f3
  have b3 := B.f4
  have b4 := B.f5
  have b5 := B.f6
  apply ws_then
  · walk_at "ev"
    exact ⟨rfl, rfl, rfl⟩
  refine ws_seq (ws_set (we_call (wa_cons (we_va rfl (wa_cons (we_c (wa_nil ?_)))))))
  refine take_wp hh (by omega) (by omega) fun v h1 hh1 v0 v1 => ?_
  refine nxt_nx ?_
  have hv : v = 0 ∨ v = 1 ∨ v = 2 ∨ v = 3 := by omega
  cases mo with
  | none =>
    rcases hv with rfl | rfl | rfl | rfl
    · walk_at "ev"
      refine ⟨_, _, [], rfl, (List.append_nil _).symm, rfl, k _ _ hh1 ⟨s, _, _, _, none, a, rfl, B.f1, ?_, ?_, ?_, ?_, ?_, (fun z hz => by cases hz), B.f8⟩⟩ <;> omega
    · walk_at "ev"
      refine ⟨_, _, [], rfl, (List.append_nil _).symm, rfl, k _ _ hh1 ⟨s, _, _, _, none, a, rfl, B.f1, ?_, ?_, ?_, ?_, ?_, (fun z hz => by cases hz), B.f8⟩⟩ <;> omega
    · walk_at "ev"
      refine ⟨_, _, [], rfl, (List.append_nil _).symm, rfl, k _ _ hh1 ⟨s, _, _, _, none, a, rfl, B.f1, ?_, ?_, ?_, ?_, ?_, (fun z hz => by cases hz), B.f8⟩⟩ <;> omega
    · walk_at "ev"
      refine ⟨_, _, [], rfl, (List.append_nil _).symm, rfl, k _ _ hh1 ⟨s, _, _, _, none, a, rfl, B.f1, ?_, ?_, ?_, ?_, ?_, (fun z hz => by cases hz), B.f8⟩⟩ <;> omega
  | some x =>
    obtain ⟨b6, b7⟩ := B.f7 x rfl
    rcases hv with rfl | rfl | rfl | rfl
    · walk_at "ev"
      refine ⟨_, _, [], rfl, (List.append_nil _).symm, rfl, k _ _ hh1 ⟨s, _, _, _, some x, a, rfl, B.f1, ?_, ?_, ?_, ?_, ?_, (fun z hz => by cases hz; omega), B.f8⟩⟩ <;> omega
    · walk_at "ev"
      refine ⟨_, _, [], rfl, (List.append_nil _).symm, rfl, k _ _ hh1 ⟨s, _, _, _, some x, a, rfl, B.f1, ?_, ?_, ?_, ?_, ?_, (fun z hz => by cases hz; omega), B.f8⟩⟩ <;> omega
    · walk_at "ev"
      refine ⟨_, _, [], rfl, (List.append_nil _).symm, rfl, k _ _ hh1 ⟨s, _, _, _, some x, a, rfl, B.f1, ?_, ?_, ?_, ?_, ?_, (fun z hz => by cases hz; omega), B.f8⟩⟩ <;> omega
    · walk_at "ev"
      refine ⟨_, _, [], rfl, (List.append_nil _).symm, rfl, k _ _ hh1 ⟨s, _, _, _, some _, a, rfl, B.f1, ?_, ?_, ?_, ?_, ?_, (fun z hz => by cases hz; omega), B.f8⟩⟩ <;> omega
end
end T
/-! Pu17: rules and the law's book. -/
namespace T
open PySem PySem.Spec PyProof.Rows L2 Dm
local macro_rules | `(tactic| walk_at "ev") => `(tactic| repeat (first
  | apply_rules -exfalso (transparency := .reducible) (maxDepth := 100000) only [ws_seq, nxt_nx, ws_set, ws_if, ws_ret, ws_nx, ws_asg, we_c, we_bin2, wt_bS, wt_tr, wt_and, wt_or, we_if, wa_nil, wa_cons, we_tup, we_lst, we_call, wg_nm, wgs_nil, wgs_cons, ex_bl]
  | (apply_rules -exfalso (transparency := .reducible) (maxDepth := 1) only [we_va]; exact rfl)
  | (apply_rules -exfalso (transparency := .reducible) (maxDepth := 1) only [ok_and]; first | rfl | focus (simp [okItems]; done) | focus (simp [okItems, *]; done))
  | with_reducible refine wg_tup rfl ?_
  | with_reducible refine wf_of (by assumption) ?_
  | (((with_reducible apply take_wp); (focus assumption); (focus (first | omega | decide)); (focus (first | omega | decide)); intro _ _ _ _ _))
  | (apply_rules -exfalso (transparency := .reducible) (maxDepth := 1) only [wq_i]; exact rfl)
  | (apply_rules -exfalso (transparency := .reducible) (maxDepth := 1) only [br_t]; first | assumption | decide +kernel | rfl)
  | (apply_rules -exfalso (transparency := .reducible) (maxDepth := 1) only [br_f]; first | assumption | decide +kernel | rfl)
  | (apply_rules -exfalso (transparency := .reducible) (maxDepth := 1) only [rb_t]; first | assumption | decide +kernel | rfl)
  | (apply_rules -exfalso (transparency := .reducible) (maxDepth := 1) only [rb_f]; first | assumption | decide +kernel | rfl)))
section
variable {h : MO} {rest : Mem} {Q : D → Mem → Prop}
theorem act_move : ActOk (.str "move") := .inr ⟨_, rfl, by decide⟩
theorem act_weekday : ActOk (.str "weekday") := .inr ⟨_, rfl, by decide⟩
theorem day_rule_wp (hh : IsHand h) (k : ∀ d h', IsHand h' → DayOk d → Q d (h' :: rest)) : wf F__law_day_rule [.loc 0] (h :: rest) Q := by
  refine wf_H ?_
  unfold b__law_day_rule
  have tl : ∀ (de : Dm.Env) (s x y g r : Option D) (d : D) (w : Option D) (h : MO), IsHand h → DayOk d → de = [some (.loc 0), s, w, x, y, some d, g] →
      ws (retS (ifS (bS (bin2 eqQ (callF F__law_take (consA (vaS 0) (consA (cS (.int 3)) nilA))) (cS (.int 0)))) (callF F__law_bent (consA (vaS 0) (consA (vaS 5) nilA))) (vaS 5)))
      de (h :: rest) fun o _ m => ∃ d h' l, o = .rt d ∧ m = (h' :: rest) ++ l ∧ isMut d = false ∧ Q d (h' :: rest) := by
    rintro de s x y g r d w h hh hd rfl
    have hm : isMut d = false := by
      obtain ⟨s, lo, hi, le, mo, a, rfl, B⟩ := hd
      rfl
    walk_at "ev"
    refine ⟨fun _ => ?_, fun _ => ?_⟩
    · walk_at "ev"
      refine bent_wp hd (by assumption) fun d' h' hh' hd' => ?_
      refine ⟨_, _, [], rfl, (List.append_nil _).symm, ?_, k _ _ hh' hd'⟩
      obtain ⟨s, lo, hi, le, mo, a, rfl, B⟩ := hd'
      rfl
    · walk_at "ev"
      exact ⟨_, _, [], rfl, (List.append_nil _).symm, hm, k _ _ (by assumption) hd⟩
  walk_at "ev"
  obtain ⟨s, hs, hx⟩ := ix_list (f := D.str) (m := _ :: rest) (l := ["today", "today", "coming", "last", "date"]) (by assumption) (by
    show _ < ((5 : Nat) : Int)
    omega)
  refine wq_i hx ?_
  have hs : s ∈ daySorts := by
    simp only [daySorts, List.mem_cons, List.not_mem_nil, or_false] at hs ⊢
    rcases hs with h | h | h | h | h <;> simp [h]
  clear hx
  refine nxt_nx ?_
  refine ws_seq (ws_set (we_call (wa_cons (we_va rfl (wa_cons (we_c (wa_nil ?_)))))))
  refine take_wp (by assumption) (by omega) (by omega) fun v h1 hh1 v0 v1 => ?_
  refine nxt_nx ?_
  have hv : (v = 0 ∨ v = 8) ∨ (v = 1 ∨ v = 2 ∨ v = 3) ∨ (v = 4 ∨ v = 5) ∨ v = 6 ∨ v = 7 := by omega
  rcases hv with hv | hv
  · rcases hv with rfl | rfl
    · walk_at "ev"
      refine any_wp hs hh1 fun d h' hh' hd => ?_
      refine ⟨_, _, [], rfl, (List.append_nil _).symm, ?_, k _ _ hh' hd⟩
      obtain ⟨s, lo, hi, le, mo, a, rfl, B⟩ := hd
      rfl
    · walk_at "ev"
      refine any_wp hs hh1 fun d h' hh' hd => ?_
      refine ⟨_, _, [], rfl, (List.append_nil _).symm, ?_, k _ _ hh' hd⟩
      obtain ⟨s, lo, hi, le, mo, a, rfl, B⟩ := hd
      rfl
  · have e0 : decide (v = 0) = false := decide_eq_false (by omega)
    have e8 : decide (v = 8) = false := decide_eq_false (by omega)
    apply ws_then
    · walk_at "ev"
      exact ⟨rfl, rfl, rfl⟩
    refine ws_seq (ws_asg (we_call (wa_cons (we_va rfl (wa_nil ?_)))))
    refine reach_wp hh1 fun x y h2 hh2 a1 a2 a3 => ?_
    refine wg_tup rfl (wgs_cons (wg_nm (wgs_cons (wg_nm (wgs_nil ?_)))))
    refine nxt_nx ?_
    refine ws_seq (ws_set ?_)
    walk_at "ev"
    obtain ⟨a, ha, hx⟩ := ix_list (f := D.str) (m := _ :: rest) (l := ["move", "weekday"]) (by assumption) (by
      show _ < ((2 : Nat) : Int)
      omega)
    refine wq_i hx ?_
    have ha : ActOk (.str a) := by
      simp only [List.mem_cons, List.not_mem_nil, or_false] at ha
      rcases ha with rfl | rfl
      · exact act_move
      · exact act_weekday
    clear hx
    refine wa_nil ?_
    refine ok_and rfl ?_
    refine nxt_nx ?_
    rcases hv with hv | hv | hv | hv
    · have e1 : decide (v < 4) = true := decide_eq_true (by omega)
      have e2 : decide (v = 4) = false := decide_eq_false (by omega)
      have e3 : decide (v = 5) = false := decide_eq_false (by omega)
      have e4 : decide (v = 6) = false := decide_eq_false (by omega)
      walk_at "ev"
      obtain ⟨b, hb, hx⟩ := ix_list (f := D.str) (m := _ :: rest) (l := ["coming", "last"]) (by assumption) (by
        show _ < ((2 : Nat) : Int)
        omega)
      refine wq_i hx ?_
      walk_at "ev"
      refine weekday_wp hs hb (by assumption) fun d h' hh' hd => ?_
      refine nxt_nx ?_
      apply ws_then
      · walk_at "ev"
        exact ⟨rfl, rfl, rfl⟩
      apply ws_then
      · walk_at "ev"
        exact ⟨rfl, rfl, rfl⟩
      exact tl _ _ _ _ _ none _ _ _ hh' hd rfl
    · have e1 : decide (v < 4) = false := decide_eq_false (by omega)
      have e4 : decide (v = 6) = false := decide_eq_false (by omega)
      apply ws_then
      · walk_at "ev"
        exact ⟨rfl, rfl, rfl⟩
      rcases hv with rfl | rfl
      · walk_at "ev"
        refine kept_wp hs (by assumption) fun d h' hh' hd => ?_
        refine nxt_nx ?_
        apply ws_then
        · walk_at "ev"
          exact ⟨rfl, rfl, rfl⟩
        exact tl _ _ _ _ _ none _ _ _ hh' hd rfl
      · walk_at "ev"
        refine kept_wp hs (by assumption) fun d h' hh' hd => ?_
        refine nxt_nx ?_
        apply ws_then
        · walk_at "ev"
          exact ⟨rfl, rfl, rfl⟩
        exact tl _ _ _ _ _ none _ _ _ hh' hd rfl
    · subst hv
      apply ws_then
      · walk_at "ev"
        exact ⟨rfl, rfl, rfl⟩
      apply ws_then
      · walk_at "ev"
        exact ⟨rfl, rfl, rfl⟩
      refine ws_seq ?_
      refine ws_if (wt_bS (we_bin2 (we_va rfl (we_c (wq_i rfl ⟨_, rfl, fun _ => ?_, (fun z => by cases z)⟩)))))
      refine ws_seq (ws_set (we_call (wa_cons (we_va rfl (wa_cons (we_c (wa_nil ?_)))))))
      refine take_wp (by assumption) (by omega) (by omega) fun u h' hh' u0 u1 => ?_
      refine nxt_nx ?_
      refine ws_set (we_tup (wa_cons (we_va rfl (wa_cons (we_va rfl (wa_cons (we_va rfl (wa_cons (we_va rfl (wa_cons (we_va rfl (wa_cons (we_va rfl (wa_nil ?_))))))))))))))
      refine ok_and rfl ?_
      refine nxt_nx ?_
      refine tl _ _ _ _ _ none _ _ _ hh' ⟨s, x, y, u, some u, .int u, rfl, hs, a1, a2, a3, by omega, by omega, (fun z hz => by cases hz; omega), .inl ⟨u, rfl, by omega, by omega⟩⟩ rfl
    · subst hv
      apply ws_then
      · walk_at "ev"
        exact ⟨rfl, rfl, rfl⟩
      apply ws_then
      · walk_at "ev"
        exact ⟨rfl, rfl, rfl⟩
      apply ws_then
      · walk_at "ev"
        exact ⟨rfl, rfl, rfl⟩
      refine tl _ _ _ _ _ none _ _ _ (by assumption) ⟨s, x, y, _, none, .str a, rfl, hs, a1, a2, a3, by assumption, ?_, (fun z hz => by cases hz), ha⟩ rfl
      omega
theorem person_rule_wp (hh : IsHand h) (k : ∀ r h', IsHand h' → Q (ePR r) (h' :: rest)) : wf F__law_person_rule [.loc 0] (h :: rest) Q := by
  refine wf_H ?_
  unfold b__law_person_rule
  walk_at "ev"
  obtain ⟨s, hs, hx⟩ := ix_list (f := fun k => .str (psn k)) (m := _ :: rest) (l := [PS.I, PS.you, PS.name]) (by assumption) (by
    show _ < ((3 : Nat) : Int)
    omega)
  refine wq_i hx ?_
  clear hx
  walk_at "ev"
  obtain ⟨a, ha, hx⟩ := ix_list (f := fun k => .str (pan k)) (m := _ :: rest) (l := [PA.keep, PA.I, PA.you, PA.name]) (by assumption) (by
    show _ < ((4 : Nat) : Int)
    omega)
  refine wq_i hx ?_
  clear hx
  walk_at "ev"
  obtain ⟨mi, hmi, hx⟩ := ix_list (f := optB) (m := _ :: rest) (l := [some true, some false, none]) (by assumption) (by
    show _ < ((3 : Nat) : Int)
    omega)
  refine wq_i hx ?_
  clear hx
  walk_at "ev"
  obtain ⟨yo, hyo, hx⟩ := ix_list (f := optB) (m := _ :: rest) (l := [some true, some false, none]) (by assumption) (by
    show _ < ((3 : Nat) : Int)
    omega)
  refine wq_i hx ?_
  clear hx
  refine nxt_nx ?_
  have ok : ∀ o : Option Bool, flatD (optB o) = true := fun o => by cases o <;> rfl
  have tl : ∀ (de : Dm.Env) (mi yo : Option Bool) (h : MO), IsHand h → de = [some (.loc 0), some (.str (psn s)), some (.str (pan a)), some (optB mi), some (optB yo)] →
      ws (retS (tupS (consA (vaS 1) (consA (vaS 3) (consA (vaS 4) (consA (vaS 2) nilA))))))
      de (h :: rest) fun o _ m => ∃ d h' l, o = .rt d ∧ m = (h' :: rest) ++ l ∧ isMut d = false ∧ Q d (h' :: rest) := by
    rintro de mi yo h hh rfl
    have ok2 : okItems [.str (psn s), optB mi, optB yo, .str (pan a)] = true := by cases mi <;> cases yo <;> rfl
    walk_at "ev"
    refine ⟨ok2, ?_⟩
    exact ⟨_, _, [], rfl, (List.append_nil _).symm, rfl, k ⟨s, mi, yo, a⟩ _ hh⟩
  refine ws_bind (R := fun o e m => o = .nx ∧ ∃ (mi yo : Option Bool) (h' : MO), e = [some (.loc 0), some (.str (psn s)), some (.str (pan a)), some (optB mi), some (optB yo)] ∧ m = h' :: rest ∧ IsHand h') ?_ ?_
  · refine ws_if (wt_tr (we_call (wa_cons (we_va rfl (wa_cons (we_c (wa_nil ?_)))))))
    refine take_wp (by assumption) (by omega) (by omega) fun u h' hh' u0 u1 => ?_
    refine wq_i rfl ?_
    refine ⟨fun _ => ?_, fun _ => ws_nx ⟨rfl, mi, yo, _, rfl, rfl, hh'⟩⟩
    refine ws_bind (R := fun o e m => o = .nx ∧ ∃ (mi : Option Bool), e = [some (.loc 0), some (.str (psn s)), some (.str (pan a)), some (optB mi), some (optB yo)] ∧ m = h' :: rest) ?_ ?_
    · cases s <;> cases a <;> (walk_at "ev"; first | exact ⟨rfl, mi, rfl, rfl⟩ | exact ⟨rfl, some true, rfl, rfl⟩)
    · rintro o e m ⟨rfl, mi, rfl, rfl⟩
      refine nxt_nx ?_
      cases s <;> cases a <;> (walk_at "ev"; first | exact ⟨rfl, mi, yo, _, rfl, rfl, hh'⟩ | exact ⟨rfl, mi, some true, _, rfl, rfl, hh'⟩)
  · rintro o e m ⟨rfl, mi, yo, h', rfl, rfl, hh'⟩
    exact nxt_nx (tl _ mi yo h' hh' rfl)
theorem place_rule_wp (hh : IsHand h) (k : ∀ r h', IsHand h' → Q (eQR r) (h' :: rest)) : wf F__law_place_rule [.loc 0] (h :: rest) Q := by
  refine wf_H ?_
  unfold b__law_place_rule
  walk_at "ev"
  obtain ⟨s, hs, hx⟩ := ix_list (f := fun k => .str (qsn k)) (m := _ :: rest) (l := [QS.here, QS.place]) (by assumption) (by
    show _ < ((2 : Nat) : Int)
    omega)
  refine wq_i hx ?_
  clear hx
  walk_at "ev"
  obtain ⟨a, ha, hx⟩ := ix_list (f := fun k => .str (qan k)) (m := _ :: rest) (l := [QA.keep, QA.here, QA.place]) (by assumption) (by
    show _ < ((3 : Nat) : Int)
    omega)
  refine wq_i hx ?_
  clear hx
  walk_at "ev"
  obtain ⟨mi, hmi, hx⟩ := ix_list (f := optB) (m := _ :: rest) (l := [some true, some false, none]) (by assumption) (by
    show _ < ((3 : Nat) : Int)
    omega)
  refine wq_i hx ?_
  clear hx
  refine nxt_nx ?_
  have tl : ∀ (de : Dm.Env) (mi : Option Bool) (h : MO), IsHand h → de = [some (.loc 0), some (.str (qsn s)), some (.str (qan a)), some (optB mi)] →
      ws (retS (tupS (consA (vaS 1) (consA (vaS 3) (consA (vaS 2) nilA)))))
      de (h :: rest) fun o _ m => ∃ d h' l, o = .rt d ∧ m = (h' :: rest) ++ l ∧ isMut d = false ∧ Q d (h' :: rest) := by
    rintro de mi h hh rfl
    have ok2 : okItems [.str (qsn s), optB mi, .str (qan a)] = true := by cases mi <;> rfl
    walk_at "ev"
    refine ⟨ok2, ?_⟩
    exact ⟨_, _, [], rfl, (List.append_nil _).symm, rfl, k ⟨s, mi, a⟩ _ hh⟩
  refine ws_bind (R := fun o e m => o = .nx ∧ ∃ (mi : Option Bool) (h' : MO), e = [some (.loc 0), some (.str (qsn s)), some (.str (qan a)), some (optB mi)] ∧ m = h' :: rest ∧ IsHand h') ?_ ?_
  · refine ws_if (wt_and (wt_tr (we_call (wa_cons (we_va rfl (wa_cons (we_c (wa_nil ?_))))))))
    refine take_wp (by assumption) (by omega) (by omega) fun u h' hh' u0 u1 => ?_
    refine wq_i rfl ?_
    refine ⟨fun _ => ?_, fun _ => ⟨(fun z => by cases z), fun _ => ws_nx ⟨rfl, mi, _, rfl, rfl, hh'⟩⟩⟩
    cases s <;> cases a <;> (walk_at "ev"; first | exact ⟨rfl, mi, _, rfl, rfl, hh'⟩ | exact ⟨rfl, some true, _, rfl, rfl, hh'⟩)
  · rintro o e m ⟨rfl, mi, h', rfl, rfl, hh'⟩
    exact nxt_nx (tl _ mi h' hh' rfl)
end
end T
/-! Pu18: books. -/
namespace T
open PySem PySem.Spec PyProof.Rows L2 Dm
local macro_rules | `(tactic| walk_at "sp") => `(tactic| fail)
local macro_rules | `(tactic| walk_at "ev") => `(tactic| repeat (first
  | apply_rules -exfalso (transparency := .reducible) (maxDepth := 100000) only [ws_seq, nxt_nx, ws_if, ws_ret, ws_nx, ws_asg, ws_drop, ws_atr, we_c, we_bin2, we_neg, we_ch, wt_bS, wt_tr, wt_not, wt_and, wt_or, we_and, we_or, wa_nil, wa_cons, we_lst, we_callQ, we_isi, we_isi2, we_fld, we_call, wg_nm, wgs_nil, wgs_cons, ex_bl, ex_int, ex_lst, ex_tup]
  | (apply_rules -exfalso (transparency := .reducible) (maxDepth := 1) only [we_va]; exact rfl)
  | (apply_rules -exfalso (transparency := .reducible) (maxDepth := 1) only [ok_and]; first | rfl | focus (simp [okItems]; done) | focus (simp [okItems, *]; done))
  | with_reducible refine wg_tup rfl ?_
  | with_reducible refine wg_unl rfl ?_
  | with_reducible refine wf_of (by assumption) ?_
  | walk_at "sp"
  | apply_rules -exfalso (transparency := .reducible) (maxDepth := 1) only [wf_of (is_whole_eq _ _)]
  | (apply_rules -exfalso (transparency := .reducible) (maxDepth := 1) only [wq_i]; exact rfl)
  | (apply_rules -exfalso (transparency := .reducible) (maxDepth := 1) only [br_t]; first | assumption | decide +kernel | rfl)
  | (apply_rules -exfalso (transparency := .reducible) (maxDepth := 1) only [br_f]; first | assumption | decide +kernel | rfl)
  | (apply_rules -exfalso (transparency := .reducible) (maxDepth := 1) only [rb_t]; first | assumption | decide +kernel | rfl)
  | (apply_rules -exfalso (transparency := .reducible) (maxDepth := 1) only [rb_f]; first | assumption | decide +kernel | rfl)))
theorem wf_lies {i a b : Int} {mu : Mem} {Q : D → Mem → Prop} (h1 : a ≤ i) (h2 : i ≤ b) (k : Q (.bl true) mu) : wf F_lies_from [.int i, .int a, .int b] mu Q := by
  refine wf_of (df_pure ?_ rfl) k
  unfold b_lies_from
  have e1 : decide (a ≤ i) = true := decide_eq_true h1
  have e2 : decide (i ≤ b) = true := decide_eq_true h2
  walk_at "ev"
  exact ⟨by show Out.rt (.bl (decide (i ≤ b))) = _; rw [e2], rfl⟩
theorem wf_lies_s {z : Str} {a b : D} {mu : Mem} {Q : D → Mem → Prop} (k : Q (.bl false) mu) : wf F_lies_from [.str z, a, b] mu Q := by
  refine wf_of (df_pure ?_ rfl) k
  unfold b_lies_from
  walk_at "ev"
  refine wf_of (d := .bl false) (m := mu) (df_pure ?_ rfl) ?_
  · unfold b_is_whole
    walk_at "ev"
    exact ⟨rfl, rfl⟩
  · walk_at "ev"
    exact ⟨rfl, rfl⟩
theorem is_answer_eq (o : Option Bool) (mu : Mem) : F_is_answer [optB o] mu = some (.bl true, mu) := by
  refine df_pure ?_ rfl
  unfold b_is_answer
  rcases o with _ | _ | _ <;> walk_at "ev" <;> exact ⟨rfl, rfl⟩
local macro_rules | `(tactic| walk_at "sp") => `(tactic| first | ((with_reducible apply wf_lies); (focus omega); (focus omega)) | with_reducible refine wf_lies_s ?_ | with_reducible refine wf_of (is_answer_eq _ _) ?_)
theorem nin_ds {s : Str} (h : s ∈ daySorts) (m : Mem) : ninQ m (.str s) c_DAY_SORTS = some (.bl false) := by
  simp only [daySorts, List.mem_cons, List.not_mem_nil, or_false] at h
  rcases h with rfl | rfl | rfl | rfl <;> rfl
theorem nin_da {s : Str} (h : s ∈ dayActs) (m : Mem) : ninQ m (.str s) c_DAY_ACTIONS = some (.bl false) := by
  simp only [dayActs, List.mem_cons, List.not_mem_nil, or_false] at h
  rcases h with rfl | rfl | rfl | rfl | rfl | rfl <;> rfl
theorem nin_ps (s : PS) (m : Mem) : ninQ m (.str (psn s)) c_PERSON_SORTS = some (.bl false) := by cases s <;> rfl
theorem nin_pa (s : PA) (m : Mem) : ninQ m (.str (pan s)) c_PERSON_ACTIONS = some (.bl false) := by cases s <;> rfl
theorem nin_qs (s : QS) (m : Mem) : ninQ m (.str (qsn s)) c_PLACE_SORTS = some (.bl false) := by cases s <;> rfl
theorem nin_qa (s : QA) (m : Mem) : ninQ m (.str (qan s)) c_PLACE_ACTIONS = some (.bl false) := by cases s <;> rfl
local macro_rules | `(tactic| walk_at "sp") => `(tactic| first | with_reducible refine wq_i (nin_ds (by assumption) _) ?_ | with_reducible refine wq_i (nin_da (by assumption) _) ?_ | with_reducible refine wq_i (nin_ps _ _) ?_ | with_reducible refine wq_i (nin_pa _ _) ?_ | with_reducible refine wq_i (nin_qs _ _) ?_ | with_reducible refine wq_i (nin_qa _ _) ?_)
theorem check_day_eq {l : List D} (hd : DayOk (.tup l)) (n : Int) (mu : Mem) : F_check_day_rule [.int n, .lst l] mu = some (.non, mu) := by
  obtain ⟨s, lo, hi, le, mo, a, h, B⟩ := hd
  cases h
  have b0 := B.f1
  have b1 := B.f2
  have b2 := B.f3
  have b3 := B.f4
  have b4 := B.f5
  have b5 := B.f6
  refine df_nx ?_ rfl
  unfold b_check_day_rule c_MOST_OFFSET
  have b8 := B.f8
  cases mo with
  | none =>
    rcases b8 with ⟨n, rfl, n0, n1⟩ | ⟨z, rfl, hz⟩
    · walk_at "ev"
      exact ⟨rfl, rfl⟩
    · walk_at "ev"
      exact ⟨rfl, rfl⟩
  | some x =>
    obtain ⟨b6, b7⟩ := B.f7 x rfl
    dsimp only [eI]
    rcases b8 with ⟨n, rfl, n0, n1⟩ | ⟨z, rfl, hz⟩
    · walk_at "ev"
      exact ⟨rfl, rfl⟩
    · walk_at "ev"
      exact ⟨rfl, rfl⟩
theorem check_person_eq (r : PR) (n : Int) (mu : Mem) : F_check_person_rule [.int n, ePR r] mu = some (.non, mu) := by
  refine df_nx ?_ rfl
  unfold b_check_person_rule ePR
  walk_at "ev"
  exact ⟨rfl, rfl⟩
theorem check_place_eq (r : QR) (n : Int) (mu : Mem) : F_check_place_rule [.int n, eQR r] mu = some (.non, mu) := by
  refine df_nx ?_ rfl
  unfold b_check_place_rule eQR
  walk_at "ev"
  exact ⟨rfl, rfl⟩
local macro_rules | `(tactic| walk_at "sp") => `(tactic| first | with_reducible refine wf_of (check_day_eq (by assumption) _ _) ?_ | with_reducible refine wf_of (check_person_eq _ _ _) ?_ | with_reducible refine wf_of (check_place_eq _ _ _) ?_)
structure BkOk (b : Bk) : Prop where
  f1 : ∀ d ∈ b.days, DayOk d
  f2 : b.days.length ≤ 2
  f3 : b.ps.length ≤ 4
  f4 : b.qs.length ≤ 3
def unT : D → D
  | .tup l => .lst l
  | d => d
theorem day_tup {d : D} (h : DayOk d) : ∃ l, d = .tup l := by
  obtain ⟨s, lo, hi, le, mo, a, h, B⟩ := h
  exact ⟨_, h⟩
theorem add_tup {m : Mem} {a b : List D} (h : a.length + b.length ≤ 1000) : addQ m (.tup a) (.tup b) = some (.tup (a ++ b)) := if_pos h
theorem add_str {m : Mem} {a b : Str} (h : a.length + b.length ≤ 1000) : addQ m (.str a) (.str b) = some (.str (a ++ b)) := if_pos h
theorem book_init {b : Bk} (hb : BkOk b) (hd : MO) : F_Book_init (.loc 1 :: [.lst (b.days.map unT), .tup (b.ps.map ePR), .lst (b.qs.map eQR)]) [hd, .ob 2 []] = some (.non, [hd, .ob 2 ((clsF 2).zip [.tup b.days, .tup (b.ps.map ePR), .tup (b.qs.map eQR), .tup (b.days ++ b.ps.map ePR ++ b.qs.map eQR)])]) := by
  refine df_nx ?_ rfl
  unfold b_Book_init c_MOST_RULES
  have g1 : decide ((6 : Int) < ((b.days.map unT).length : Nat)) = false := decide_eq_false (by have := hb.f2; rw [List.length_map]; omega)
  have g2 : decide ((4 : Int) < ((b.ps.map ePR).length : Nat)) = false := decide_eq_false (by have := hb.f3; rw [List.length_map]; omega)
  have g3 : decide ((3 : Int) < ((b.qs.map eQR).length : Nat)) = false := decide_eq_false (by have := hb.f4; rw [List.length_map]; omega)
  refine ws_seq (ws_forU (wa_itE ?_))
  walk_at "ev"
  refine ⟨_, .inl rfl, ?_⟩
  refine wfl_cons ?_; walk_at "ev"; refine turn_nxU ?_
  refine wfl_cons ?_; walk_at "ev"; refine turn_nxU ?_
  refine wfl_cons ?_; walk_at "ev"; refine turn_nxU ?_
  refine wfl_nil ?_
  refine nxt_nx ?_
  -- the rules one by one
  refine ws_seq ?_
  refine ws_for (fun ds e mm => ∃ (n : Nat) (l : List D) (e4 e5 e6 : Option D), ds = enuD n (l.map unT) ∧ (∀ d ∈ l, DayOk d) ∧ e = [some (.loc 1), some (.lst (b.days.map unT)), some (.tup (b.ps.map ePR)), some (.lst (b.qs.map eQR)), e4, e5, e6] ∧ mm = [hd, .ob 2 []]) ?_ ?_ ?_
  · refine wa_itE ?_
    walk_at "ev"
    exact ⟨_, .inl rfl, 0, b.days, _, _, _, rfl, hb.f1, rfl, rfl⟩
  · rintro d ds e mm ⟨n, l, e4, e5, e6, h1, h2, rfl, rfl⟩
    cases l with
    | nil => cases h1
    | cons x l =>
      have hx := h2 x List.mem_cons_self
      obtain ⟨q, rfl⟩ := day_tup hx
      cases h1
      show wg _ (.tup [.int (n : Nat), .lst q]) _ _
      walk_at "ev"
      exact turn_nx' ⟨n + 1, l, _, _, _, rfl, fun d hd => h2 d (List.mem_cons_of_mem _ hd), rfl, rfl⟩
  rintro e mm ⟨n, l, e4, e5, e6, h1, h2, rfl, rfl⟩
  clear h1 h2
  refine nxt_nx ?_
  refine ws_seq ?_
  refine ws_for (fun ds e mm => ∃ (n : Nat) (l : List PR) (e4 e5 e6 : Option D), ds = enuD n (l.map ePR) ∧ e = [some (.loc 1), some (.lst (b.days.map unT)), some (.tup (b.ps.map ePR)), some (.lst (b.qs.map eQR)), e4, e5, e6] ∧ mm = [hd, .ob 2 []]) ?_ ?_ ?_
  · refine wa_itE ?_
    walk_at "ev"
    exact ⟨_, .inr rfl, 0, b.ps, _, _, _, rfl, rfl, rfl⟩
  · rintro d ds e mm ⟨n, l, e4, e5, e6, h1, rfl, rfl⟩
    cases l with
    | nil => cases h1
    | cons x l =>
      cases h1
      show wg _ (.tup [.int (n : Nat), ePR x]) _ _
      walk_at "ev"
      exact turn_nx' ⟨n + 1, l, _, _, _, rfl, rfl, rfl⟩
  rintro e mm ⟨n2, l2, e4, e5, e6, h1, rfl, rfl⟩
  clear h1
  refine nxt_nx ?_
  refine ws_seq ?_
  refine ws_for (fun ds e mm => ∃ (n : Nat) (l : List QR) (e4 e5 e6 : Option D), ds = enuD n (l.map eQR) ∧ e = [some (.loc 1), some (.lst (b.days.map unT)), some (.tup (b.ps.map ePR)), some (.lst (b.qs.map eQR)), e4, e5, e6] ∧ mm = [hd, .ob 2 []]) ?_ ?_ ?_
  · refine wa_itE ?_
    walk_at "ev"
    exact ⟨_, .inl rfl, 0, b.qs, _, _, _, rfl, rfl, rfl⟩
  · rintro d ds e mm ⟨n, l, e4, e5, e6, h1, rfl, rfl⟩
    cases l with
    | nil => cases h1
    | cons x l =>
      cases h1
      show wg _ (.tup [.int (n : Nat), eQR x]) _ _
      walk_at "ev"
      exact turn_nx' ⟨n + 1, l, _, _, _, rfl, rfl, rfl⟩
  rintro e mm ⟨n3, l3, e4, e5, e6, h1, rfl, rfl⟩
  clear h1
  refine nxt_nx ?_
  have h3 := hb.f2
  have h4 := hb.f3
  have h5 := hb.f4
  walk_at "ev"
  refine we_map (items := b.days.map unT) (outs := b.days) (m0 := [hd, .ob 2 []]) ?_ (by simp) (by simp; omega) (by
    rw [List.all_eq_true]
    intro d hd
    obtain ⟨q, rfl⟩ := day_tup (hb.f1 d hd)
    rfl) ?_ ?_
  · refine wa_itL ?_
    walk_at "ev"
    exact ⟨rfl, rfl⟩
  · intro q x v acc hx hv
    rw [List.getElem?_map, hv] at hx
    cases hx
    obtain ⟨q, rfl⟩ := day_tup (hb.f1 v (List.mem_of_getElem? hv))
    show wg _ (.lst q) _ _
    walk_at "ev"
    exact ⟨rfl, rfl⟩
  walk_at "ev"
  refine ⟨1, 2, [], rfl, rfl, ⟨by decide, by decide, rfl, Nat.le_of_ble_eq_true rfl⟩, ?_⟩
  walk_at "ev"
  refine we_map (items := b.ps.map ePR) (outs := b.ps.map ePR) (m0 := [hd, .ob 2 [("days", .tup b.days)]]) ?_ rfl (by simp; omega) (by simp [ePR]) ?_ ?_
  · refine wa_itT ?_
    walk_at "ev"
    exact ⟨rfl, rfl⟩
  · intro q x v acc hx hv
    rw [List.getElem?_map] at hx
    obtain ⟨mq, hq, rfl⟩ := Option.map_eq_some_iff.mp hx
    rw [List.getElem?_map, hq] at hv
    cases hv
    unfold ePR
    walk_at "ev"
    exact ⟨rfl, rfl⟩
  walk_at "ev"
  refine ⟨1, 2, _, rfl, rfl, ⟨by decide, by decide, rfl, Nat.le_of_ble_eq_true rfl⟩, ?_⟩
  walk_at "ev"
  refine we_map (items := b.qs.map eQR) (outs := b.qs.map eQR) (m0 := [hd, .ob 2 [("days", .tup b.days), ("persons", .tup (b.ps.map ePR))]]) ?_ rfl (by simp; omega) (by simp [eQR]) ?_ ?_
  · refine wa_itL ?_
    walk_at "ev"
    exact ⟨rfl, rfl⟩
  · intro q x v acc hx hv
    rw [List.getElem?_map] at hx
    obtain ⟨mq, hq, rfl⟩ := Option.map_eq_some_iff.mp hx
    rw [List.getElem?_map, hq] at hv
    cases hv
    unfold eQR
    walk_at "ev"
    exact ⟨rfl, rfl⟩
  walk_at "ev"
  refine ⟨1, 2, _, rfl, rfl, ⟨by decide, by decide, rfl, Nat.le_of_ble_eq_true rfl⟩, ?_⟩
  walk_at "ev"
  refine wq_i (add_tup (by simp; omega)) ?_
  walk_at "ev"
  refine wq_i (add_tup (by simp; omega)) ?_
  walk_at "ev"
  refine ⟨1, 2, _, rfl, rfl, ⟨by decide, by decide, rfl, Nat.le_of_ble_eq_true rfl⟩, ?_⟩
  exact ⟨rfl, rfl⟩
theorem made_book_eq {b : Bk} (hb : BkOk b) (hd : MO) : F__law_made_book [eLB b] [hd] = some (eMB b, [hd]) := by
  refine df_pure ?_ rfl
  unfold b__law_made_book
  have h3 := hb.f2
  refine ws_ret (we_mkI ?_)
  unfold eLB
  walk_at "ev"
  refine we_map (items := b.days) (outs := b.days.map unT) (m0 := [hd]) ?_ (by simp) (by omega) (by
    rw [List.all_eq_true]
    intro d hd
    obtain ⟨d2, hd2, rfl⟩ := List.mem_map.mp hd
    obtain ⟨q, rfl⟩ := day_tup (hb.f1 d2 hd2)
    rfl) ?_ ?_
  · refine wa_itL ?_
    walk_at "ev"
    exact ⟨rfl, rfl⟩
  · intro q x v acc hx hv
    rw [List.getElem?_map, hx] at hv
    cases hv
    obtain ⟨q, rfl⟩ := day_tup (hb.f1 x (List.mem_of_getElem? hx))
    walk_at "ev"
    exact ⟨rfl, rfl⟩
  walk_at "ev"
  exact ⟨_, book_init hb hd, rfl, rfl, rfl⟩
end T
/-! Pu19: the law's book, hand, names. -/
namespace T
open PySem PySem.Spec PyProof.Rows L2 Dm
local macro_rules | `(tactic| walk_at "ev") => `(tactic| repeat (first
  | apply_rules -exfalso (transparency := .reducible) (maxDepth := 100000) only [ws_seq, nxt_nx, ws_set, ws_ret, ws_drop, we_c, we_bin2, we_neg, wt_bS, we_if, wa_nil, wa_cons, we_lst, we_callQ, we_call, wt_yes, wg_nm, ex_bl, ex_int, ex_lst]
  | (apply_rules -exfalso (transparency := .reducible) (maxDepth := 1) only [we_va]; exact rfl)
  | (apply_rules -exfalso (transparency := .reducible) (maxDepth := 1) only [ok_and]; first | rfl | focus (simp [okItems]; done) | focus (simp [okItems, *]; done))
  | with_reducible refine wf_of (by assumption) ?_
  | (((with_reducible apply wq_min); intro _ _ _ _))
  | (((with_reducible apply take_wp); (focus assumption); (focus (first | omega | decide)); (focus (first | omega | decide)); intro _ _ _ _ _))
  | (((with_reducible apply wq_mul); (focus (first | omega | decide))))
  | (((with_reducible apply wq_mod); (focus (first | omega | decide))))
  | (apply_rules -exfalso (transparency := .reducible) (maxDepth := 1) only [wq_i]; exact rfl)))
theorem map_of {α : Type} {f : α → D} : ∀ {ds : List D}, (∀ d ∈ ds, ∃ r : α, d = f r) → ∃ rs : List α, ds = rs.map f
  | [], _ => ⟨[], rfl⟩
  | d :: ds, h => by
    obtain ⟨r, rfl⟩ := h d List.mem_cons_self
    obtain ⟨rs, rfl⟩ := map_of fun d hd => h d (List.mem_cons_of_mem _ hd)
    exact ⟨r :: rs, rfl⟩
theorem ble_far {n : Nat} (h : n < 100000) : Nat.ble 100000 n = false := by
  cases q : Nat.ble 100000 n with
  | false => rfl
  | true => have := Nat.le_of_ble_eq_true q; omega
theorem rngD_len {lo : Int} {n : Nat} : (rngD lo n).length = n := by simp [rngD]
theorem lc_H {P : D → Prop} {h : MO} {de : Dm.Env} {it : SA} {te : SE} {N : Nat} {Q : D → Mem → Prop} (hN : N ≤ 1000)
    (hit : wa it de [h] fun items m0 => items.length ≤ N ∧ ∃ h', m0 = [h'] ∧ IsHand h')
    (step : ∀ (h : MO) (acc : List D) (e : D), IsHand h → we te ((wipeD de [4]).set 4 (some e)) (h :: [.lst acc]) fun d m => P d ∧ isMut d = false ∧ ∃ h', IsHand h' ∧ m = h' :: [.lst acc])
    (k : ∀ ds h', IsHand h' → ds.length ≤ N → (∀ d ∈ ds, P d) → Q (.lst ds) [h']) : we (lcS [4] it (nmG 4) yesT te) de [h] Q := by
  refine we_lc (n := 1) (fun ds acc m => ds.length + acc.length ≤ N ∧ (∀ d ∈ acc, P d) ∧ ∃ h', IsHand h' ∧ m = [h']) ?_ ?_ ?_
  · obtain ⟨items, m0, e1, h1, h', rfl, hh⟩ := hit
    exact ⟨items, _, e1, ⟨by simpa using h1, by simp, h', hh, rfl⟩, rfl⟩
  · rintro d ds acc m hm ⟨h1, h2, h', hh, rfl⟩
    refine wg_nm (wt_yes ⟨_, rfl, rfl, (fun z => by cases z), fun _ => ?_⟩)
    obtain ⟨v, m2, e2, hv, nm, h2', hh2, rfl⟩ := step h' acc d hh
    rw [List.length_cons] at h1
    refine ⟨v, _, e2, [h2'], rfl, rfl, nm, ble_far (by omega), ?_, ?_, h2', hh2, rfl⟩
    · rw [List.length_append, List.length_singleton]; omega
    · intro x hx
      rcases List.mem_append.mp hx with hx | hx
      · exact h2 x hx
      · rw [List.mem_singleton.mp hx]; exact hv
  · rintro acc m hm ⟨h1, h2, h', hh, rfl⟩
    exact k acc h' hh (by simpa using h1) h2
theorem book_eq {h : MO} (hh : IsHand h) : wf F__law_book [.loc 0, .int 2] [h] fun d m => ∃ b h', IsHand h' ∧ BkOk b ∧ d = eLB b ∧ m = [h'] := by
  refine wf_H (rest := []) ?_
  unfold b__law_book
  walk_at "ev"
  refine lc_H (P := DayOk) (N := 2) (by omega) ?_ ?_ fun days h1 hh1 l1 p1 => ?_
  · refine wa_it1 ?_
    walk_at "ev"
    refine ⟨_, rfl, by omega, ?_, _, rfl, by assumption⟩
    rw [rngD_len]; omega
  · intro h acc e hh
    walk_at "ev"
    refine day_rule_wp hh fun d h' hh' hd => ⟨hd, ?_, h', hh', rfl⟩
    obtain ⟨q, rfl⟩ := day_tup hd
    rfl
  walk_at "ev"
  refine lc_H (P := fun d => ∃ r, d = ePR r) (N := 4) (by omega) ?_ ?_ fun ps h2 hh2 l2 p2 => ?_
  · refine wa_it1 ?_
    walk_at "ev"
    refine ⟨_, rfl, by omega, ?_, _, rfl, by assumption⟩
    rw [rngD_len]; omega
  · intro h acc e hh
    walk_at "ev"
    exact person_rule_wp hh fun r h' hh' => ⟨⟨r, rfl⟩, rfl, h', hh', rfl⟩
  walk_at "ev"
  refine lc_H (P := fun d => ∃ r, d = eQR r) (N := 3) (by omega) ?_ ?_ fun qs h3 hh3 l3 p3 => ?_
  · refine wa_it1 ?_
    walk_at "ev"
    refine ⟨_, rfl, by omega, ?_, _, rfl, by assumption⟩
    rw [rngD_len]; omega
  · intro h acc e hh
    walk_at "ev"
    exact place_rule_wp hh fun r h' hh' => ⟨⟨r, rfl⟩, rfl, h', hh', rfl⟩
  obtain ⟨ps, rfl⟩ := map_of p2
  obtain ⟨qs, rfl⟩ := map_of p3
  rw [List.length_map] at l2 l3
  walk_at "ev"
  exact ⟨_, _, [], rfl, rfl, rfl, ⟨days, ps, qs⟩, _, hh3, ⟨p1, l1, l2, l3⟩, rfl, rfl⟩
theorem hand_eq {ns : List Int} (hn : ns.length ≤ 63) : ∃ h, IsHand h ∧ F__law_hand [.lst (ns.map .int)] [] = some (.loc 0, [h]) := by
  have key : ws b__law_hand (startD 4 [.lst (ns.map .int)]) [] fun o _ m => ∃ h, IsHand h ∧ o = .rt (.loc 1) ∧ m = [.gone, h] := by
    unfold b__law_hand
    walk_at "ev"
    refine we_lstM ?_
    walk_at "ev"
    refine ws_for (fun ds e m => ∃ (rem cells : List Int) (t : Int) (e3 : Option D), ds = rem.map .int ∧ rem.length + cells.length ≤ 63 ∧ e = [some (.lst (ns.map .int)), some (.int t), some (.loc 0), e3] ∧ m = [.lst (cells.map .int)]) ?_ ?_ ?_
    · refine wa_itL ?_
      walk_at "ev"
      exact ⟨ns, [], _, none, rfl, by simpa using hn, rfl, rfl⟩
    · rintro d ds e m ⟨rem, cells, t, e3, h1, h2, rfl, rfl⟩
      cases rem with
      | nil => cases h1
      | cons x rem =>
        cases h1
        rw [List.length_cons] at h2
        walk_at "ev"
        refine we_app ?_
        walk_at "ev"
        refine ⟨0, _, rfl, rfl, ?_⟩
        walk_at "ev"
        refine ⟨fun _ => ?_, fun _ => ?_⟩
        · walk_at "ev"
          refine ⟨_, rfl, rfl, ble_far (by rw [List.length_map]; omega), ?_⟩
          refine turn_nx' ⟨rem, cells ++ [x], _, _, rfl, by rw [List.length_append, List.length_singleton]; omega, rfl, ?_⟩
          simp
        · walk_at "ev"
          refine ⟨_, rfl, rfl, ble_far (by rw [List.length_map]; omega), ?_⟩
          refine turn_nx' ⟨rem, cells ++ [-x], _, _, rfl, by rw [List.length_append, List.length_singleton]; omega, rfl, ?_⟩
          simp
    · rintro e m ⟨rem, cells, t, e3, h1, h2, rfl, rfl⟩
      walk_at "ev"
      refine we_lstM ?_
      refine wa_cons (we_frz ?_)
      walk_at "ev"
      refine ⟨0, _, rfl, rfl, ?_⟩
      walk_at "ev"
      exact ⟨_, ⟨cells, 0, 0, t, rfl, by omega⟩, rfl, rfl⟩
  obtain ⟨o, e, m, e1, h, hh, rfl, rfl⟩ := key
  exact ⟨h, hh, by unfold F__law_hand defD; rw [e1]; rfl⟩
end T
/-! Pu20: names, spots, moves from the hand. -/
namespace T
open PySem PySem.Spec PyProof.Rows L2 Dm
local macro_rules | `(tactic| walk_at "ev") => `(tactic| repeat (first
  | apply_rules -exfalso (transparency := .reducible) (maxDepth := 100000) only [ws_seq, nxt_nx, ws_set, ws_if, ws_ret, ws_nx, ws_drop, we_c, we_bin2, wt_bS, wa_nil, wa_cons, we_lst, we_call, wg_nm, ex_bl, ex_lst]
  | (apply_rules -exfalso (transparency := .reducible) (maxDepth := 1) only [we_va]; exact rfl)
  | (apply_rules -exfalso (transparency := .reducible) (maxDepth := 1) only [ok_and]; first | rfl | focus (simp [okItems]; done) | focus (simp [okItems, *]; done))
  | with_reducible refine wf_of (by assumption) ?_
  | (((with_reducible apply take_wp); (focus assumption); (focus (first | omega | decide)); (focus (first | omega | decide)); intro _ _ _ _ _))
  | (apply_rules -exfalso (transparency := .reducible) (maxDepth := 1) only [wq_i]; exact rfl)))
theorem ix_letter {m : Mem} {v : Int} (h0 : 0 ≤ v) (h1 : v < 26) : ∃ c ∈ letters.cps.toList, ixQ m (.str "abcdefghijklmnopqrstuvwxyz") (.int v) = some (.str ⟨#[c]⟩) := by
  obtain ⟨n, rfl⟩ : ∃ n : Nat, v = (n : Nat) := ⟨v.toNat, by omega⟩
  have hl : letters.cps.toList.length = 26 := by decide +kernel
  have hi : n < letters.cps.toList.length := by omega
  refine ⟨letters.cps.toList[n], List.getElem_mem hi, ?_⟩
  have e : atI letters.cps.toList ((n : Nat) : Int) = some letters.cps.toList[n] := atI_nat (List.getElem?_eq_getElem hi)
  show (if letters.length ≤ 1000 then (atI letters.cps.toList ((n : Nat) : Int)).map fun c => D.str ⟨#[c]⟩ else none) = _
  rw [if_pos (by decide +kernel), e]
  rfl
theorem len_app {a b : Str} : (a ++ b).length = a.length + b.length := Array.size_append
section
variable {h : MO} {rest : Mem} {Q : D → Mem → Prop}
theorem name_wp (hh : IsHand h) (k : ∀ z h', IsHand h' → NameOk z → Q (.str z) (h' :: rest)) : wf F__law_name [.loc 0] (h :: rest) Q := by
  refine wf_H ?_
  unfold b__law_name
  walk_at "ev"
  refine ws_for (fun ds e m => ∃ (z : Str) (h' : MO) (e2 : Option D), 1 ≤ ds.length + z.length ∧ ds.length + z.length ≤ 8 ∧ (∀ c ∈ z.cps.toList, c ∈ letters.cps.toList) ∧ IsHand h' ∧ e = [some (.loc 0), some (.str z), e2] ∧ m = h' :: rest) ?_ ?_ ?_
  · refine wa_it1 ?_
    walk_at "ev"
    have e0 : ("" : Str).length = 0 := by decide +kernel
    refine ⟨_, rfl, by omega, "", _, none, ?_, ?_, ?_, by assumption, rfl, rfl⟩
    · rw [rngD_len, e0]; omega
    · rw [rngD_len, e0]; omega
    · intro c hc
      have : ("" : Str).cps.toList = [] := by decide +kernel
      rw [this] at hc
      cases hc
  · rintro d ds e m ⟨z, h1, e2, l1, l2, hz, hh1, rfl, rfl⟩
    rw [List.length_cons] at l1 l2
    walk_at "ev"
    obtain ⟨c, hc, hx⟩ := ix_letter (m := _ :: rest) (by assumption) (by assumption)
    refine wq_i hx ?_
    have e1 : (⟨#[c]⟩ : Str).length = 1 := rfl
    refine wq_i (add_str (by rw [e1]; omega)) ?_
    refine turn_nx' ⟨_, _, _, ?_, ?_, ?_, ?_, rfl, rfl⟩
    · rw [len_app, e1]; omega
    · rw [len_app, e1]; omega
    · intro x hx2
      have hx3 : x ∈ (z.cps ++ #[c]).toList := hx2
      rw [Array.toList_append] at hx3
      rcases List.mem_append.mp hx3 with h | h
      · exact hz x h
      · rw [List.mem_singleton.mp h]; exact hc
    · assumption
  · rintro e m ⟨z, h1, e2, l1, l2, hz, hh1, rfl, rfl⟩
    walk_at "ev"
    simp only [List.length_nil, Nat.zero_add] at l1 l2
    exact ⟨_, _, [], rfl, (List.append_nil _).symm, rfl, k _ _ hh1 ⟨l1, l2, hz⟩⟩
end
theorem in_names {m : Mem} {x : D} {a : Str} {l : List Str} (h : itemsOf m x = some (l.map .str)) : inQ m (.str a) x = some (.bl (decide (a ∈ l))) := by
  unfold inQ inSeq
  rw [h]
  simp only [flatD, all_flat, Bool.and_self, if_true, Option.map_some, any_eqF]
def spare : List Str := ["q", "r", "s", "t"]
theorem spare_ok : ∀ z ∈ spare, NameOk z := by
  intro z hz
  simp only [spare, List.mem_cons, List.not_mem_nil, or_false] at hz
  rcases hz with rfl | rfl | rfl | rfl <;> exact ⟨by decide, by decide, by decide⟩
theorem spare_free {l : List Str} (h : l.length ≤ 2) : spare.filter (fun a => !decide (a ∈ l)) ≠ [] := by
  intro hn
  have hq : ∀ a ∈ spare, a ∈ l := fun a ha => by
    have := List.filter_eq_nil_iff.mp hn a ha
    simpa using this
  have q := hq "q" (by decide)
  have r := hq "r" (by decide)
  have s := hq "s" (by decide)
  have qr : ("q" : Str) ≠ "r" := by decide
  have qs : ("q" : Str) ≠ "s" := by decide
  have rs : ("r" : Str) ≠ "s" := by decide
  match l, h with
  | [], _ => cases q
  | [x], _ => exact qr ((List.mem_singleton.mp q).trans (List.mem_singleton.mp r).symm)
  | [x, y], _ =>
    simp only [List.mem_cons, List.not_mem_nil, or_false] at q r s
    rcases q with q | q <;> rcases r with r | r <;> rcases s with s | s
    · exact qr (q.trans r.symm)
    · exact qr (q.trans r.symm)
    · exact qs (q.trans s.symm)
    · exact rs (r.trans s.symm)
    · exact rs (r.trans s.symm)
    · exact qs (q.trans s.symm)
    · exact qr (q.trans r.symm)
    · exact qr (q.trans r.symm)
theorem names_wp {h : MO} {Q : D → Mem → Prop} {n : Nat} (hn : n ≤ 3) (hh : IsHand h) (k : ∀ (l : List Str) h', IsHand h' → l.length = n → (∀ z ∈ l, NameOk z) → Q (.lst (l.map .str)) [h']) : wf F__law_names [.loc 0, .int (n : Nat)] [h] Q := by
  refine wf_H (rest := []) ?_
  unfold b__law_names
  apply ws_then
  · refine ws_set (we_lstM ?_)
    walk_at "ev"
    exact ⟨rfl, rfl, rfl⟩
  refine ws_seq ?_
  refine ws_for (fun ds e m => ∃ (l : List Str) (h' : MO) (e3 e4 e5 : Option D), ds.length + l.length = n ∧ (∀ z ∈ l, NameOk z) ∧ IsHand h' ∧ e = [some (.loc 0), some (.int (n : Nat)), some (.loc 1), e3, e4, e5] ∧ m = [h', .lst (l.map .str)]) ?_ ?_ ?_
  · refine wa_it1 ?_
    walk_at "ev"
    refine ⟨_, rfl, by omega, [], _, none, none, none, ?_, ?_, hh, rfl, rfl⟩
    · rw [rngD_len]; simp
    · intro z hz; cases hz
  · rintro d ds e m ⟨l, h1, e3, e4, e5, l1, hl, hh1, rfl, rfl⟩
    rw [List.length_cons] at l1
    refine wg_nm ?_
    refine ws_seq (ws_set (we_call (wa_cons (we_va rfl (wa_nil ?_)))))
    refine name_wp hh1 fun z h2 hh2 hz => ?_
    refine nxt_nx ?_
    refine ws_bind (R := fun o e m => o = .nx ∧ ∃ (z : Str), NameOk z ∧ e = [some (.loc 0), some (.int (n : Nat)), some (.loc 1), some d, some (.str z), e5] ∧ m = [h2, .lst (l.map .str)]) ?_ ?_
    · refine ws_if (wt_bS (we_bin2 (we_va rfl (we_va rfl (wq_i (in_names (l := l) rfl) (ex_bl ?_))))))
      refine ⟨fun _ => ?_, fun _ => ws_nx ⟨rfl, z, hz, rfl, rfl⟩⟩
      refine ws_set (we_bin2 ?_)
      refine we_lc (n := 2) (fun ds acc m => m = [h2, .lst (l.map .str)] ∧ ∃ (rem out : List Str), ds = rem.map .str ∧ acc = out.map .str ∧ out.length ≤ 4 ∧ out.length + rem.length ≤ 4 ∧ out ++ rem.filter (fun a => !decide (a ∈ l)) = spare.filter (fun a => !decide (a ∈ l))) ?_ ?_ ?_
      · refine wa_itL ?_
        walk_at "ev"
        exact ⟨⟨rfl, spare, [], rfl, rfl, by decide, by decide, rfl⟩, rfl⟩
      · rintro x xs acc m hm ⟨rfl, rem, out, h3, rfl, h4, h5, h6⟩
        cases rem with
        | nil => cases h3
        | cons a rem =>
          cases h3
          rw [List.length_cons] at h5
          refine wg_nm (wt_bS (we_bin2 (we_va rfl (we_va rfl (wq_i (nin_names (l := l) rfl) (ex_bl ?_))))))
          refine ⟨[h2, .lst (l.map .str)], rfl, rfl, fun hb => ⟨rfl, rem, out, rfl, rfl, h4, by omega, ?_⟩, fun hb => ?_⟩
          · rw [List.filter_cons, hb] at h6
            simpa using h6
          · refine we_va rfl ⟨_, rfl, rfl, rfl, ble_far (by rw [List.length_map]; omega), rfl, rem, out ++ [a], rfl, by simp, ?_, ?_, ?_⟩
            · rw [List.length_append, List.length_singleton]; omega
            · rw [List.length_append, List.length_singleton]; omega
            · rw [List.filter_cons, hb] at h6
              simpa using h6
      · rintro acc m hm ⟨rfl, rem, out, h3, rfl, h4, h5, h6⟩
        cases rem with
        | cons a rem => cases h3
        | nil =>
          rw [List.filter_nil, List.append_nil] at h6
          cases out with
          | nil => exact absurd h6.symm (spare_free (by omega))
          | cons a out =>
            have ha : a ∈ spare := by
              have : a ∈ spare.filter (fun a => !decide (a ∈ l)) := by rw [← h6]; exact List.mem_cons_self
              exact (List.mem_filter.mp this).1
            have h0 : ∀ m, ixQ m (.lst (List.map D.str (a :: out))) (.int 0) = some (.str a) := fun m => by
              show atI (List.map D.str (a :: out)) ((0 : Nat) : Int) = some (.str a)
              exact atI_nat rfl
            refine we_c (wq_i (h0 _) ?_)
            exact ⟨rfl, a, spare_ok a ha, rfl, rfl⟩
    · rintro o e m ⟨rfl, z, hz, rfl, rfl⟩
      refine nxt_nx (ws_drop (we_app (we_va rfl ⟨1, _, rfl, rfl, we_va rfl ⟨_, rfl, rfl, ble_far (by rw [List.length_map]; omega), ?_⟩⟩)))
      refine turn_nx' ⟨l ++ [z], _, _, _, _, by rw [List.length_append, List.length_singleton]; omega, ?_, hh2, rfl, ?_⟩
      · intro x hx
        rcases List.mem_append.mp hx with hx | hx
        · exact hl x hx
        · rw [List.mem_singleton.mp hx]; exact hz
      · simp
  · rintro e m ⟨l, h1, e3, e4, e5, l1, hl, hh1, rfl, rfl⟩
    refine nxt_nx (ws_ret (we_frz (we_va rfl ⟨1, _, rfl, rfl, ?_⟩)))
    exact ⟨_, h1, [.gone], rfl, rfl, rfl, k l h1 hh1 (by simpa using l1) hl⟩
theorem world_wp {h : MO} {Q : D → Mem → Prop} (hh : IsHand h) (k : ∀ (l p : List Str) h', IsHand h' → l.length = 3 → (∀ z ∈ l, NameOk z) → p.length = 2 → (∀ z ∈ p, NameOk z) → Q (.lst [.lst (l.map .str), .lst (p.map .str)]) [h']) : wf F__law_world [.loc 0] [h] Q := by
  refine wf_H (rest := []) ?_
  unfold b__law_world
  walk_at "ev"
  refine names_wp (n := 3) (by omega) hh fun l h1 hh1 l1 l2 => ?_
  walk_at "ev"
  refine names_wp (n := 2) (by omega) hh1 fun p h2 hh2 p1 p2 => ?_
  walk_at "ev"
  exact ⟨_, _, [], rfl, rfl, rfl, k l p h2 hh2 l1 l2 p1 p2⟩
end T
/-! Pu21: spots and moves from the hand; made objects. -/
namespace T
open PySem PySem.Spec PyProof.Rows L2 Dm
local macro_rules | `(tactic| walk_at "ev") => `(tactic| repeat (first
  | apply_rules -exfalso (transparency := .reducible) (maxDepth := 100000) only [ws_seq, nxt_nx, nxt_rt, ws_set, ws_if, ws_ret, ws_nx, ws_drop, we_c, we_bin2, wt_bS, wt_tr, wt_not, we_if, wa_nil, wa_cons, we_tup, we_callQ, we_fld, we_call, wg_nm, wgs_nil, wgs_cons, ex_bl, ex_lst]
  | (apply_rules -exfalso (transparency := .reducible) (maxDepth := 1) only [we_va]; exact rfl)
  | (apply_rules -exfalso (transparency := .reducible) (maxDepth := 1) only [ok_and]; first | rfl | focus (simp [okItems]; done) | focus (simp [okItems, *]; done))
  | with_reducible refine wg_tup rfl ?_
  | with_reducible refine wf_of (by assumption) ?_
  | apply_rules -exfalso (transparency := .reducible) (maxDepth := 1) only [wf_of (is_whole_eq _ _)]
  | (((with_reducible apply take_wp); (focus assumption); (focus (first | omega | decide)); (focus (first | omega | decide)); intro _ _ _ _ _))
  | (((with_reducible apply wq_mul); (focus (first | omega | decide))))
  | (apply_rules -exfalso (transparency := .reducible) (maxDepth := 1) only [wq_i]; exact rfl)
  | (apply_rules -exfalso (transparency := .reducible) (maxDepth := 1) only [br_f]; first | assumption | decide +kernel | rfl)))
def Names (l : List Str) : Prop := 1 ≤ l.length ∧ l.length ≤ 3 ∧ ∀ z ∈ l, NameOk z
section
variable {h : MO} {rest : Mem} {Q : D → Mem → Prop}
theorem date_wp (hh : IsHand h) (k : ∀ i h', IsHand h' → Q (.int i) (h' :: rest)) : wf F__law_date [.loc 0] (h :: rest) Q := by
  refine wf_H ?_
  unfold b__law_date
  walk_at "ev"
  refine ⟨fun _ => ?_, fun _ => ?_⟩
  · walk_at "ev"
    exact ⟨_, _, [], rfl, (List.append_nil _).symm, rfl, k _ _ (by assumption)⟩
  · walk_at "ev"
    exact ⟨_, _, [], rfl, (List.append_nil _).symm, rfl, k _ _ (by assumption)⟩
theorem delay_wp (hh : IsHand h) (k : ∀ i h', IsHand h' → 0 ≤ i → Q (.int i) (h' :: rest)) : wf F__law_delay [.loc 0] (h :: rest) Q := by
  refine wf_H ?_
  unfold b__law_delay
  walk_at "ev"
  refine ⟨fun _ => ?_, fun _ => ?_⟩
  · walk_at "ev"
    exact ⟨_, _, [], rfl, (List.append_nil _).symm, rfl, k _ _ (by assumption) (by assumption)⟩
  · walk_at "ev"
    refine ⟨fun _ => ?_, fun _ => ?_⟩
    · walk_at "ev"
      exact ⟨_, _, [], rfl, (List.append_nil _).symm, rfl, k _ _ (by assumption) (by assumption)⟩
    · walk_at "ev"
      exact ⟨_, _, [], rfl, (List.append_nil _).symm, rfl, k _ _ (by assumption) (by assumption)⟩
/-- a name of the list, by a number from the hand -/
theorem pick_wp {de : Dm.Env} {i : Nat} {l : List Str} (hl : Names l) (hh : IsHand h) (h0 : de[0]? = some (some (.loc 0))) (h1 : de[i]? = some (some (.lst (l.map .str)))) (k : ∀ z h', IsHand h' → NameOk z → Q (.str z) (h' :: rest)) :
    we (bin2 ixQ (vaS i) (callF F__law_take (consA (vaS 0) (consA (callQ lenQ (consA (vaS i) nilA)) nilA)))) de (h :: rest) Q := by
  have hm : ((l.map D.str).length : Int) = (l.length : Nat) := by rw [List.length_map]
  obtain ⟨l1, l2, l3⟩ := hl
  refine we_bin2 (we_va h1 (we_call (wa_cons (we_va h0 (wa_cons (we_callQ (wa_cons (we_va h1 (wa_nil (wq_i (d := .int ((l.map D.str).length : Nat)) rfl (wa_nil ?_)))))))))))
  refine take_wp hh (by omega) (by omega) fun v h' hh' v0 v1 => ?_
  obtain ⟨z, hz, hx⟩ := ix_list (f := D.str) (m := h' :: rest) (l := l) v0 (by omega)
  exact wq_i hx (k z h' hh' (l3 z hz))
theorem spot_wp {l p : List Str} (hl : Names l) (hp : Names p) (hh : IsHand h) (k : ∀ (s : Spo) h', IsHand h' → NameOk s.t → NameOk s.h → NameOk s.p → Q (eS s) (h' :: rest)) : wf F__law_spot [.loc 0, .lst (l.map .str), .lst (p.map .str)] (h :: rest) Q := by
  refine wf_H ?_
  unfold b__law_spot
  refine ws_ret (we_tup (wa_cons ?_))
  refine pick_wp (l := l) hl hh rfl rfl fun t h1 hh1 ht => ?_
  refine wa_cons ?_
  refine pick_wp (l := l) hl hh1 rfl rfl fun h h2 hh2 hhe => ?_
  refine wa_cons (we_call (wa_cons (we_va rfl (wa_nil ?_))))
  refine date_wp hh2 fun d h3 hh3 => ?_
  refine wa_cons ?_
  refine pick_wp (l := p) hp hh3 rfl rfl fun pl h4 hh4 hpl => ?_
  refine wa_nil ⟨rfl, ?_⟩
  exact ⟨_, _, [], rfl, (List.append_nil _).symm, rfl, k ⟨t, h, d, pl⟩ _ hh4 ht hhe hpl⟩
end
def MvG (m : Mv) : Prop := 0 ≤ m.dl ∧ NameOk m.h ∧ NameOk m.p
theorem moves_wp {h : MO} {Q : D → Mem → Prop} {l p : List Str} (hl : Names l) (hp : Names p) (hh : IsHand h) (k : ∀ (ms : List Mv) h', IsHand h' → ms.length ≤ 3 → (∀ m ∈ ms, MvG m) → Q (.lst (ms.map eM)) [h']) : wf F__law_moves [.loc 0, .lst (l.map .str), .lst (p.map .str), .int 3] [h] Q := by
  refine wf_H (rest := []) ?_
  unfold b__law_moves
  apply ws_then
  · refine ws_set (we_lstM ?_)
    walk_at "ev"
    exact ⟨rfl, rfl, rfl⟩
  refine ws_seq ?_
  refine ws_for (fun ds e m => ∃ (ms : List Mv) (h' : MO) (e5 : Option D), ds.length + ms.length ≤ 3 ∧ (∀ m ∈ ms, MvG m) ∧ IsHand h' ∧ e = [some (.loc 0), some (.lst (l.map .str)), some (.lst (p.map .str)), some (.int 3), some (.loc 1), e5] ∧ m = [h', .lst (ms.map eM)]) ?_ ?_ ?_
  · refine wa_it1 (wa_cons (we_call (wa_cons (we_va rfl (wa_cons (we_bin2 (we_va rfl (we_c (wq_i rfl (wa_nil ?_)))))))))) 
    refine take_wp (rest := [.lst []]) hh (by decide) (by decide) fun v h' hh' v0 v1 => ?_
    refine wa_nil ⟨_, rfl, by omega, [], h', none, ?_, ?_, hh', rfl, rfl⟩
    · rw [rngD_len, List.length_nil]; omega
    · intro z hz; cases hz
  · rintro d ds e m ⟨ms, h1, e5, l1, hms, hh1, rfl, rfl⟩
    rw [List.length_cons] at l1
    refine wg_nm (ws_drop (we_app (we_va rfl ⟨1, _, rfl, rfl, we_tup (wa_cons (we_call (wa_cons (we_va rfl (wa_nil ?_)))))⟩)))
    refine delay_wp (rest := [.lst (ms.map eM)]) hh1 fun dl h2 hh2 d0 => ?_
    refine wa_cons ?_
    refine pick_wp (rest := [.lst (ms.map eM)]) (l := l) hl hh2 rfl rfl fun hr h3 hh3 hhe => ?_
    refine wa_cons ?_
    refine pick_wp (rest := [.lst (ms.map eM)]) (l := p) hp hh3 rfl rfl fun pl h4 hh4 hpl => ?_
    refine wa_nil ⟨rfl, ?_⟩
    refine ⟨_, rfl, rfl, ble_far (by rw [List.length_map]; omega), ?_⟩
    refine turn_nx' ⟨ms ++ [⟨dl, hr, pl⟩], _, _, ?_, ?_, hh4, rfl, ?_⟩
    · rw [List.length_append, List.length_singleton]; omega
    · intro x hx
      rcases List.mem_append.mp hx with hx | hx
      · exact hms x hx
      · rw [List.mem_singleton.mp hx]; exact ⟨d0, hhe, hpl⟩
    · simp [eM]
  · rintro e m ⟨ms, h1, e5, l1, hms, hh1, rfl, rfl⟩
    refine nxt_nx (ws_ret (we_frz (we_va rfl ⟨1, _, rfl, rfl, ?_⟩)))
    exact ⟨_, h1, [.gone], rfl, rfl, rfl, k ms h1 hh1 (by simpa using l1) hms⟩
theorem made_steps_eq {ms : List Mv} (hl : ms.length ≤ 3) (hm : ∀ m ∈ ms, MvG m) (mu : Mem) : F__law_made_steps [.lst (ms.map eM)] mu = some (.lst (ms.map eStep), mu) := by
  refine df_pure ?_ rfl
  unfold b__law_made_steps
  refine ws_ret ?_
  refine we_map (items := ms.map eM) (outs := ms.map eStep) (m0 := mu) ?_ (by simp) (by simp; omega) (by simp [eStep, isMut]) ?_ ?_
  · refine wa_itL ?_
    walk_at "ev"
    exact ⟨rfl, rfl⟩
  · intro q x v acc hx2 hv
    rw [List.getElem?_map] at hx2
    obtain ⟨mq, hq, rfl⟩ := Option.map_eq_some_iff.mp hx2
    rw [List.getElem?_map, hq] at hv
    cases hv
    have hq2 := hm mq (List.mem_of_getElem? hq)
    unfold eM
    walk_at "ev"
    refine mk_step (dl := mq.dl) (h := mq.h) (p := mq.p) (m := mu ++ [.lst acc]) ?_ hq2.1 hq2.2.1 hq2.2.2 ?_
    · walk_at "ev"
      exact ⟨rfl, rfl⟩
    · exact ⟨rfl, rfl⟩
  · exact ⟨rfl, rfl⟩
structure SpG (s : Spo) : Prop where
  f1 : NameOk s.t
  f2 : NameOk s.h
  f3 : NameOk s.p
theorem made_sit_eq {s : Spo} (hs : SpG s) (mu : Mem) : F__law_made_situation [eS s] mu = some (eSit s, mu) := by
  refine df_pure ?_ rfl
  unfold b__law_made_situation eS
  refine ws_ret ?_
  refine mk_sit (t := s.t) (h := s.h) (d := s.d) (p := s.p) (m := mu) ?_ hs.f1 hs.f2 hs.f3 ⟨rfl, rfl⟩
  walk_at "ev"
  exact ⟨rfl, rfl⟩
theorem moved_eq {s : Spo} (hs : SpG s) (i : Int) (mu : Mem) : F_Situation_moved [eSit s, .int i] mu = some (eSit { s with d := s.d + i }, mu) := by
  refine df_pure ?_ rfl
  unfold b_Situation_moved eSit
  apply ws_then
  · walk_at "ev"
    exact ⟨rfl, rfl, rfl⟩
  refine ws_ret ?_
  refine mk_sit (t := s.t) (h := s.h) (d := s.d + i) (p := s.p) (m := mu) ?_ hs.f1 hs.f2 hs.f3 ⟨rfl, rfl⟩
  walk_at "ev"
  exact ⟨rfl, rfl⟩
end T
/-! Pu22: results are kept as given. -/
namespace T
open PySem PySem.Spec PyProof.Rows L2 Dm
local macro_rules | `(tactic| walk_at "sp") => `(tactic| fail)
local macro_rules | `(tactic| walk_at "ev") => `(tactic| repeat (first
  | apply_rules -exfalso (transparency := .reducible) (maxDepth := 100000) only [ws_seq, nxt_nx, ws_set, ws_if, ws_ret, ws_nx, we_c, we_bin2, wt_bS, wt_not, wt_or, we_and, wa_nil, wa_cons, we_tup, we_callQ, we_isi, we_fld, we_call, we_met, ex_bl]
  | (apply_rules -exfalso (transparency := .reducible) (maxDepth := 1) only [we_va]; exact rfl)
  | (apply_rules -exfalso (transparency := .reducible) (maxDepth := 1) only [ok_and]; first | rfl | focus (simp [okItems]; done) | focus (simp [okItems, *]; done))
  | with_reducible refine wf_of (by assumption) ?_
  | walk_at "sp"
  | (apply_rules -exfalso (transparency := .reducible) (maxDepth := 1) only [wq_i]; exact rfl)
  | (apply_rules -exfalso (transparency := .reducible) (maxDepth := 1) only [br_t]; first | assumption | decide +kernel | rfl)
  | (apply_rules -exfalso (transparency := .reducible) (maxDepth := 1) only [br_f]; first | assumption | decide +kernel | rfl)
  | (apply_rules -exfalso (transparency := .reducible) (maxDepth := 1) only [rb_f]; first | assumption | decide +kernel | rfl)))
theorem ok_ii {c : Nat} {a b : D} {P : Prop} (h1 : isIns c a = true) (h2 : anyIns b = true) (k : P) : isIns c a = true ∧ anyIns b = true ∧ P := ⟨h1, h2, k⟩
theorem mkW {ga : SA} {de : Dm.Env} {mu : Mem} {Q : D → Mem → Prop} (h : wa ga de mu fun ds m => ∃ x y, ds = [x, y] ∧ isMut x = false ∧ isMut y = false ∧ Q (.ins 4 [x, y]) m) : we (mkF 4 F_WrongChain_init ga) de mu Q := by
  obtain ⟨ds, m, e, x, y, rfl, hx, hy, k⟩ := h
  exact we_mkI ⟨_, _, e, [x, y], wrong_init hx hy m, rfl, k⟩
theorem exW {a b : D} {Q : D → D → Prop} (h1 : isMut a = false) (h2 : isMut b = false) (k : Q a b) : ∃ x y, [a, b] = [x, y] ∧ isMut x = false ∧ isMut y = false ∧ Q x y := ⟨a, b, rfl, h1, h2, k⟩
theorem mkT {ga : SA} {de : Dm.Env} {mu : Mem} {Q : D → Mem → Prop} (h : wa ga de mu fun ds m => ∃ x y z, ds = [x, y, z] ∧ isMut x = false ∧ isMut y = false ∧ isMut z = false ∧ Q (.ins 5 [x, y, z]) m) : we (mkF 5 F_TalkErr_init ga) de mu Q := by
  obtain ⟨ds, m, e, x, y, z, rfl, hx, hy, hz, k⟩ := h
  exact we_mkI ⟨_, _, e, [x, y, z], talk_init hx hy hz m, rfl, k⟩
theorem exT {a b c : D} {Q : D → D → D → Prop} (h1 : isMut a = false) (h2 : isMut b = false) (h3 : isMut c = false) (k : Q a b c) : ∃ x y z, [a, b, c] = [x, y, z] ∧ isMut x = false ∧ isMut y = false ∧ isMut z = false ∧ Q x y z := ⟨a, b, c, rfl, h1, h2, h3, k⟩
theorem mkS {ga : SA} {de : Dm.Env} {mu : Mem} {Q : D → Mem → Prop} (h : wa ga de mu fun ds m => ∃ x y z, ds = [.int x, .str y, .str z] ∧ 0 ≤ x ∧ NameOk y ∧ NameOk z ∧ Q (.ins 1 [.int x, .str y, .str z]) m) : we (mkF 1 F_Step_init ga) de mu Q := by
  obtain ⟨ds, m, e, x, y, z, rfl, hx, hy, hz, k⟩ := h
  exact we_mkI ⟨_, _, e, [.int x, .str y, .str z], step_init hx hy hz m, rfl, k⟩
theorem exS {a : Int} {b c : Str} {Q : Int → Str → Str → Prop} (h1 : 0 ≤ a) (h2 : NameOk b) (h3 : NameOk c) (k : Q a b c) : ∃ x y z, [D.int a, .str b, .str c] = [.int x, .str y, .str z] ∧ 0 ≤ x ∧ NameOk y ∧ NameOk z ∧ Q x y z := ⟨a, b, c, rfl, h1, h2, h3, k⟩
local macro_rules | `(tactic| walk_at "sp") => `(tactic| first | with_reducible refine we_eqI ?_ | ((with_reducible apply ok_ii); (focus rfl); (focus rfl)) | with_reducible refine mkW ?_ | with_reducible refine mkT ?_ | with_reducible refine mkS ?_ | ((with_reducible apply exW); (focus rfl); (focus rfl)) | ((with_reducible apply exT); (focus rfl); (focus rfl); (focus rfl)) | ((with_reducible apply exS); (focus decide); (focus assumption); (focus assumption)))
theorem sit_yes (s : Spo) (mu : Mem) : F_Situation_eq [eSit s, eSit s] mu = some (.bl true, mu) := by
  refine df_pure ?_ rfl
  unfold b_Situation_eq eSit
  have e1 : decide (s.t = s.t) = true := decide_eq_true rfl
  have e2 : decide (s.h = s.h) = true := decide_eq_true rfl
  have e3 : decide (s.d = s.d) = true := decide_eq_true rfl
  walk_at "ev"
  exact ⟨by simp, rfl⟩
theorem sit_no (s : Spo) {i : Int} (hi : i ≠ 0) (mu : Mem) : F_Situation_eq [eSit s, eSit { s with d := s.d + i }] mu = some (.bl false, mu) := by
  refine df_pure ?_ rfl
  unfold b_Situation_eq eSit
  have e1 : decide (s.t = s.t) = true := decide_eq_true rfl
  have e2 : decide (s.h = s.h) = true := decide_eq_true rfl
  have e3 : decide (s.d = s.d + i) = false := decide_eq_false (by omega)
  walk_at "ev"
  exact ⟨rfl, rfl⟩
theorem stepB_yes (m : Mv) : stepB (eStep m) (eStep m) = true := by simp [stepB, eStep]
theorem stepsB_yes : ∀ (ms : List Mv) (r : List D), stepsB (ms.map eStep) (ms.map eStep ++ r) = true
  | [], [] => rfl
  | [], _ :: _ => rfl
  | m :: ms, r => by
    show (stepB (eStep m) (eStep m) && stepsB (ms.map eStep) (ms.map eStep ++ r)) = true
    rw [stepB_yes, stepsB_yes ms r]
    rfl
theorem eqT_app (ms : List Mv) (r : List D) (m : Mem) : eqTQ m (.tup (ms.map eStep)) (.tup (ms.map eStep ++ r)) = some (.bl (decide (r = []))) := by
  show (if stepsB (ms.map eStep) (ms.map eStep ++ r) then some ((ms.map eStep).length == (ms.map eStep ++ r).length) else none).map D.bl = _
  rw [if_pos (stepsB_yes ms r), List.length_append]
  cases r with
  | nil => simp
  | cons x r => simp
theorem eqT_self (ms : List Mv) (m : Mem) : eqTQ m (.tup (ms.map eStep)) (.tup (ms.map eStep)) = some (.bl true) := by
  have := eqT_app ms [] m
  rw [List.append_nil] at this
  exact this
theorem neT_self (ms : List Mv) (m : Mem) : neTQ m (.tup (ms.map eStep)) (.tup (ms.map eStep)) = some (.bl false) := by
  have h := stepsB_yes ms []
  rw [List.append_nil] at h
  show (if stepsB (ms.map eStep) (ms.map eStep) then some ((ms.map eStep).length == (ms.map eStep).length) else none).map (fun b => D.bl (!b)) = _
  rw [if_pos h]
  simp
theorem eqT_more (ms : List Mv) (x : D) (m : Mem) : eqTQ m (.tup (ms.map eStep)) (.tup (ms.map eStep ++ [x])) = some (.bl false) := eqT_app ms [x] m
local macro_rules | `(tactic| walk_at "sp") => `(tactic| first | with_reducible refine wq_i (eqT_self _ _) ?_ | with_reducible refine wq_i (neT_self _ _) ?_ | with_reducible refine wq_i (eqT_more _ _ _) ?_)
theorem wc_yes (s : Spo) (ms : List Mv) (mu : Mem) : F_WrongChain_eq [.ins 4 [eSit s, .tup (ms.map eStep)], .ins 4 [eSit s, .tup (ms.map eStep)]] mu = some (.bl true, mu) := by
  refine df_pure ?_ rfl
  unfold b_WrongChain_eq
  have h0 := sit_yes s mu
  walk_at "ev"
  exact ⟨rfl, rfl⟩
theorem wc_more (s : Spo) (ms : List Mv) (x : D) (mu : Mem) : F_WrongChain_eq [.ins 4 [eSit s, .tup (ms.map eStep)], .ins 4 [eSit s, .tup (ms.map eStep ++ [x])]] mu = some (.bl false, mu) := by
  refine df_pure ?_ rfl
  unfold b_WrongChain_eq
  have h0 := sit_yes s mu
  walk_at "ev"
  exact ⟨rfl, rfl⟩
theorem wc_no (s : Spo) (ms : List Mv) {i : Int} (hi : i ≠ 0) (mu : Mem) : F_WrongChain_eq [.ins 4 [eSit s, .tup (ms.map eStep)], .ins 4 [eSit { s with d := s.d + i }, .tup (ms.map eStep)]] mu = some (.bl false, mu) := by
  refine df_pure ?_ rfl
  unfold b_WrongChain_eq
  have h0 := sit_no s hi mu
  walk_at "ev"
  exact ⟨rfl, rfl⟩
theorem wc_talk (x : D) (ds : List D) (mu : Mem) : F_WrongChain_eq [x, .ins 5 ds] mu = some (.bl false, mu) := by
  refine df_pure ?_ rfl
  unfold b_WrongChain_eq
  walk_at "ev"
  exact ⟨rfl, rfl⟩
theorem talk_yes (s : Spo) (ms : List Mv) (mu : Mem) : F_TalkErr_eq [.ins 5 [.tup [.int 1], .int 2, .ins 4 [eSit s, .tup (ms.map eStep)]], .ins 5 [.tup [.int 1], .int 2, .ins 4 [eSit s, .tup (ms.map eStep)]]] mu = some (.bl true, mu) := by
  refine df_pure ?_ rfl
  unfold b_TalkErr_eq
  have h0 := wc_yes s ms mu
  walk_at "ev"
  exact ⟨rfl, rfl⟩
theorem talk_path (c : D) (mu : Mem) : F_TalkErr_eq [.ins 5 [.tup [.int 1], .int 2, c], .ins 5 [.tup [.int 0], .int 2, c]] mu = some (.bl false, mu) := by
  refine df_pure ?_ rfl
  unfold b_TalkErr_eq
  walk_at "ev"
  exact ⟨rfl, rfl⟩
theorem talk_ix (c : D) (mu : Mem) : F_TalkErr_eq [.ins 5 [.tup [.int 1], .int 2, c], .ins 5 [.tup [.int 1], .int 0, c]] mu = some (.bl false, mu) := by
  refine df_pure ?_ rfl
  unfold b_TalkErr_eq
  walk_at "ev"
  exact ⟨rfl, rfl⟩
theorem talk_no (s : Spo) (ms : List Mv) {i : Int} (hi : i ≠ 0) (mu : Mem) : F_TalkErr_eq [.ins 5 [.tup [.int 1], .int 2, .ins 4 [eSit s, .tup (ms.map eStep)]], .ins 5 [.tup [.int 1], .int 2, .ins 4 [eSit { s with d := s.d + i }, .tup (ms.map eStep)]]] mu = some (.bl false, mu) := by
  refine df_pure ?_ rfl
  unfold b_TalkErr_eq
  have h0 := wc_no s ms hi mu
  walk_at "ev"
  exact ⟨rfl, rfl⟩
theorem moved_eq' {s : Spo} (hs : SpG s) (i : Int) (mu : Mem) : F_Situation_moved [.ins 0 [.str s.t, .str s.h, .int s.d, .str s.p], .int i] mu = some (eSit { s with d := s.d + i }, mu) := moved_eq hs i mu
theorem ex_sit {s : Spo} {Q : List D → Prop} (k : Q [.str s.t, .str s.h, .int s.d, .str s.p]) : ∃ ds, eSit s = .ins 0 ds ∧ Q ds := ⟨_, rfl, k⟩
theorem results_eq {h : MO} {l p : List Str} (hh : IsHand h) (l1 : l.length = 3) (l2 : ∀ z ∈ l, NameOk z) (p1 : p.length = 2) (p2 : ∀ z ∈ p, NameOk z) : wf F__law_results_right [.loc 0, .lst (l.map .str), .lst (p.map .str)] [h] fun d _ => d = .bl true := by
  refine wf_H (rest := []) ?_
  unfold b__law_results_right
  refine ws_seq (ws_set (we_call (wa_cons (we_va rfl (wa_cons (we_va rfl (wa_cons (we_va rfl (wa_nil ?_)))))))))
  refine spot_wp (l := l) (p := p) ⟨by omega, by omega, l2⟩ ⟨by omega, by omega, p2⟩ hh fun s h1 hh1 s1 s2 s3 => ?_
  have hs : SpG s := ⟨s1, s2, s3⟩
  refine nxt_nx ?_
  refine ws_seq (ws_set (we_call (wa_cons (we_va rfl (wa_cons (we_va rfl (wa_cons (we_va rfl (wa_cons (we_c (wa_nil ?_)))))))))))
  refine moves_wp (l := l) (p := p) ⟨by omega, by omega, l2⟩ ⟨by omega, by omega, p2⟩ hh1 fun ms h2 hh2 ml mg => ?_
  refine nxt_nx ?_
  match l, p, l1, p1, l2, p2 with
  | [a, b, c], [u, v], _, _, l2, p2 =>
    have ha := l2 a List.mem_cons_self
    have hu := p2 u List.mem_cons_self
    have e1 : ∀ mu, F__law_made_situation [eS s] mu = some (eSit s, mu) := made_sit_eq hs
    have e2 : ∀ mu, F__law_made_steps [.lst (ms.map eM)] mu = some (.lst (ms.map eStep), mu) := made_steps_eq ml mg
    have e3 : ∀ (x : D) (mu : Mem), addQ mu (.tup (ms.map eStep)) (.tup [x]) = some (.tup (ms.map eStep ++ [x])) := fun x mu => add_tup (by simp; omega)
    have e1 := e1 [h2]
    have e2 := e2 [h2]
    have s0 := sit_yes s [h2]
    have m1 := moved_eq' hs 1 [h2]
    have m2 := moved_eq' hs 2 [h2]
    have w1 := wc_yes s ms [h2]
    have w2 := wc_no s ms (i := 1) (by decide) [h2]
    have w3 := wc_more s ms (.ins 1 [.int 0, .str a, .str u]) [h2]
    have w4 := wc_talk (.ins 4 [eSit s, .tup (ms.map eStep)]) [.tup [.int 1], .int 2, .ins 4 [eSit s, .tup (ms.map eStep)]] [h2]
    have t1 := talk_yes s ms [h2]
    have t2 := talk_path (.ins 4 [eSit s, .tup (ms.map eStep)]) [h2]
    have t3 := talk_ix (.ins 4 [eSit s, .tup (ms.map eStep)]) [h2]
    have t4 := talk_no s ms (i := 2) (by decide) [h2]
    apply ws_then
    · walk_at "ev"
      exact ⟨rfl, rfl, rfl⟩
    apply ws_then
    · walk_at "ev"
      exact ⟨rfl, rfl, rfl⟩
    apply ws_then
    · walk_at "ev"
      exact ⟨rfl, rfl, rfl⟩
    apply ws_then
    · walk_at "ev"
      refine ex_sit ?_
      walk_at "ev"
      exact ⟨rfl, rfl, rfl⟩
    apply ws_then
    · walk_at "ev"
      refine wq_i (e3 _ _) ?_
      walk_at "ev"
      exact ⟨rfl, rfl, rfl⟩
    apply ws_then
    · walk_at "ev"
      exact ⟨rfl, rfl, rfl⟩
    apply ws_then
    · walk_at "ev"
      refine ex_sit ?_
      walk_at "ev"
      exact ⟨rfl, rfl, rfl⟩
    walk_at "ev"
    exact ⟨_, h2, [], rfl, rfl, rfl, rfl⟩
end T
/-! Pu23: the law's whole answer. -/
namespace T
open PySem PySem.Spec PyProof.Rows L2 Dm
local macro_rules | `(tactic| walk_at "ev") => `(tactic| repeat (first
  | apply_rules -exfalso (transparency := .reducible) (maxDepth := 100000) only [ws_seq, nxt_nx, ws_set, ws_if, ws_ret, ws_nx, ws_asg, we_c, we_bin2, wt_bS, wt_tr, wt_not, we_if, wa_nil, wa_cons, we_tup, we_lst, we_call, wg_nm, wgs_nil, wgs_cons, ex_bl]
  | (apply_rules -exfalso (transparency := .reducible) (maxDepth := 1) only [we_va]; exact rfl)
  | (apply_rules -exfalso (transparency := .reducible) (maxDepth := 1) only [ok_and]; first | rfl | focus (simp [okItems]; done) | focus (simp [okItems, *]; done))
  | with_reducible refine wg_unl rfl ?_
  | with_reducible refine wf_of (by assumption) ?_
  | apply_rules -exfalso (transparency := .reducible) (maxDepth := 1) only [wq_i (in_perL _), wq_i (ix_w _)]
  | (((with_reducible apply take_wp); (focus assumption); (focus (first | omega | decide)); (focus (first | omega | decide)); intro _ _ _ _ _))
  | (apply_rules -exfalso (transparency := .reducible) (maxDepth := 1) only [wq_i]; exact rfl)
  | (apply_rules -exfalso (transparency := .reducible) (maxDepth := 1) only [br_t]; first | assumption | decide +kernel | rfl)
  | (apply_rules -exfalso (transparency := .reducible) (maxDepth := 1) only [br_f]; first | assumption | decide +kernel | rfl)))
theorem ffrom_lt {α : Type} {f : α → Bool} {l : List α} {j : Nat} (h : ffrom f l 0 = some j) : j < l.length := by
  obtain ⟨_, r, h1, _⟩ := ffrom_some h
  exact (List.getElem?_eq_some_iff.mp h1).1
theorem trans_num {b : Bk} (hb : BkOk b) : ∀ s c k, (trans b s c).1 = some k → k < 63 := by
  have hp : ∀ (f : PR → Bool) k, (ffrom f b.ps 0).map (fun i => b.days.length + i) = some k → k < 63 := fun f k h => by
    obtain ⟨j, h1, rfl⟩ := Option.map_eq_some_iff.mp h
    have := ffrom_lt h1
    have := hb.f2
    have := hb.f3
    omega
  have hq : ∀ (f : QR → Bool) k, (ffrom f b.qs 0).map (fun i => b.days.length + b.ps.length + i) = some k → k < 63 := fun f k h => by
    obtain ⟨j, h1, rfl⟩ := Option.map_eq_some_iff.mp h
    have := ffrom_lt h1
    have := hb.f2
    have := hb.f3
    have := hb.f4
    omega
  intro s c k h
  cases s with
  | I x => exact hp _ k h
  | you x => exact hp _ k h
  | name x y => exact hp _ k h
  | here => exact hq _ k h
  | place x => exact hq _ k h
theorem same_words_eq {b o : Bk} {w : Wo} (hb : BkOk b) (ho : BkOk o) (hw : WOk w) (h : MO) : F__law_same_words [eLB b, eW w, eLB o] [h] = some (.bl true, [h]) := by
  refine df_pure ?_ rfl
  unfold b__law_same_words
  refine ws_bind (R := fun o' e m => o' = .nx ∧ (e = [some (eLB b), some (eW w), some (eLB o), some (eLB ⟨o.days, b.ps, o.qs⟩)] ∨ e = [some (eLB b), some (eW w), some (eLB o), some (eLB ⟨o.days, o.ps, b.qs⟩)]) ∧ m = [h]) ?_ ?_
  · refine ws_set (we_if ?_)
    cases w with
    | pI => walk_at "ev"; exact ⟨rfl, .inl rfl, rfl⟩
    | pyou => walk_at "ev"; exact ⟨rfl, .inl rfl, rfl⟩
    | pname n => walk_at "ev"; exact ⟨rfl, .inl rfl, rfl⟩
    | here => walk_at "ev"; exact ⟨rfl, .inr rfl, rfl⟩
    | place n => walk_at "ev"; exact ⟨rfl, .inr rfl, rfl⟩
  · rintro o' e m ⟨rfl, he, rfl⟩
    have B1 : BkOk ⟨o.days, b.ps, o.qs⟩ := ⟨ho.f1, ho.f2, hb.f3, ho.f4⟩
    have B2 : BkOk ⟨o.days, o.ps, b.qs⟩ := ⟨ho.f1, ho.f2, ho.f3, hb.f4⟩
    have m1 := made_book_eq B1 h
    have m2 := made_book_eq B2 h
    have a1 := answer_right_eq ⟨o.days, b.ps, o.qs⟩ w h hw (trans_num B1)
    have a2 := answer_right_eq ⟨o.days, o.ps, b.qs⟩ w h hw (trans_num B2)
    rcases he with rfl | rfl
    · walk_at "ev"
      exact ⟨rfl, rfl⟩
    · walk_at "ev"
      exact ⟨rfl, rfl⟩
theorem law_true {ns : List Int} (hn : ns.length ≤ 63) : ∃ mu', F_law [.lst (ns.map .int)] [] = some (.bl true, mu') := by
  obtain ⟨h0, hh0, e0⟩ := hand_eq hn
  have key : ws b_law (startD 10 [.lst (ns.map .int)]) [] fun o _ _ => o = .rt (.bl true) := by
    unfold b_law
    refine ws_seq (ws_set (we_call (wa_cons (we_va rfl (wa_nil (wf_of e0 (nxt_nx ?_)))))))
    refine ws_seq (ws_asg (we_call (wa_cons (we_va rfl (wa_nil ?_)))))
    refine world_wp hh0 fun l p h1 hh1 l1 l2 p1 p2 => ?_
    match l, p, l1, p1, l2, p2 with
    | [a, b, c], [u, v], l1, p1, l2, p2 =>
      have ha := l2 a List.mem_cons_self
      have hu := p2 u List.mem_cons_self
      refine wg_unl rfl (wgs_cons (wg_nm (wgs_cons (wg_nm (wgs_nil (nxt_nx ?_))))))
      refine ws_bind (R := fun o e m => o = .nx ∧ ∃ (W : List Wo) (h' : MO), W.length = 7 ∧ (∀ w ∈ W, WOk w) ∧ IsHand h' ∧ e = [some (.lst (ns.map .int)), some (.loc 0), some (.lst ([a, b, c].map .str)), some (.lst ([u, v].map .str)), some (.lst (W.map eW)), none, none, none, none, none] ∧ m = [h']) ?_ ?_
      · refine ws_set ?_
        walk_at "ev"
        obtain ⟨n, hn, hx⟩ := ix_list (f := D.str) (m := _ :: ([] : Mem)) (l := ["a", "b", "c"]) (by assumption) (by
          show _ < ((3 : Nat) : Int)
          omega)
        refine wq_i hx ?_
        clear hx
        walk_at "ev"
        obtain ⟨q, hq, hx⟩ := ix_list (f := D.str) (m := _ :: ([] : Mem)) (l := ["a", "b"]) (by assumption) (by
          show _ < ((2 : Nat) : Int)
          omega)
        refine wq_i hx ?_
        clear hx
        walk_at "ev"
        refine ⟨rfl, [.pI, .pyou, .pname a, .here, .place u, .pname n, .place q], _, rfl, ?_, by assumption, rfl, rfl⟩
        have hn : NameOk n := by
          simp only [List.mem_cons, List.not_mem_nil, or_false] at hn
          rcases hn with rfl | rfl | rfl
          · exact nok_a
          · exact nok_b
          · exact nok_c
        have hq : NameOk q := by
          simp only [List.mem_cons, List.not_mem_nil, or_false] at hq
          rcases hq with rfl | rfl
          · exact nok_a
          · exact nok_b
        intro w hw
        simp only [List.mem_cons, List.not_mem_nil, or_false] at hw
        rcases hw with rfl | rfl | rfl | rfl | rfl | rfl | rfl
        · exact trivial
        · exact trivial
        · exact ha
        · exact trivial
        · exact hu
        · exact hn
        · exact hq
      rintro o e m ⟨rfl, W, h2, hW, wok, hh2, rfl, rfl⟩
      refine nxt_nx (ws_seq ?_)
      refine ws_for (fun ds e m => ∃ (h' : MO) (e5 e6 e7 e8 e9 : Option D), IsHand h' ∧ e = [some (.lst (ns.map .int)), some (.loc 0), some (.lst ([a, b, c].map .str)), some (.lst ([u, v].map .str)), some (.lst (W.map eW)), e5, e6, e7, e8, e9] ∧ m = [h']) ?_ ?_ ?_
      · refine wa_it1 ?_
        walk_at "ev"
        exact ⟨_, rfl, by decide, h2, _, _, _, _, _, hh2, rfl, rfl⟩
      · rintro d ds e m ⟨h3, e5, e6, e7, e8, e9, hh3, rfl, rfl⟩
        refine wg_nm ?_
        refine ws_seq (ws_set (we_call (wa_cons (we_va rfl (wa_cons (we_c (wa_nil ?_)))))))
        refine wf_mono (book_eq hh3) ?_
        rintro _ _ ⟨bk, h4, hh4, hbk, rfl, rfl⟩
        refine nxt_nx (ws_seq (ws_set (we_call (wa_cons (we_va rfl (wa_cons (we_c (wa_nil ?_))))))))
        refine wf_mono (book_eq hh4) ?_
        rintro _ _ ⟨bo, h5, hh5, hbo, rfl, rfl⟩
        refine nxt_nx (ws_seq (ws_set (we_call (wa_cons (we_va rfl (wa_nil (wf_of (made_book_eq hbk h5) (nxt_nx ?_))))))))
        refine ws_seq ?_
        refine ws_for (fun ds e m => ∃ (rem : List Wo) (e9 : Option D), ds = rem.map eW ∧ (∀ w ∈ rem, WOk w) ∧ e = [some (.lst (ns.map .int)), some (.loc 0), some (.lst ([a, b, c].map .str)), some (.lst ([u, v].map .str)), some (.lst (W.map eW)), some d, some (eLB bk), some (eLB bo), some (eMB bk), e9] ∧ m = [h5]) ?_ ?_ ?_
        · refine wa_itL (we_va rfl ⟨_, rfl, W, _, rfl, wok, rfl, rfl⟩)
        · rintro x xs e m ⟨rem, e9, h6, h7, rfl, rfl⟩
          cases rem with
          | nil => cases h6
          | cons w rem =>
            cases h6
            refine wg_nm (ws_if (wt_not (wt_tr (we_call (wa_cons (we_va rfl (wa_cons (we_va rfl (wa_cons (we_va rfl (wa_nil (wf_of (answer_right_eq bk w h5 (h7 w List.mem_cons_self) (trans_num hbk)) (wq_i rfl ?_)))))))))))))
            refine ⟨(fun z => by cases z), fun _ => ws_nx ?_⟩
            exact turn_nx' ⟨rem, _, rfl, fun w hw => h7 w (List.mem_cons_of_mem _ hw), rfl, rfl⟩
        · rintro e m ⟨rem, e9, h6, h7, rfl, rfl⟩
          refine nxt_nx (ws_if (wt_not (wt_tr (we_call (wa_cons (we_va rfl (wa_cons (we_bin2 (we_va rfl (we_call (wa_cons (we_va rfl (wa_cons (we_c (wa_nil ?_)))))))))))))))
          refine take_wp (rest := []) hh5 (by decide) (by decide) fun i h6 hh6 i0 i1 => ?_
          obtain ⟨w, hw, hx⟩ := ix_list (f := eW) (m := [h6]) (l := W) i0 (by rw [hW]; exact i1)
          refine wq_i hx (wa_cons (we_va rfl (wa_nil ?_)))
          refine wf_of (same_words_eq hbk hbo (wok w hw) h6) (wq_i rfl ?_)
          refine ⟨(fun z => by cases z), fun _ => ws_nx ?_⟩
          exact turn_nx' ⟨h6, _, _, _, _, _, hh6, rfl, rfl⟩
      · rintro e m ⟨h3, e5, e6, e7, e8, e9, hh3, rfl, rfl⟩
        refine nxt_nx (ws_ret (we_call (wa_cons (we_va rfl (wa_cons (we_va rfl (wa_cons (we_va rfl (wa_nil ?_)))))))))
        refine wf_mono (results_eq hh3 l1 l2 p1 p2) ?_
        rintro d m rfl
        rfl
  obtain ⟨o, e, m, e1, rfl⟩ := key
  exact ⟨_, by unfold F_law defD; rw [e1]; rfl⟩
end T
/-! Hd2: from what the top leaves to what the walk asks: constants, the table, classes. -/
namespace Hd
open PySem PySem.W PySem.Calls PyProof.Rows T
open He (ba)
theorem nd : nms.Nodup := by decide +kernel
theorem tupA_ok {K : Frag} {a : Addr} {vs : List He.Dv} (h : tupA K a vs = true) (H : L2.Hp) : L2.SqT K H a (vs.map (He.Dv.v K)) := by
  unfold tupA at h
  cases q : K.lookup a with
  | none =>
    rw [q] at h
    cases h
  | some o =>
    obtain ⟨oc, od, dt, osl⟩ := o
    rw [q] at h
    cases oc with
    | type c =>
      cases dt with
      | seq its n =>
        obtain ⟨h1, h2⟩ := ba (show (decide (c = "tuple") && (decide (its.size ≤ sizeLine) && He.relAll (vs.map (He.Dv.v K)) its.toList)) = true from h)
        obtain ⟨h3, h4⟩ := ba h2
        exact .inr ⟨_, its, n, q, congrArg Value.type (of_decide_eq_true h1), rfl, of_decide_eq_true h3, He.relAll_ok h4⟩
      | _ => cases h
    | _ => cases h
/-- what a class is -/
structure ClsX (K : Frag) (mg : PySem.Str → Option Value) (i : Nat) (x : PySem.Str) (fs : List PySem.Str) (ms : List (PySem.Str × He.DefD)) : Prop where
  at_ : mg x = some (.ref (He.ga K x))
  cls : L2.Cls K (He.ga K x)
  no : ∀ f ∈ fs, L2.NoAttr K (He.ga K x) f
  mks : makesIn K (He.ga K x) = true
  kp : keepIn K (.ref (He.ga K x)) = true
  mts : (ms.all fun m => methA K (He.ga K x) m) = true
  vals : (ms.map fun m => fnWA K (He.ma K (He.ga K x) m.1)) = ms.map fun m => m.2.val
  ca : findIn K (.ref (He.ga K x)) "__class__" = some (some (.builtin "object.__class__"))
  mo : mroIn K (He.ga K x) (.type "object") = some true
  pos : refAt (rest K) i = He.ga K x
section
variable {w : World} {K : Frag} {h : Heap} {mg : PySem.Str → Option Value}
theorem free (X : K.In h) (G : h.Ns mainGlobals mg) (c : SaysH nms sps ci ti ks w K) {x : PySem.Str} (hx : x ∉ nms) (hd : dun x = false) : mg x = none := mg_none_of X G (free_ c hx hd (by decide))
theorem hasI (X : K.In h) (G : h.Ns mainGlobals mg) (c : SaysH nms sps ci ti ks w K) (i : Nat) {x : PySem.Str} {n : Int} (hx : nms[i]? = some x) (hs : sps[i]? = some (.vi n)) (hd : dun x = false) : Dm.HasC K mg x (.int n) := by
  obtain ⟨e, _, h1, h2⟩ := at_ c hx hs hd nd
  cases hv : e.val with
  | int j t =>
    rw [hv] at h1 h2
    have h3 : ((decide (j = n), []) : Ax) = (true, []) := h2
    have h4 : j = n := of_decide_eq_true (congrArg (fun z : Ax => z.1) h3)
    subst h4
    exact ⟨_, .int j, mg_of X G h1, ⟨t, rfl⟩, fun W => Dm.r_int⟩
  | _ =>
    rw [hv] at h2
    have h3 := congrArg (fun z : Ax => z.1) h2
    cases h3
theorem hasS (X : K.In h) (G : h.Ns mainGlobals mg) (c : SaysH nms sps ci ti ks w K) (i : Nat) {x : PySem.Str} {n : PySem.Str} (hx : nms[i]? = some x) (hs : sps[i]? = some (.vs n)) (hd : dun x = false) : Dm.HasC K mg x (.str n) := by
  obtain ⟨e, _, h1, h2⟩ := at_ c hx hs hd nd
  cases hv : e.val with
  | str j t =>
    rw [hv] at h1 h2
    have h3 : ((decide (j = n), []) : Ax) = (true, []) := h2
    have h4 : j = n := of_decide_eq_true (congrArg (fun z : Ax => z.1) h3)
    subst h4
    exact ⟨_, .str j, mg_of X G h1, ⟨t, rfl⟩, fun W => Dm.r_str⟩
  | _ =>
    rw [hv] at h2
    have h3 := congrArg (fun z : Ax => z.1) h2
    cases h3
theorem hasT (X : K.In h) (G : h.Ns mainGlobals mg) (c : SaysH nms sps ci ti ks w K) (i : Nat) {x : PySem.Str} {t : List He.Dv} {ds : List Dm.D} (hr : ∀ B, Dm.RepA K B ds (t.map (He.Dv.v K))) (hx : nms[i]? = some x) (hs : sps[i]? = some (.tu t)) (hd : dun x = false) : Dm.HasC K mg x (.tup ds) := by
  obtain ⟨e, _, h1, h2⟩ := at_ c hx hs hd nd
  cases hv : e.val with
  | ref a =>
    rw [hv] at h1 h2
    have h3 : ((tupA K a t, []) : Ax) = (true, []) := h2
    have h4 : tupA K a t = true := congrArg (fun z : Ax => z.1) h3
    exact ⟨_, .ref a, mg_of X G h1, rfl, fun W => by
      show Dm.RepP K W.B (.tup ds) (.ref a)
      simp only [Dm.RepP]
      exact ⟨a, _, rfl, tupA_ok h4 _, hr _⟩⟩
  | _ =>
    rw [hv] at h2
    have h3 := congrArg (fun z : Ax => z.1) h2
    cases h3
theorem repS (K : Frag) : ∀ (l : List PySem.Str) (B : L2.Hp), Dm.RepA K B (l.map .str) ((l.map He.Dv.str).map (He.Dv.v K))
  | [], _ => by simp [Dm.RepA]
  | x :: l, B => by
    have := repS K l B
    simp only [List.map_cons, Dm.RepA]
    exact ⟨_, _, rfl, by simp [Dm.RepP, He.Dv.v], this⟩
theorem repI (K : Frag) : ∀ (l : List Int) (B : L2.Hp), Dm.RepA K B (l.map .int) ((l.map He.Dv.int).map (He.Dv.v K))
  | [], _ => by simp [Dm.RepA]
  | x :: l, B => by
    have := repI K l B
    simp only [List.map_cons, Dm.RepA]
    exact ⟨_, _, rfl, by simp [Dm.RepP, He.Dv.v], this⟩
theorem clsX (X : K.In h) (G : h.Ns mainGlobals mg) (c : SaysH nms sps ci ti ks w K) (i : Nat) {x : PySem.Str} {fs : List PySem.Str} {ms : List (PySem.Str × He.DefD)} (hx : nms[i]? = some x) (hs : sps[i]? = some (.cl fs ms)) (hd : dun x = false) : ClsX K mg i x fs ms := by
  obtain ⟨h1, h2, h3, h4⟩ := cl_ c hx hs hd nd
  obtain ⟨a1, h3⟩ := ba h3
  obtain ⟨a2, h3⟩ := ba h3
  obtain ⟨a3, h3⟩ := ba h3
  obtain ⟨a4, h3⟩ := ba h3
  obtain ⟨a5, h3⟩ := ba h3
  obtain ⟨a6, h3⟩ := ba h3
  obtain ⟨a7, h3⟩ := ba h3
  obtain ⟨a8, h3⟩ := ba h3
  obtain ⟨a9, h3⟩ := ba h3
  exact ⟨mg_of X G h2, ⟨a1, a2, a3, He.eqO_ok a4⟩, fun f hf => He.eqO_ok (List.all_eq_true.mp a5 f hf), a6, a7, a8, h4, He.eqO_ok a9, of_decide_eq_true h3, h1⟩
theorem tab_ {P : Program} (X : K.In h) (G : h.Ns mainGlobals mg) (c : SaysH nms sps ci ti ks w K) : Dm.HasTab P w K mg "SINGLE_WORDS" tabW := by
  obtain ⟨e, h0, h1, h2⟩ := at_ c (i := ti) (x := "SINGLE_WORDS") (sp := .di tabV) (by rfl) (by rfl) (by decide +kernel) nd
  have hd : He.dicW K (refAt (rest K) ti) = some (He.keysIn w.params ks) := congrArg (fun z : Al => z.2.2.2) c
  cases hv : e.val with
  | ref a =>
    rw [hv] at h1 h2
    have h3 : ((He.valsB K a tabV, []) : Ax) = (true, []) := h2
    have h4 : He.valsB K a tabV = true := congrArg (fun z : Ax => z.1) h3
    have h5 : refAt (rest K) ti = a := by
      unfold refAt
      rw [h0]
      simp only [hv]
    rw [h5] at hd
    obtain ⟨es, n, kd⟩ := He.dicW_ok hd
    exact ⟨a, es, n, mg_of X G h1, kd, fun q hq => He.valsB_ok h4 (q := (q.1, .str q.2)) (List.mem_map.mpr ⟨q, hq, rfl⟩)⟩
  | _ =>
    rw [hv] at h2
    have h3 := congrArg (fun z : Ax => z.1) h2
    cases h3
end
end Hd
/-! Hd3: every def keeps its promise behind the top. -/
namespace Hd
open PySem PySem.W PySem.Calls PyProof.Rows T PySem.Spec
open He (ba)
section
variable {P : Program} {w : World} {K : Frag} {h base : Heap} {mg : PySem.Str → Option Value}
theorem k_Situation (X : K.In h) (G : h.Ns mainGlobals mg) (c : SaysH nms sps ci ti ks w K) : ClsX K mg 14 "Situation" fs_Situation ms_Situation := clsX X G c 14 rfl rfl (by decide +kernel)
theorem k_Step (X : K.In h) (G : h.Ns mainGlobals mg) (c : SaysH nms sps ci ti ks w K) : ClsX K mg 24 "Step" fs_Step ms_Step := clsX X G c 24 rfl rfl (by decide +kernel)
theorem k_Book (X : K.In h) (G : h.Ns mainGlobals mg) (c : SaysH nms sps ci ti ks w K) : ClsX K mg 30 "Book" fs_Book ms_Book := clsX X G c 30 rfl rfl (by decide +kernel)
theorem k_Closed (X : K.In h) (G : h.Ns mainGlobals mg) (c : SaysH nms sps ci ti ks w K) : ClsX K mg 40 "Closed" fs_Closed ms_Closed := clsX X G c 40 rfl rfl (by decide +kernel)
theorem k_WrongChain (X : K.In h) (G : h.Ns mainGlobals mg) (c : SaysH nms sps ci ti ks w K) : ClsX K mg 41 "WrongChain" fs_WrongChain ms_WrongChain := clsX X G c 41 rfl rfl (by decide +kernel)
theorem k_TalkErr (X : K.In h) (G : h.Ns mainGlobals mg) (c : SaysH nms sps ci ti ks w K) : ClsX K mg 42 "TalkErr" fs_TalkErr ms_TalkErr := clsX X G c 42 rfl rfl (by decide +kernel)
theorem kitsA (X : K.In h) (G : h.Ns mainGlobals mg) (c : SaysH nms sps ci ti ks w K) : ∀ p ∈ ([(0, Dm.clsA K 0), (1, Dm.clsA K 1), (2, Dm.clsA K 2), (3, Dm.clsA K 3), (4, Dm.clsA K 4), (5, Dm.clsA K 5)] : List (Nat × Addr)), ∀ q ∈ ([(0, Dm.clsA K 0), (1, Dm.clsA K 1), (2, Dm.clsA K 2), (3, Dm.clsA K 3), (4, Dm.clsA K 4), (5, Dm.clsA K 5)] : List (Nat × Addr)), kitOne K (.ref p.2) (.ref q.2) = some (decide (p.1 = q.1)) ∧ notFirst K p.2 (.ref q.2) = true := by
  have hk : (gen K && kits K ((List.range ci.length).zip (ci.map (refAt (rest K))))) = true := congrArg (fun z : Al => z.2.2.1) c
  obtain ⟨_, hk⟩ := ba hk
  have e : (List.range ci.length).zip (ci.map (refAt (rest K))) = [(0, Dm.clsA K 0), (1, Dm.clsA K 1), (2, Dm.clsA K 2), (3, Dm.clsA K 3), (4, Dm.clsA K 4), (5, Dm.clsA K 5)] := by
    show [(0, refAt (rest K) 14), (1, refAt (rest K) 24), (2, refAt (rest K) 30), (3, refAt (rest K) 40), (4, refAt (rest K) 41), (5, refAt (rest K) 42)] = _
    rw [(k_Situation X G c).pos, (k_Step X G c).pos, (k_Book X G c).pos, (k_Closed X G c).pos, (k_WrongChain X G c).pos, (k_TalkErr X G c).pos]
    rfl
  rw [e] at hk
  intro p hp q hq
  obtain ⟨h1, h2⟩ := ba (List.all_eq_true.mp (List.all_eq_true.mp hk p hp) q hq)
  exact ⟨of_decide_eq_true h1, h2⟩
theorem mem6 (K : Frag) : ∀ n, n < 6 → (n, Dm.clsA K n) ∈ ([(0, Dm.clsA K 0), (1, Dm.clsA K 1), (2, Dm.clsA K 2), (3, Dm.clsA K 3), (4, Dm.clsA K 4), (5, Dm.clsA K 5)] : List (Nat × Addr))
  | 0, _ => by simp
  | 1, _ => by simp
  | 2, _ => by simp
  | 3, _ => by simp
  | 4, _ => by simp
  | 5, _ => by simp
  | n + 6, h => absurd h (by omega)
theorem not1 (X : K.In h) (G : h.Ns mainGlobals mg) (c : SaysH nms sps ci ti ks w K) (a : Nat) (ha : a < 6) : ∀ b, notFirst K (Dm.clsA K a) (.ref (Dm.clsA K b)) = true
  | 0 => (kitsA X G c _ (mem6 K a ha) _ (mem6 K 0 (by decide))).2
  | 1 => (kitsA X G c _ (mem6 K a ha) _ (mem6 K 1 (by decide))).2
  | 2 => (kitsA X G c _ (mem6 K a ha) _ (mem6 K 2 (by decide))).2
  | 3 => (kitsA X G c _ (mem6 K a ha) _ (mem6 K 3 (by decide))).2
  | 4 => (kitsA X G c _ (mem6 K a ha) _ (mem6 K 4 (by decide))).2
  | 5 => (kitsA X G c _ (mem6 K a ha) _ (mem6 K 5 (by decide))).2
  | n + 6 => (kitsA X G c _ (mem6 K a ha) _ (mem6 K 5 (by decide))).2
theorem clsAll (X : K.In h) (G : h.Ns mainGlobals mg) (c : SaysH nms sps ci ti ks w K) : Dm.ClsAll K := by
  have hk : (gen K && kits K ((List.range ci.length).zip (ci.map (refAt (rest K))))) = true := congrArg (fun z : Al => z.2.2.1) c
  obtain ⟨hg, _⟩ := ba hk
  obtain ⟨g1, g2⟩ := ba hg
  exact ⟨(fun n hn => match n, hn with | 0, _ => (k_Situation X G c).cls | 1, _ => (k_Step X G c).cls | 2, _ => (k_Book X G c).cls | 3, _ => (k_Closed X G c).cls | 4, _ => (k_WrongChain X G c).cls | 5, _ => (k_TalkErr X G c).cls | n + 6, h => absurd h (by omega)), (fun n hn => match n, hn with | 0, _ => (k_Situation X G c).no | 1, _ => (k_Step X G c).no | 2, _ => (k_Book X G c).no | 3, _ => (k_Closed X G c).no | 4, _ => (k_WrongChain X G c).no | 5, _ => (k_TalkErr X G c).no | n + 6, h => absurd h (by omega)), (fun n hn => match n, hn with | 0, _ => (k_Situation X G c).ca | 1, _ => (k_Step X G c).ca | 2, _ => (k_Book X G c).ca | 3, _ => (k_Closed X G c).ca | 4, _ => (k_WrongChain X G c).ca | 5, _ => (k_TalkErr X G c).ca | n + 6, h => absurd h (by omega)), (fun n hn => match n, hn with | 0, _ => (k_Situation X G c).mo | 1, _ => (k_Step X G c).mo | 2, _ => (k_Book X G c).mo | 3, _ => (k_Closed X G c).mo | 4, _ => (k_WrongChain X G c).mo | 5, _ => (k_TalkErr X G c).mo | n + 6, h => absurd h (by omega)), He.eqO_ok g1, of_decide_eq_true g2, fun a b ha hb => (kitsA X G c _ (mem6 K a ha) _ (mem6 K b hb)).1⟩
theorem gd (X : K.In h) (G : h.Ns mainGlobals mg) (c : SaysH nms sps ci ti ks w K) : Gd P w K mg where
  O := clsAll X G c
  tab := tab_ X G c
  b_isinstance := free X G c (by decide +kernel) (by decide +kernel)
  b_len := free X G c (by decide +kernel) (by decide +kernel)
  b_all := free X G c (by decide +kernel) (by decide +kernel)
  b_tuple := free X G c (by decide +kernel) (by decide +kernel)
  b_list := free X G c (by decide +kernel) (by decide +kernel)
  b_int := free X G c (by decide +kernel) (by decide +kernel)
  b_bool := free X G c (by decide +kernel) (by decide +kernel)
  b_str := free X G c (by decide +kernel) (by decide +kernel)
  b_enumerate := free X G c (by decide +kernel) (by decide +kernel)
  b_range := free X G c (by decide +kernel) (by decide +kernel)
  b_sorted := free X G c (by decide +kernel) (by decide +kernel)
  b_max := free X G c (by decide +kernel) (by decide +kernel)
  b_min := free X G c (by decide +kernel) (by decide +kernel)
  k_Situation := (k_Situation X G c).at_
  k_Step := (k_Step X G c).at_
  k_Book := (k_Book X G c).at_
  k_Closed := (k_Closed X G c).at_
  k_WrongChain := (k_WrongChain X G c).at_
  k_TalkErr := (k_TalkErr X G c).at_
  c_LETTERS := hasS X G c 6 rfl rfl (by decide +kernel)
  c_MOST_STEP := hasI X G c 7 rfl rfl (by decide +kernel)
  c_MOST_OFFSET := hasI X G c 22 rfl rfl (by decide +kernel)
  c_MOST_MOVED := hasI X G c 23 rfl rfl (by decide +kernel)
  c_FAR := hasI X G c 38 rfl rfl (by decide +kernel)
  c_STEP_WORDS := hasT X G c 9 (repS K ["today", "that day"]) rfl rfl (by decide +kernel)
  c_WEEKDAY_WORDS := hasT X G c 10 (repS K ["coming", "last", "then coming", "then last"]) rfl rfl (by decide +kernel)
  c_DAY_SORTS := hasT X G c 15 (repS K ["today", "coming", "last", "date"]) rfl rfl (by decide +kernel)
  c_PERSON_SORTS := hasT X G c 16 (repS K ["I", "you", "name"]) rfl rfl (by decide +kernel)
  c_PLACE_SORTS := hasT X G c 17 (repS K ["here", "place"]) rfl rfl (by decide +kernel)
  c_DAY_ACTIONS := hasT X G c 18 (repS K ["keep", "move", "date", "coming", "last", "weekday"]) rfl rfl (by decide +kernel)
  c_PERSON_ACTIONS := hasT X G c 19 (repS K ["keep", "I", "you", "name"]) rfl rfl (by decide +kernel)
  c_PLACE_ACTIONS := hasT X G c 20 (repS K ["keep", "here", "place"]) rfl rfl (by decide +kernel)
  c_NAMES := hasT X G c 39 (repS K ["a", "b", "c"]) rfl rfl (by decide +kernel)
  c_MOST_RULES := hasT X G c 21 (repI K [6, 4, 3]) rfl rfl (by decide +kernel)
theorem x_is_whole (X : K.In h) (G : h.Ns mainGlobals mg) (c : SaysH nms sps ci ti ks w K) : Dm.HasFn P w K mg base 1 "is_whole" 1 F_is_whole := by
  obtain ⟨a, fd, h1, F⟩ := fn_ c (i := 11) (x := "is_whole") (d := d_is_whole) rfl rfl (by decide +kernel) nd
  exact ⟨a, fd, P_is_whole, [], [], ok_is_whole (gd X G c)  F, F.kp, (F.bindsN fun _ _ _ _ _ _ us hl => match us, hl with | [_], _ => rfl), .nil, rfl, mg_of X G h1⟩
theorem x_is_name (X : K.In h) (G : h.Ns mainGlobals mg) (c : SaysH nms sps ci ti ks w K) : Dm.HasFn P w K mg base 1 "is_name" 1 F_is_name := by
  obtain ⟨a, fd, h1, F⟩ := fn_ c (i := 12) (x := "is_name") (d := d_is_name) rfl rfl (by decide +kernel) nd
  exact ⟨a, fd, P_is_name, [], [], ok_is_name (gd X G c)  F, F.kp, (F.bindsN fun _ _ _ _ _ _ us hl => match us, hl with | [_], _ => rfl), .nil, rfl, mg_of X G h1⟩
theorem x_find_kind (X : K.In h) (G : h.Ns mainGlobals mg) (c : SaysH nms sps ci ti ks w K) : Dm.HasFn P w K mg base 2 "find_kind" 1 F_find_kind := by
  obtain ⟨a, fd, h1, F⟩ := fn_ c (i := 13) (x := "find_kind") (d := d_find_kind) rfl rfl (by decide +kernel) nd
  exact ⟨a, fd, P_find_kind, [], [], ok_find_kind (gd X G c) (x_is_name X G c) (x_is_whole X G c) F, F.kp, (F.bindsN fun _ _ _ _ _ _ us hl => match us, hl with | [_], _ => rfl), .nil, rfl, mg_of X G h1⟩
theorem x_Situation_init (X : K.In h) (G : h.Ns mainGlobals mg) (c : SaysH nms sps ci ti ks w K) : Dm.HasMk P w K mg base 2 0 4 F_Situation_init := by
  have C := k_Situation X G c
  obtain ⟨m1, m2, fd, F⟩ := meth_ C.mts C.vals (j := 0) (m := "__init__") (d := d_Situation_init) rfl
  exact ⟨_, fd, P_Situation_init, ⟨C.mks, m1, m2, C.kp⟩, ok_Situation_init (gd X G c) (x_is_name X G c) (x_is_whole X G c) F, (F.bindsN fun _ _ _ _ _ _ us hl => match us, hl with | [_, _, _, _, _], _ => rfl), C.at_⟩
theorem x_Situation_eq (X : K.In h) (G : h.Ns mainGlobals mg) (c : SaysH nms sps ci ti ks w K) : Dm.HasEq P w K mg base 1 0 F_Situation_eq := by
  have C := k_Situation X G c
  obtain ⟨m1, m2, fd, F⟩ := meth_ C.mts C.vals (j := 1) (m := "__eq__") (d := d_Situation_eq) rfl
  exact ⟨_, fd, P_Situation_eq, ok_Situation_eq (gd X G c)  F, m1, m2, (F.bindsN fun _ _ _ _ _ _ us hl => match us, hl with | [_, _], _ => rfl), not1 X G c 0 (by decide)⟩
theorem x_Situation_moved (X : K.In h) (G : h.Ns mainGlobals mg) (c : SaysH nms sps ci ti ks w K) : Dm.HasMeth P w K mg base 4 0 "moved" 1 F_Situation_moved := by
  have C := k_Situation X G c
  obtain ⟨m1, m2, fd, F⟩ := meth_ C.mts C.vals (j := 2) (m := "moved") (d := d_Situation_moved) rfl
  exact ⟨_, fd, P_Situation_moved, ok_Situation_moved (gd X G c) (x_Situation_init X G c) (x_is_whole X G c) F, C.cls, ⟨m1, m2, F.kp⟩, (F.bindsN fun _ _ _ _ _ _ us hl => match us, hl with | [_, _], _ => rfl), by decide⟩
theorem x_Step_init (X : K.In h) (G : h.Ns mainGlobals mg) (c : SaysH nms sps ci ti ks w K) : Dm.HasMk P w K mg base 2 1 3 F_Step_init := by
  have C := k_Step X G c
  obtain ⟨m1, m2, fd, F⟩ := meth_ C.mts C.vals (j := 0) (m := "__init__") (d := d_Step_init) rfl
  exact ⟨_, fd, P_Step_init, ⟨C.mks, m1, m2, C.kp⟩, ok_Step_init (gd X G c) (x_is_name X G c) (x_is_whole X G c) F, (F.bindsN fun _ _ _ _ _ _ us hl => match us, hl with | [_, _, _, _], _ => rfl), C.at_⟩
theorem x_Step_eq (X : K.In h) (G : h.Ns mainGlobals mg) (c : SaysH nms sps ci ti ks w K) : Dm.HasEq P w K mg base 1 1 F_Step_eq := by
  have C := k_Step X G c
  obtain ⟨m1, m2, fd, F⟩ := meth_ C.mts C.vals (j := 1) (m := "__eq__") (d := d_Step_eq) rfl
  exact ⟨_, fd, P_Step_eq, ok_Step_eq (gd X G c)  F, m1, m2, (F.bindsN fun _ _ _ _ _ _ us hl => match us, hl with | [_, _], _ => rfl), not1 X G c 1 (by decide)⟩
theorem x_lies_from (X : K.In h) (G : h.Ns mainGlobals mg) (c : SaysH nms sps ci ti ks w K) : Dm.HasFn P w K mg base 2 "lies_from" 3 F_lies_from := by
  obtain ⟨a, fd, h1, F⟩ := fn_ c (i := 25) (x := "lies_from") (d := d_lies_from) rfl rfl (by decide +kernel) nd
  exact ⟨a, fd, P_lies_from, [], [], ok_lies_from (gd X G c) (x_is_whole X G c) F, F.kp, (F.bindsN fun _ _ _ _ _ _ us hl => match us, hl with | [_, _, _], _ => rfl), .nil, rfl, mg_of X G h1⟩
theorem x_is_answer (X : K.In h) (G : h.Ns mainGlobals mg) (c : SaysH nms sps ci ti ks w K) : Dm.HasFn P w K mg base 1 "is_answer" 1 F_is_answer := by
  obtain ⟨a, fd, h1, F⟩ := fn_ c (i := 26) (x := "is_answer") (d := d_is_answer) rfl rfl (by decide +kernel) nd
  exact ⟨a, fd, P_is_answer, [], [], ok_is_answer (gd X G c)  F, F.kp, (F.bindsN fun _ _ _ _ _ _ us hl => match us, hl with | [_], _ => rfl), .nil, rfl, mg_of X G h1⟩
theorem x_check_day_rule (X : K.In h) (G : h.Ns mainGlobals mg) (c : SaysH nms sps ci ti ks w K) : Dm.HasFn P w K mg base 3 "check_day_rule" 2 F_check_day_rule := by
  obtain ⟨a, fd, h1, F⟩ := fn_ c (i := 27) (x := "check_day_rule") (d := d_check_day_rule) rfl rfl (by decide +kernel) nd
  exact ⟨a, fd, P_check_day_rule, [], [], ok_check_day_rule (gd X G c) (x_lies_from X G c) F, F.kp, (F.bindsN fun _ _ _ _ _ _ us hl => match us, hl with | [_, _], _ => rfl), .nil, rfl, mg_of X G h1⟩
theorem x_check_person_rule (X : K.In h) (G : h.Ns mainGlobals mg) (c : SaysH nms sps ci ti ks w K) : Dm.HasFn P w K mg base 2 "check_person_rule" 2 F_check_person_rule := by
  obtain ⟨a, fd, h1, F⟩ := fn_ c (i := 28) (x := "check_person_rule") (d := d_check_person_rule) rfl rfl (by decide +kernel) nd
  exact ⟨a, fd, P_check_person_rule, [], [], ok_check_person_rule (gd X G c) (x_is_answer X G c) F, F.kp, (F.bindsN fun _ _ _ _ _ _ us hl => match us, hl with | [_, _], _ => rfl), .nil, rfl, mg_of X G h1⟩
theorem x_check_place_rule (X : K.In h) (G : h.Ns mainGlobals mg) (c : SaysH nms sps ci ti ks w K) : Dm.HasFn P w K mg base 2 "check_place_rule" 2 F_check_place_rule := by
  obtain ⟨a, fd, h1, F⟩ := fn_ c (i := 29) (x := "check_place_rule") (d := d_check_place_rule) rfl rfl (by decide +kernel) nd
  exact ⟨a, fd, P_check_place_rule, [], [], ok_check_place_rule (gd X G c) (x_is_answer X G c) F, F.kp, (F.bindsN fun _ _ _ _ _ _ us hl => match us, hl with | [_, _], _ => rfl), .nil, rfl, mg_of X G h1⟩
theorem x_Book_init (X : K.In h) (G : h.Ns mainGlobals mg) (c : SaysH nms sps ci ti ks w K) : Dm.HasMk P w K mg base 4 2 3 F_Book_init := by
  have C := k_Book X G c
  obtain ⟨m1, m2, fd, F⟩ := meth_ C.mts C.vals (j := 0) (m := "__init__") (d := d_Book_init) rfl
  exact ⟨_, fd, P_Book_init, ⟨C.mks, m1, m2, C.kp⟩, ok_Book_init (gd X G c) (x_check_day_rule X G c) (x_check_person_rule X G c) (x_check_place_rule X G c) F, (F.bindsN fun _ _ _ _ _ _ us hl => match us, hl with | [_, _, _, _], _ => rfl), C.at_⟩
theorem x_check_chain_word (X : K.In h) (G : h.Ns mainGlobals mg) (c : SaysH nms sps ci ti ks w K) : Dm.HasFn P w K mg base 3 "check_chain_word" 1 F_check_chain_word := by
  obtain ⟨a, fd, h1, F⟩ := fn_ c (i := 31) (x := "check_chain_word") (d := d_check_chain_word) rfl rfl (by decide +kernel) nd
  exact ⟨a, fd, P_check_chain_word, [], [], ok_check_chain_word (gd X G c) (x_find_kind X G c) F, F.kp, (F.bindsN fun _ _ _ _ _ _ us hl => match us, hl with | [_], _ => rfl), .nil, rfl, mg_of X G h1⟩
theorem x_meant_at (X : K.In h) (G : h.Ns mainGlobals mg) (c : SaysH nms sps ci ti ks w K) : Dm.HasFn P w K mg base 1 "meant_at" 2 F_meant_at := by
  obtain ⟨a, fd, h1, F⟩ := fn_ c (i := 32) (x := "meant_at") (d := d_meant_at) rfl rfl (by decide +kernel) nd
  exact ⟨a, fd, P_meant_at, [], [], ok_meant_at (gd X G c)  F, F.kp, (F.bindsN fun _ _ _ _ _ _ us hl => match us, hl with | [_, _], _ => rfl), .nil, rfl, mg_of X G h1⟩
theorem x_spot_after (X : K.In h) (G : h.Ns mainGlobals mg) (c : SaysH nms sps ci ti ks w K) : Dm.HasFn P w K mg base 1 "spot_after" 2 F_spot_after := by
  obtain ⟨a, fd, h1, F⟩ := fn_ c (i := 33) (x := "spot_after") (d := d_spot_after) rfl rfl (by decide +kernel) nd
  exact ⟨a, fd, P_spot_after, [], [], ok_spot_after (gd X G c)  F, F.kp, (F.bindsN fun _ _ _ _ _ _ us hl => match us, hl with | [_, _], _ => rfl), .nil, rfl, mg_of X G h1⟩
theorem x_find_rule (X : K.In h) (G : h.Ns mainGlobals mg) (c : SaysH nms sps ci ti ks w K) : Dm.HasFn P w K mg base 2 "find_rule" 4 F_find_rule := by
  obtain ⟨a, fd, h1, F⟩ := fn_ c (i := 35) (x := "find_rule") (d := d_find_rule) rfl rfl (by decide +kernel) nd
  exact ⟨a, fd, P_find_rule, [], [], ok_find_rule (gd X G c) (x_meant_at X G c) F, F.kp, (F.bindsN fun _ _ _ _ _ _ us hl => match us, hl with | [_, _, _, _], _ => rfl), .nil, rfl, mg_of X G h1⟩
theorem x_write_word (X : K.In h) (G : h.Ns mainGlobals mg) (c : SaysH nms sps ci ti ks w K) : Dm.HasFn P w K mg base 3 "write_word" 4 F_write_word := by
  obtain ⟨a, fd, h1, F⟩ := fn_ c (i := 37) (x := "write_word") (d := d_write_word) rfl rfl (by decide +kernel) nd
  exact ⟨a, fd, P_write_word, [], [], ok_write_word (gd X G c) (x_find_rule X G c) (x_meant_at X G c) F, F.kp, (F.bindsN fun _ _ _ _ _ _ us hl => match us, hl with | [_, _, _, _], _ => rfl), .nil, rfl, mg_of X G h1⟩
theorem x_Closed_init (X : K.In h) (G : h.Ns mainGlobals mg) (c : SaysH nms sps ci ti ks w K) : Dm.HasMk P w K mg base 1 3 1 F_Closed_init := by
  have C := k_Closed X G c
  obtain ⟨m1, m2, fd, F⟩ := meth_ C.mts C.vals (j := 0) (m := "__init__") (d := d_Closed_init) rfl
  exact ⟨_, fd, P_Closed_init, ⟨C.mks, m1, m2, C.kp⟩, ok_Closed_init (gd X G c)  F, (F.bindsN fun _ _ _ _ _ _ us hl => match us, hl with | [_, _], _ => rfl), C.at_⟩
theorem x_WrongChain_init (X : K.In h) (G : h.Ns mainGlobals mg) (c : SaysH nms sps ci ti ks w K) : Dm.HasMk P w K mg base 1 4 2 F_WrongChain_init := by
  have C := k_WrongChain X G c
  obtain ⟨m1, m2, fd, F⟩ := meth_ C.mts C.vals (j := 0) (m := "__init__") (d := d_WrongChain_init) rfl
  exact ⟨_, fd, P_WrongChain_init, ⟨C.mks, m1, m2, C.kp⟩, ok_WrongChain_init (gd X G c)  F, (F.bindsN fun _ _ _ _ _ _ us hl => match us, hl with | [_, _, _], _ => rfl), C.at_⟩
theorem x_WrongChain_eq (X : K.In h) (G : h.Ns mainGlobals mg) (c : SaysH nms sps ci ti ks w K) : Dm.HasEq P w K mg base 3 4 F_WrongChain_eq := by
  have C := k_WrongChain X G c
  obtain ⟨m1, m2, fd, F⟩ := meth_ C.mts C.vals (j := 1) (m := "__eq__") (d := d_WrongChain_eq) rfl
  exact ⟨_, fd, P_WrongChain_eq, ok_WrongChain_eq (gd X G c) (x_Situation_eq X G c) (x_Step_eq X G c) F, m1, m2, (F.bindsN fun _ _ _ _ _ _ us hl => match us, hl with | [_, _], _ => rfl), not1 X G c 4 (by decide)⟩
theorem x_TalkErr_init (X : K.In h) (G : h.Ns mainGlobals mg) (c : SaysH nms sps ci ti ks w K) : Dm.HasMk P w K mg base 1 5 3 F_TalkErr_init := by
  have C := k_TalkErr X G c
  obtain ⟨m1, m2, fd, F⟩ := meth_ C.mts C.vals (j := 0) (m := "__init__") (d := d_TalkErr_init) rfl
  exact ⟨_, fd, P_TalkErr_init, ⟨C.mks, m1, m2, C.kp⟩, ok_TalkErr_init (gd X G c)  F, (F.bindsN fun _ _ _ _ _ _ us hl => match us, hl with | [_, _, _, _], _ => rfl), C.at_⟩
theorem x_TalkErr_eq (X : K.In h) (G : h.Ns mainGlobals mg) (c : SaysH nms sps ci ti ks w K) : Dm.HasEq P w K mg base 4 5 F_TalkErr_eq := by
  have C := k_TalkErr X G c
  obtain ⟨m1, m2, fd, F⟩ := meth_ C.mts C.vals (j := 1) (m := "__eq__") (d := d_TalkErr_eq) rfl
  exact ⟨_, fd, P_TalkErr_eq, ok_TalkErr_eq (gd X G c) (x_WrongChain_eq X G c) F, m1, m2, (F.bindsN fun _ _ _ _ _ _ us hl => match us, hl with | [_, _], _ => rfl), not1 X G c 5 (by decide)⟩
theorem x_other_than (X : K.In h) (G : h.Ns mainGlobals mg) (c : SaysH nms sps ci ti ks w K) : Dm.HasFn P w K mg base 1 "other_than" 1 F_other_than := by
  obtain ⟨a, fd, h1, F⟩ := fn_ c (i := 43) (x := "other_than") (d := d_other_than) rfl rfl (by decide +kernel) nd
  exact ⟨a, fd, P_other_than, [], [], ok_other_than (gd X G c)  F, F.kp, (F.bindsN fun _ _ _ _ _ _ us hl => match us, hl with | [_], _ => rfl), .nil, rfl, mg_of X G h1⟩
theorem x_start_spots (X : K.In h) (G : h.Ns mainGlobals mg) (c : SaysH nms sps ci ti ks w K) : Dm.HasFn P w K mg base 2 "start_spots" 1 F_start_spots := by
  obtain ⟨a, fd, h1, F⟩ := fn_ c (i := 44) (x := "start_spots") (d := d_start_spots) rfl rfl (by decide +kernel) nd
  exact ⟨a, fd, P_start_spots, [], [], ok_start_spots (gd X G c) (x_other_than X G c) F, F.kp, (F.bindsN fun _ _ _ _ _ _ us hl => match us, hl with | [_], _ => rfl), .nil, rfl, mg_of X G h1⟩
theorem x_moves_from (X : K.In h) (G : h.Ns mainGlobals mg) (c : SaysH nms sps ci ti ks w K) : Dm.HasFn P w K mg base 2 "moves_from" 3 F_moves_from := by
  obtain ⟨a, fd, h1, F⟩ := fn_ c (i := 45) (x := "moves_from") (d := d_moves_from) rfl rfl (by decide +kernel) nd
  exact ⟨a, fd, P_moves_from, [], [], ok_moves_from (gd X G c) (x_meant_at X G c) (x_other_than X G c) F, F.kp, (F.bindsN fun _ _ _ _ _ _ us hl => match us, hl with | [_, _, _], _ => rfl), .nil, rfl, mg_of X G h1⟩
theorem x_state_of (X : K.In h) (G : h.Ns mainGlobals mg) (c : SaysH nms sps ci ti ks w K) : Dm.HasFnD P w K mg base 2 "state_of" 2 F_state_of [.int 10] := by
  obtain ⟨a, fd, h1, F⟩ := fn_ c (i := 47) (x := "state_of") (d := d_state_of) rfl rfl (by decide +kernel) nd
  obtain ⟨ds, vd, bd⟩ := L2.FunD.binds1 (ps := P_state_of) F 2 0 (fun z => by cases z) rfl fun T kV doc pm an cdv ct us its hl h2 => match us, its, hl, h2 with | [_, _], [_], _, _ => ⟨_, rfl, rfl⟩
  exact ⟨a, fd, P_state_of, ds, [.int 10], ok_state_of (gd X G c) (x_meant_at X G c) F, F.kp, bd, vd, fun W => .cons Dm.r_int .nil, mg_of X G h1⟩
theorem x_explore (X : K.In h) (G : h.Ns mainGlobals mg) (c : SaysH nms sps ci ti ks w K) : Dm.HasFn P w K mg base 4 "explore" 3 F_explore := by
  obtain ⟨a, fd, h1, F⟩ := fn_ c (i := 48) (x := "explore") (d := d_explore) rfl rfl (by decide +kernel) nd
  exact ⟨a, fd, P_explore, [], [], ok_explore (gd X G c) (x_meant_at X G c) (x_moves_from X G c) (x_spot_after X G c) (x_start_spots X G c) (x_state_of X G c) (x_write_word X G c) F, F.kp, (F.bindsN fun _ _ _ _ _ _ us hl => match us, hl with | [_, _, _], _ => rfl), .nil, rfl, mg_of X G h1⟩
theorem x_chain_to (X : K.In h) (G : h.Ns mainGlobals mg) (c : SaysH nms sps ci ti ks w K) : Dm.HasFn P w K mg base 4 "chain_to" 3 F_chain_to := by
  obtain ⟨a, fd, h1, F⟩ := fn_ c (i := 49) (x := "chain_to") (d := d_chain_to) rfl rfl (by decide +kernel) nd
  exact ⟨a, fd, P_chain_to, [], [], ok_chain_to (gd X G c) (x_Situation_init X G c) (x_Step_init X G c) F, F.kp, (F.bindsN fun _ _ _ _ _ _ us hl => match us, hl with | [_, _, _], _ => rfl), .nil, rfl, mg_of X G h1⟩
theorem x_always_right (X : K.In h) (G : h.Ns mainGlobals mg) (c : SaysH nms sps ci ti ks w K) : Dm.HasFn P w K mg base 5 "always_right" 2 F_always_right := by
  obtain ⟨a, fd, h1, F⟩ := fn_ c (i := 50) (x := "always_right") (d := d_always_right) rfl rfl (by decide +kernel) nd
  exact ⟨a, fd, P_always_right, [], [], ok_always_right (gd X G c) (x_Closed_init X G c) (x_WrongChain_init X G c) (x_chain_to X G c) (x_check_chain_word X G c) (x_explore X G c) (x_state_of X G c) F, F.kp, (F.bindsN fun _ _ _ _ _ _ us hl => match us, hl with | [_, _], _ => rfl), .nil, rfl, mg_of X G h1⟩
theorem x_rules_reached (X : K.In h) (G : h.Ns mainGlobals mg) (c : SaysH nms sps ci ti ks w K) : Dm.HasFn P w K mg base 5 "rules_reached" 2 F_rules_reached := by
  obtain ⟨a, fd, h1, F⟩ := fn_ c (i := 51) (x := "rules_reached") (d := d_rules_reached) rfl rfl (by decide +kernel) nd
  exact ⟨a, fd, P_rules_reached, [], [], ok_rules_reached (gd X G c) (x_check_chain_word X G c) (x_explore X G c) F, F.kp, (F.bindsN fun _ _ _ _ _ _ us hl => match us, hl with | [_, _], _ => rfl), .nil, rfl, mg_of X G h1⟩
theorem x__law_hand (X : K.In h) (G : h.Ns mainGlobals mg) (c : SaysH nms sps ci ti ks w K) : Dm.HasFn P w K mg base 1 "_law_hand" 1 F__law_hand := by
  obtain ⟨a, fd, h1, F⟩ := fn_ c (i := 52) (x := "_law_hand") (d := d__law_hand) rfl rfl (by decide +kernel) nd
  exact ⟨a, fd, P__law_hand, [], [], ok__law_hand (gd X G c)  F, F.kp, (F.bindsN fun _ _ _ _ _ _ us hl => match us, hl with | [_], _ => rfl), .nil, rfl, mg_of X G h1⟩
theorem x__law_mixed (X : K.In h) (G : h.Ns mainGlobals mg) (c : SaysH nms sps ci ti ks w K) : Dm.HasFn P w K mg base 1 "_law_mixed" 2 F__law_mixed := by
  obtain ⟨a, fd, h1, F⟩ := fn_ c (i := 53) (x := "_law_mixed") (d := d__law_mixed) rfl rfl (by decide +kernel) nd
  exact ⟨a, fd, P__law_mixed, [], [], ok__law_mixed (gd X G c)  F, F.kp, (F.bindsN fun _ _ _ _ _ _ us hl => match us, hl with | [_, _], _ => rfl), .nil, rfl, mg_of X G h1⟩
theorem x__law_take (X : K.In h) (G : h.Ns mainGlobals mg) (c : SaysH nms sps ci ti ks w K) : Dm.HasFn P w K mg base 2 "_law_take" 2 F__law_take := by
  obtain ⟨a, fd, h1, F⟩ := fn_ c (i := 54) (x := "_law_take") (d := d__law_take) rfl rfl (by decide +kernel) nd
  exact ⟨a, fd, P__law_take, [], [], ok__law_take (gd X G c) (x__law_mixed X G c) F, F.kp, (F.bindsN fun _ _ _ _ _ _ us hl => match us, hl with | [_, _], _ => rfl), .nil, rfl, mg_of X G h1⟩
theorem x__law_name (X : K.In h) (G : h.Ns mainGlobals mg) (c : SaysH nms sps ci ti ks w K) : Dm.HasFn P w K mg base 3 "_law_name" 1 F__law_name := by
  obtain ⟨a, fd, h1, F⟩ := fn_ c (i := 55) (x := "_law_name") (d := d__law_name) rfl rfl (by decide +kernel) nd
  exact ⟨a, fd, P__law_name, [], [], ok__law_name (gd X G c) (x__law_take X G c) F, F.kp, (F.bindsN fun _ _ _ _ _ _ us hl => match us, hl with | [_], _ => rfl), .nil, rfl, mg_of X G h1⟩
theorem x__law_names (X : K.In h) (G : h.Ns mainGlobals mg) (c : SaysH nms sps ci ti ks w K) : Dm.HasFn P w K mg base 4 "_law_names" 2 F__law_names := by
  obtain ⟨a, fd, h1, F⟩ := fn_ c (i := 56) (x := "_law_names") (d := d__law_names) rfl rfl (by decide +kernel) nd
  exact ⟨a, fd, P__law_names, [], [], ok__law_names (gd X G c) (x__law_name X G c) F, F.kp, (F.bindsN fun _ _ _ _ _ _ us hl => match us, hl with | [_, _], _ => rfl), .nil, rfl, mg_of X G h1⟩
theorem x__law_world (X : K.In h) (G : h.Ns mainGlobals mg) (c : SaysH nms sps ci ti ks w K) : Dm.HasFn P w K mg base 5 "_law_world" 1 F__law_world := by
  obtain ⟨a, fd, h1, F⟩ := fn_ c (i := 57) (x := "_law_world") (d := d__law_world) rfl rfl (by decide +kernel) nd
  exact ⟨a, fd, P__law_world, [], [], ok__law_world (gd X G c) (x__law_names X G c) F, F.kp, (F.bindsN fun _ _ _ _ _ _ us hl => match us, hl with | [_], _ => rfl), .nil, rfl, mg_of X G h1⟩
theorem x__law_date (X : K.In h) (G : h.Ns mainGlobals mg) (c : SaysH nms sps ci ti ks w K) : Dm.HasFn P w K mg base 3 "_law_date" 1 F__law_date := by
  obtain ⟨a, fd, h1, F⟩ := fn_ c (i := 58) (x := "_law_date") (d := d__law_date) rfl rfl (by decide +kernel) nd
  exact ⟨a, fd, P__law_date, [], [], ok__law_date (gd X G c) (x__law_take X G c) F, F.kp, (F.bindsN fun _ _ _ _ _ _ us hl => match us, hl with | [_], _ => rfl), .nil, rfl, mg_of X G h1⟩
theorem x__law_whole (X : K.In h) (G : h.Ns mainGlobals mg) (c : SaysH nms sps ci ti ks w K) : Dm.HasFn P w K mg base 1 "_law_whole" 1 F__law_whole := by
  obtain ⟨a, fd, h1, F⟩ := fn_ c (i := 62) (x := "_law_whole") (d := d__law_whole) rfl rfl (by decide +kernel) nd
  exact ⟨a, fd, P__law_whole, [], [], ok__law_whole (gd X G c)  F, F.kp, (F.bindsN fun _ _ _ _ _ _ us hl => match us, hl with | [_], _ => rfl), .nil, rfl, mg_of X G h1⟩
theorem x__law_span (X : K.In h) (G : h.Ns mainGlobals mg) (c : SaysH nms sps ci ti ks w K) : Dm.HasFn P w K mg base 3 "_law_span" 3 F__law_span := by
  obtain ⟨a, fd, h1, F⟩ := fn_ c (i := 63) (x := "_law_span") (d := d__law_span) rfl rfl (by decide +kernel) nd
  exact ⟨a, fd, P__law_span, [], [], ok__law_span (gd X G c) (x__law_take X G c) F, F.kp, (F.bindsN fun _ _ _ _ _ _ us hl => match us, hl with | [_, _, _], _ => rfl), .nil, rfl, mg_of X G h1⟩
theorem x__law_reach (X : K.In h) (G : h.Ns mainGlobals mg) (c : SaysH nms sps ci ti ks w K) : Dm.HasFn P w K mg base 4 "_law_reach" 1 F__law_reach := by
  obtain ⟨a, fd, h1, F⟩ := fn_ c (i := 64) (x := "_law_reach") (d := d__law_reach) rfl rfl (by decide +kernel) nd
  exact ⟨a, fd, P__law_reach, [], [], ok__law_reach (gd X G c) (x__law_span X G c) (x__law_take X G c) F, F.kp, (F.bindsN fun _ _ _ _ _ _ us hl => match us, hl with | [_], _ => rfl), .nil, rfl, mg_of X G h1⟩
theorem x__law_any_rule (X : K.In h) (G : h.Ns mainGlobals mg) (c : SaysH nms sps ci ti ks w K) : Dm.HasFn P w K mg base 5 "_law_any_rule" 2 F__law_any_rule := by
  obtain ⟨a, fd, h1, F⟩ := fn_ c (i := 65) (x := "_law_any_rule") (d := d__law_any_rule) rfl rfl (by decide +kernel) nd
  exact ⟨a, fd, P__law_any_rule, [], [], ok__law_any_rule (gd X G c) (x__law_reach X G c) (x__law_span X G c) (x__law_take X G c) F, F.kp, (F.bindsN fun _ _ _ _ _ _ us hl => match us, hl with | [_, _], _ => rfl), .nil, rfl, mg_of X G h1⟩
theorem x__law_kept_rule (X : K.In h) (G : h.Ns mainGlobals mg) (c : SaysH nms sps ci ti ks w K) : Dm.HasFn P w K mg base 5 "_law_kept_rule" 2 F__law_kept_rule := by
  obtain ⟨a, fd, h1, F⟩ := fn_ c (i := 66) (x := "_law_kept_rule") (d := d__law_kept_rule) rfl rfl (by decide +kernel) nd
  exact ⟨a, fd, P__law_kept_rule, [], [], ok__law_kept_rule (gd X G c) (x__law_reach X G c) (x__law_take X G c) F, F.kp, (F.bindsN fun _ _ _ _ _ _ us hl => match us, hl with | [_, _], _ => rfl), .nil, rfl, mg_of X G h1⟩
theorem x__law_weekday_rule (X : K.In h) (G : h.Ns mainGlobals mg) (c : SaysH nms sps ci ti ks w K) : Dm.HasFn P w K mg base 3 "_law_weekday_rule" 3 F__law_weekday_rule := by
  obtain ⟨a, fd, h1, F⟩ := fn_ c (i := 67) (x := "_law_weekday_rule") (d := d__law_weekday_rule) rfl rfl (by decide +kernel) nd
  exact ⟨a, fd, P__law_weekday_rule, [], [], ok__law_weekday_rule (gd X G c) (x__law_take X G c) F, F.kp, (F.bindsN fun _ _ _ _ _ _ us hl => match us, hl with | [_, _, _], _ => rfl), .nil, rfl, mg_of X G h1⟩
theorem x__law_bent (X : K.In h) (G : h.Ns mainGlobals mg) (c : SaysH nms sps ci ti ks w K) : Dm.HasFn P w K mg base 3 "_law_bent" 2 F__law_bent := by
  obtain ⟨a, fd, h1, F⟩ := fn_ c (i := 68) (x := "_law_bent") (d := d__law_bent) rfl rfl (by decide +kernel) nd
  exact ⟨a, fd, P__law_bent, [], [], ok__law_bent (gd X G c) (x__law_take X G c) F, F.kp, (F.bindsN fun _ _ _ _ _ _ us hl => match us, hl with | [_, _], _ => rfl), .nil, rfl, mg_of X G h1⟩
theorem x__law_day_rule (X : K.In h) (G : h.Ns mainGlobals mg) (c : SaysH nms sps ci ti ks w K) : Dm.HasFn P w K mg base 6 "_law_day_rule" 1 F__law_day_rule := by
  obtain ⟨a, fd, h1, F⟩ := fn_ c (i := 69) (x := "_law_day_rule") (d := d__law_day_rule) rfl rfl (by decide +kernel) nd
  exact ⟨a, fd, P__law_day_rule, [], [], ok__law_day_rule (gd X G c) (x__law_any_rule X G c) (x__law_bent X G c) (x__law_kept_rule X G c) (x__law_reach X G c) (x__law_take X G c) (x__law_weekday_rule X G c) F, F.kp, (F.bindsN fun _ _ _ _ _ _ us hl => match us, hl with | [_], _ => rfl), .nil, rfl, mg_of X G h1⟩
theorem x__law_person_rule (X : K.In h) (G : h.Ns mainGlobals mg) (c : SaysH nms sps ci ti ks w K) : Dm.HasFn P w K mg base 3 "_law_person_rule" 1 F__law_person_rule := by
  obtain ⟨a, fd, h1, F⟩ := fn_ c (i := 70) (x := "_law_person_rule") (d := d__law_person_rule) rfl rfl (by decide +kernel) nd
  exact ⟨a, fd, P__law_person_rule, [], [], ok__law_person_rule (gd X G c) (x__law_take X G c) F, F.kp, (F.bindsN fun _ _ _ _ _ _ us hl => match us, hl with | [_], _ => rfl), .nil, rfl, mg_of X G h1⟩
theorem x__law_place_rule (X : K.In h) (G : h.Ns mainGlobals mg) (c : SaysH nms sps ci ti ks w K) : Dm.HasFn P w K mg base 3 "_law_place_rule" 1 F__law_place_rule := by
  obtain ⟨a, fd, h1, F⟩ := fn_ c (i := 71) (x := "_law_place_rule") (d := d__law_place_rule) rfl rfl (by decide +kernel) nd
  exact ⟨a, fd, P__law_place_rule, [], [], ok__law_place_rule (gd X G c) (x__law_take X G c) F, F.kp, (F.bindsN fun _ _ _ _ _ _ us hl => match us, hl with | [_], _ => rfl), .nil, rfl, mg_of X G h1⟩
theorem x__law_book (X : K.In h) (G : h.Ns mainGlobals mg) (c : SaysH nms sps ci ti ks w K) : Dm.HasFn P w K mg base 7 "_law_book" 2 F__law_book := by
  obtain ⟨a, fd, h1, F⟩ := fn_ c (i := 72) (x := "_law_book") (d := d__law_book) rfl rfl (by decide +kernel) nd
  exact ⟨a, fd, P__law_book, [], [], ok__law_book (gd X G c) (x__law_day_rule X G c) (x__law_person_rule X G c) (x__law_place_rule X G c) (x__law_take X G c) F, F.kp, (F.bindsN fun _ _ _ _ _ _ us hl => match us, hl with | [_, _], _ => rfl), .nil, rfl, mg_of X G h1⟩
theorem x__law_made_book (X : K.In h) (G : h.Ns mainGlobals mg) (c : SaysH nms sps ci ti ks w K) : Dm.HasFn P w K mg base 6 "_law_made_book" 1 F__law_made_book := by
  obtain ⟨a, fd, h1, F⟩ := fn_ c (i := 73) (x := "_law_made_book") (d := d__law_made_book) rfl rfl (by decide +kernel) nd
  exact ⟨a, fd, P__law_made_book, [], [], ok__law_made_book (gd X G c) (x_Book_init X G c) F, F.kp, (F.bindsN fun _ _ _ _ _ _ us hl => match us, hl with | [_], _ => rfl), .nil, rfl, mg_of X G h1⟩
theorem x__law_spot (X : K.In h) (G : h.Ns mainGlobals mg) (c : SaysH nms sps ci ti ks w K) : Dm.HasFn P w K mg base 4 "_law_spot" 3 F__law_spot := by
  obtain ⟨a, fd, h1, F⟩ := fn_ c (i := 74) (x := "_law_spot") (d := d__law_spot) rfl rfl (by decide +kernel) nd
  exact ⟨a, fd, P__law_spot, [], [], ok__law_spot (gd X G c) (x__law_date X G c) (x__law_take X G c) F, F.kp, (F.bindsN fun _ _ _ _ _ _ us hl => match us, hl with | [_, _, _], _ => rfl), .nil, rfl, mg_of X G h1⟩
theorem x__law_delay (X : K.In h) (G : h.Ns mainGlobals mg) (c : SaysH nms sps ci ti ks w K) : Dm.HasFn P w K mg base 3 "_law_delay" 1 F__law_delay := by
  obtain ⟨a, fd, h1, F⟩ := fn_ c (i := 75) (x := "_law_delay") (d := d__law_delay) rfl rfl (by decide +kernel) nd
  exact ⟨a, fd, P__law_delay, [], [], ok__law_delay (gd X G c) (x__law_take X G c) F, F.kp, (F.bindsN fun _ _ _ _ _ _ us hl => match us, hl with | [_], _ => rfl), .nil, rfl, mg_of X G h1⟩
theorem x__law_moves (X : K.In h) (G : h.Ns mainGlobals mg) (c : SaysH nms sps ci ti ks w K) : Dm.HasFn P w K mg base 4 "_law_moves" 4 F__law_moves := by
  obtain ⟨a, fd, h1, F⟩ := fn_ c (i := 76) (x := "_law_moves") (d := d__law_moves) rfl rfl (by decide +kernel) nd
  exact ⟨a, fd, P__law_moves, [], [], ok__law_moves (gd X G c) (x__law_delay X G c) (x__law_take X G c) F, F.kp, (F.bindsN fun _ _ _ _ _ _ us hl => match us, hl with | [_, _, _, _], _ => rfl), .nil, rfl, mg_of X G h1⟩
theorem x__law_made_steps (X : K.In h) (G : h.Ns mainGlobals mg) (c : SaysH nms sps ci ti ks w K) : Dm.HasFn P w K mg base 4 "_law_made_steps" 1 F__law_made_steps := by
  obtain ⟨a, fd, h1, F⟩ := fn_ c (i := 77) (x := "_law_made_steps") (d := d__law_made_steps) rfl rfl (by decide +kernel) nd
  exact ⟨a, fd, P__law_made_steps, [], [], ok__law_made_steps (gd X G c) (x_Step_init X G c) F, F.kp, (F.bindsN fun _ _ _ _ _ _ us hl => match us, hl with | [_], _ => rfl), .nil, rfl, mg_of X G h1⟩
theorem x__law_made_situation (X : K.In h) (G : h.Ns mainGlobals mg) (c : SaysH nms sps ci ti ks w K) : Dm.HasFn P w K mg base 4 "_law_made_situation" 1 F__law_made_situation := by
  obtain ⟨a, fd, h1, F⟩ := fn_ c (i := 78) (x := "_law_made_situation") (d := d__law_made_situation) rfl rfl (by decide +kernel) nd
  exact ⟨a, fd, P__law_made_situation, [], [], ok__law_made_situation (gd X G c) (x_Situation_init X G c) F, F.kp, (F.bindsN fun _ _ _ _ _ _ us hl => match us, hl with | [_], _ => rfl), .nil, rfl, mg_of X G h1⟩
theorem x__law_meant (X : K.In h) (G : h.Ns mainGlobals mg) (c : SaysH nms sps ci ti ks w K) : Dm.HasFn P w K mg base 1 "_law_meant" 2 F__law_meant := by
  obtain ⟨a, fd, h1, F⟩ := fn_ c (i := 79) (x := "_law_meant") (d := d__law_meant) rfl rfl (by decide +kernel) nd
  exact ⟨a, fd, P__law_meant, [], [], ok__law_meant (gd X G c)  F, F.kp, (F.bindsN fun _ _ _ _ _ _ us hl => match us, hl with | [_, _], _ => rfl), .nil, rfl, mg_of X G h1⟩
theorem x__law_after (X : K.In h) (G : h.Ns mainGlobals mg) (c : SaysH nms sps ci ti ks w K) : Dm.HasFn P w K mg base 1 "_law_after" 2 F__law_after := by
  obtain ⟨a, fd, h1, F⟩ := fn_ c (i := 80) (x := "_law_after") (d := d__law_after) rfl rfl (by decide +kernel) nd
  exact ⟨a, fd, P__law_after, [], [], ok__law_after (gd X G c)  F, F.kp, (F.bindsN fun _ _ _ _ _ _ us hl => match us, hl with | [_, _], _ => rfl), .nil, rfl, mg_of X G h1⟩
theorem x__law_person_step (X : K.In h) (G : h.Ns mainGlobals mg) (c : SaysH nms sps ci ti ks w K) : Dm.HasFn P w K mg base 1 "_law_person_step" 5 F__law_person_step := by
  obtain ⟨a, fd, h1, F⟩ := fn_ c (i := 82) (x := "_law_person_step") (d := d__law_person_step) rfl rfl (by decide +kernel) nd
  exact ⟨a, fd, P__law_person_step, [], [], ok__law_person_step (gd X G c)  F, F.kp, (F.bindsN fun _ _ _ _ _ _ us hl => match us, hl with | [_, _, _, _, _], _ => rfl), .nil, rfl, mg_of X G h1⟩
theorem x__law_place_step (X : K.In h) (G : h.Ns mainGlobals mg) (c : SaysH nms sps ci ti ks w K) : Dm.HasFn P w K mg base 1 "_law_place_step" 4 F__law_place_step := by
  obtain ⟨a, fd, h1, F⟩ := fn_ c (i := 83) (x := "_law_place_step") (d := d__law_place_step) rfl rfl (by decide +kernel) nd
  exact ⟨a, fd, P__law_place_step, [], [], ok__law_place_step (gd X G c)  F, F.kp, (F.bindsN fun _ _ _ _ _ _ us hl => match us, hl with | [_, _, _, _], _ => rfl), .nil, rfl, mg_of X G h1⟩
theorem x__law_written (X : K.In h) (G : h.Ns mainGlobals mg) (c : SaysH nms sps ci ti ks w K) : Dm.HasFn P w K mg base 2 "_law_written" 4 F__law_written := by
  obtain ⟨a, fd, h1, F⟩ := fn_ c (i := 84) (x := "_law_written") (d := d__law_written) rfl rfl (by decide +kernel) nd
  exact ⟨a, fd, P__law_written, [], [], ok__law_written (gd X G c) (x__law_meant X G c) (x__law_person_step X G c) (x__law_place_step X G c) F, F.kp, (F.bindsN fun _ _ _ _ _ _ us hl => match us, hl with | [_, _, _, _], _ => rfl), .nil, rfl, mg_of X G h1⟩
theorem x__law_person_state (X : K.In h) (G : h.Ns mainGlobals mg) (c : SaysH nms sps ci ti ks w K) : Dm.HasFn P w K mg base 1 "_law_person_state" 3 F__law_person_state := by
  obtain ⟨a, fd, h1, F⟩ := fn_ c (i := 86) (x := "_law_person_state") (d := d__law_person_state) rfl rfl (by decide +kernel) nd
  exact ⟨a, fd, P__law_person_state, [], [], ok__law_person_state (gd X G c)  F, F.kp, (F.bindsN fun _ _ _ _ _ _ us hl => match us, hl with | [_, _, _], _ => rfl), .nil, rfl, mg_of X G h1⟩
theorem x__law_begun (X : K.In h) (G : h.Ns mainGlobals mg) (c : SaysH nms sps ci ti ks w K) : Dm.HasFn P w K mg base 1 "_law_begun" 1 F__law_begun := by
  obtain ⟨a, fd, h1, F⟩ := fn_ c (i := 87) (x := "_law_begun") (d := d__law_begun) rfl rfl (by decide +kernel) nd
  exact ⟨a, fd, P__law_begun, [], [], ok__law_begun (gd X G c)  F, F.kp, (F.bindsN fun _ _ _ _ _ _ us hl => match us, hl with | [_], _ => rfl), .nil, rfl, mg_of X G h1⟩
theorem x__law_behind (X : K.In h) (G : h.Ns mainGlobals mg) (c : SaysH nms sps ci ti ks w K) : Dm.HasFn P w K mg base 2 "_law_behind" 2 F__law_behind := by
  obtain ⟨a, fd, h1, F⟩ := fn_ c (i := 88) (x := "_law_behind") (d := d__law_behind) rfl rfl (by decide +kernel) nd
  exact ⟨a, fd, P__law_behind, [], [], ok__law_behind (gd X G c) (x__law_person_state X G c) (x__law_person_step X G c) (x__law_place_step X G c) F, F.kp, (F.bindsN fun _ _ _ _ _ _ us hl => match us, hl with | [_, _], _ => rfl), .nil, rfl, mg_of X G h1⟩
theorem x__law_closed (X : K.In h) (G : h.Ns mainGlobals mg) (c : SaysH nms sps ci ti ks w K) : Dm.HasFn P w K mg base 3 "_law_closed" 2 F__law_closed := by
  obtain ⟨a, fd, h1, F⟩ := fn_ c (i := 89) (x := "_law_closed") (d := d__law_closed) rfl rfl (by decide +kernel) nd
  exact ⟨a, fd, P__law_closed, [], [], ok__law_closed (gd X G c) (x__law_begun X G c) (x__law_behind X G c) F, F.kp, (F.bindsN fun _ _ _ _ _ _ us hl => match us, hl with | [_, _], _ => rfl), .nil, rfl, mg_of X G h1⟩
theorem x__law_is_steps (X : K.In h) (G : h.Ns mainGlobals mg) (c : SaysH nms sps ci ti ks w K) : Dm.HasFn P w K mg base 2 "_law_is_steps" 1 F__law_is_steps := by
  obtain ⟨a, fd, h1, F⟩ := fn_ c (i := 90) (x := "_law_is_steps") (d := d__law_is_steps) rfl rfl (by decide +kernel) nd
  exact ⟨a, fd, P__law_is_steps, [], [], ok__law_is_steps (gd X G c) (x__law_whole X G c) F, F.kp, (F.bindsN fun _ _ _ _ _ _ us hl => match us, hl with | [_], _ => rfl), .nil, rfl, mg_of X G h1⟩
theorem x__law_erring (X : K.In h) (G : h.Ns mainGlobals mg) (c : SaysH nms sps ci ti ks w K) : Dm.HasFn P w K mg base 3 "_law_erring" 4 F__law_erring := by
  obtain ⟨a, fd, h1, F⟩ := fn_ c (i := 91) (x := "_law_erring") (d := d__law_erring) rfl rfl (by decide +kernel) nd
  exact ⟨a, fd, P__law_erring, [], [], ok__law_erring (gd X G c) (x__law_after X G c) (x__law_meant X G c) (x__law_written X G c) F, F.kp, (F.bindsN fun _ _ _ _ _ _ us hl => match us, hl with | [_, _, _, _], _ => rfl), .nil, rfl, mg_of X G h1⟩
theorem x__law_wrong_right (X : K.In h) (G : h.Ns mainGlobals mg) (c : SaysH nms sps ci ti ks w K) : Dm.HasFn P w K mg base 4 "_law_wrong_right" 4 F__law_wrong_right := by
  obtain ⟨a, fd, h1, F⟩ := fn_ c (i := 92) (x := "_law_wrong_right") (d := d__law_wrong_right) rfl rfl (by decide +kernel) nd
  exact ⟨a, fd, P__law_wrong_right, [], [], ok__law_wrong_right (gd X G c) (x__law_erring X G c) (x__law_is_steps X G c) F, F.kp, (F.bindsN fun _ _ _ _ _ _ us hl => match us, hl with | [_, _, _, _], _ => rfl), .nil, rfl, mg_of X G h1⟩
theorem x__law_answer_right (X : K.In h) (G : h.Ns mainGlobals mg) (c : SaysH nms sps ci ti ks w K) : Dm.HasFn P w K mg base 6 "_law_answer_right" 3 F__law_answer_right := by
  obtain ⟨a, fd, h1, F⟩ := fn_ c (i := 93) (x := "_law_answer_right") (d := d__law_answer_right) rfl rfl (by decide +kernel) nd
  exact ⟨a, fd, P__law_answer_right, [], [], ok__law_answer_right (gd X G c) (x__law_closed X G c) (x__law_wrong_right X G c) (x_always_right X G c) (x_rules_reached X G c) F, F.kp, (F.bindsN fun _ _ _ _ _ _ us hl => match us, hl with | [_, _, _], _ => rfl), .nil, rfl, mg_of X G h1⟩
theorem x__law_same_words (X : K.In h) (G : h.Ns mainGlobals mg) (c : SaysH nms sps ci ti ks w K) : Dm.HasFn P w K mg base 7 "_law_same_words" 3 F__law_same_words := by
  obtain ⟨a, fd, h1, F⟩ := fn_ c (i := 94) (x := "_law_same_words") (d := d__law_same_words) rfl rfl (by decide +kernel) nd
  exact ⟨a, fd, P__law_same_words, [], [], ok__law_same_words (gd X G c) (x__law_answer_right X G c) (x__law_made_book X G c) F, F.kp, (F.bindsN fun _ _ _ _ _ _ us hl => match us, hl with | [_, _, _], _ => rfl), .nil, rfl, mg_of X G h1⟩
theorem x__law_results_right (X : K.In h) (G : h.Ns mainGlobals mg) (c : SaysH nms sps ci ti ks w K) : Dm.HasFn P w K mg base 5 "_law_results_right" 3 F__law_results_right := by
  obtain ⟨a, fd, h1, F⟩ := fn_ c (i := 95) (x := "_law_results_right") (d := d__law_results_right) rfl rfl (by decide +kernel) nd
  exact ⟨a, fd, P__law_results_right, [], [], ok__law_results_right (gd X G c) (x_Situation_eq X G c) (x_Situation_moved X G c) (x_Step_eq X G c) (x_Step_init X G c) (x_TalkErr_eq X G c) (x_TalkErr_init X G c) (x_WrongChain_eq X G c) (x_WrongChain_init X G c) (x__law_made_situation X G c) (x__law_made_steps X G c) (x__law_moves X G c) (x__law_spot X G c) F, F.kp, (F.bindsN fun _ _ _ _ _ _ us hl => match us, hl with | [_, _, _], _ => rfl), .nil, rfl, mg_of X G h1⟩
theorem facts (X : K.In h) (G : h.Ns mainGlobals mg) (c : SaysH nms sps ci ti ks w K) {f : Addr} (hfa : mg ("law" : PySem.Str) = some (.ref f)) :
    ∃ fd : FuncData, (∀ (s : Shared) (v : Value), BindsTo s fd ⟨[v], []⟩ [("_law_script", v)]) ∧ ∀ base : Heap, L2.FnOk P w K mg base L2.CX0 8 f fd ["_law_script"] (Dm.spD ⟨P, w, K⟩ 1 F_law) := by
  obtain ⟨a, fd, h1, F⟩ := fn_ c (i := 96) (x := "law") (d := d_law) rfl rfl (by decide +kernel) nd
  have e := hfa.symm.trans (mg_of X G h1)
  cases e
  have b := L2.FunD.bindsA (ps := ["_law_script"]) F fun _ _ _ _ _ _ us hl => match us, hl with | [_], _ => rfl
  exact ⟨fd, fun s v => b s [v] rfl, fun base => ok_law (gd X G c) (x__law_answer_right X G c) (x__law_book X G c) (x__law_hand X G c) (x__law_made_book X G c) (x__law_results_right X G c) (x__law_same_words X G c) (x__law_take X G c) (x__law_world X G c) F⟩
end
end Hd
set_option maxHeartbeats 0
/-! Hd4: the law holds. -/
namespace Hd
open PySem PySem.W PySem.Calls PyProof.Rows T
theorem repNs (K : Frag) : ∀ (l : List Int) (B : L2.Hp), Dm.RepA K B (l.map .int) (l.map L2.V.int)
  | [], _ => by simp [Dm.RepA]
  | x :: l, B => by
    have := repNs K l B
    simp only [List.map_cons, Dm.RepA]
    exact ⟨_, _, rfl, by simp [Dm.RepP], this⟩
theorem says {P : Program} {w : World} {K : Frag} {H : L2.Hp} {a : Addr} {ns : List Int} (hl : ns.length ≤ 63) (hO : L2.Only H) (hS : L2.SqL K H a (ns.map L2.V.int)) : Dm.spD ⟨P, w, K⟩ 1 F_law [.ref a] H (fun v _ => v = .bl true) fun _ _ _ => False := by
  obtain ⟨mu', e⟩ := law_true hl
  refine ⟨⟨[], H⟩, [], [.lst (ns.map .int)], .bl true, mu', rfl, ?_, .cons ?_ .nil, e, fun v H' W' x S r => ?_⟩
  · exact ⟨L2.Same.refl _, rfl, fun k a m h => by simp at h, fun i j a h => by simp at h⟩
  · show Dm.RepP K H (.lst (ns.map .int)) (.ref a)
    simp only [Dm.RepP]
    exact ⟨a, _, rfl, hS, repNs K ns H⟩
  · exact r.bl
end Hd
open PySem PySem.W PySem.Calls PyProof.Rows
theorem PySem.Challenge.cw_whosetomorrow_k56_whole_persons_and_plac_holds : PySem.Challenge.rw_whosetomorrow_k56_whole_persons_and_plac.Holds := by
  w_on; o_law
  refine HandSHeadRun.head_any (r := OpenLaw.row PySem.Challenge.rw_whosetomorrow_k56_whole_persons_and_plac) (q := view (OpenLaw.row PySem.Challenge.rw_whosetomorrow_k56_whole_persons_and_plac).prog [102]) (H := Hd.hk) (ob := Hd.ob) (M := 20000) (loose := Hd.names) (d := HandSHeadRun.topDef (OpenLaw.row PySem.Challenge.rw_whosetomorrow_k56_whole_persons_and_plac).prog 102) (kwd := []) Hd.ob_eq
    (by kernel_rfl) (fun s => by kernel_rfl) Hd.run (by kernel_rfl) (by kernel_rfl) (by kernel_rfl) (by rfl) (by first | assumption | decide +kernel) (by decide +kernel) ⟨rfl, rfl, rfl, rfl, rfl, by decide +kernel⟩ ?hw ?hc
  case hw => w_witness2
  case hc =>
    refine L2.walk_ofE (l := PySem.Challenge.rw_whosetomorrow_k56_whole_persons_and_plac) (n := 63) (k := 8) (x := "_law_script") (CX := L2.CX0) rfl (by decide) (by kernel_rfl) ⟨rfl, by decide, by decide⟩ ?F (fun _ _ _ _ z => z)
    intro w mg fa h Y G hmg0
    obtain ⟨K, KX, c⟩ := Y
    have hmg : mg ("law" : PySem.Str) = some (.ref fa) := by
      have e : (HandSHeadRun.topDef (OpenLaw.row PySem.Challenge.rw_whosetomorrow_k56_whole_persons_and_plac).prog 102).name = ("law" : PySem.Str) := by kernel_rfl
      rw [← e]
      exact hmg0
    obtain ⟨fd, hb, hF⟩ := Hd.facts (P := (PySem.Challenge.rw_whosetomorrow_k56_whole_persons_and_plac).prog) (w := w) KX G c hmg
    exact ⟨K, fd, Dm.spD ⟨_, w, K⟩ 1 T.F_law, KX, hb, fun H a ns hl hO hS => Hd.says hl hO hS, fun base _ _ => hF base⟩
