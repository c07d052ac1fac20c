import PyProof.Rows.All
import Wide.All
import OpenK.AllK
import Wide.FinOn
import HandS.Base
import HandS.Call
import HandS.List
import HandS.Comp
import HandS.Exc
import HandS.ExcInit
import HandS.ExcField
import HandS.Words
import HandS.WordsExc
import HandS.Flow
import HandS.Text
import HandS.StrMore
import HandS.TupAny
import HandS.IsInst
import HandS.Walk
import HandS.Zip
import HandS.CallSlots
import HandS.TryOnly
import HandS.Defaults
import HandS.Head0
import HandS.Head1
import HandS.Head2
import HandS.HeadEnd
import HandS.HeadHook1
import HandS.HeadHook2
import PySem.Challenge.RW_rulestand_k70_tokens_and_places
set_option Elab.async false
set_option linter.all false
set_option maxRecDepth 100000
set_option autoImplicit false
/-! A small language with values, a store of what may change, and an interpreter: data, results, what stands for what. -/
namespace Ip
open PySem L2

/-! ### data -/
inductive D where
  | non | bl (b : Bool) | int (i : Int) | str (s : Str)
  | tup (xs : List D) | lst (xs : List D) | dct (ks vs : List D) | ins (c : Str) (fs : List Str) (vs : List D)
  | ref (i : Nat)
  /-- the script: a list of ints that is given -/
  | scr (ns : List Int)
  deriving Inhabited

mutual
/-- every ref lies below m -/
def D.okRef (m : Nat) : D → Bool
  | .tup xs => okRefs m xs
  | .lst xs => okRefs m xs
  | .dct ks vs => okRefs m ks && okRefs m vs
  | .ins _ _ vs => okRefs m vs
  | .ref i => decide (i < m)
  | .non => true
  | .bl _ => true
  | .int _ => true
  | .str _ => true
  | .scr _ => true
def okRefs (m : Nat) : List D → Bool
  | [] => true
  | x :: xs => x.okRef m && okRefs m xs
end

mutual
def D.beq : D → D → Bool
  | .non, .non => true
  | .bl a, .bl b => a == b
  | .int a, .int b => decide (a = b)
  | .str a, .str b => decide (a = b)
  | .tup xs, .tup ys => beqs xs ys
  | .lst xs, .lst ys => beqs xs ys
  | .dct ks vs, .dct ls ws => beqs ks ls && beqs vs ws
  | .ins c fs vs, .ins d gs ws => decide (c = d) && (decide (fs = gs) && beqs vs ws)
  | .ref i, .ref j => decide (i = j)
  | .scr i, .scr j => decide (i = j)
  | _, _ => false
def beqs : List D → List D → Bool
  | [], [] => true
  | x :: xs, y :: ys => x.beq y && beqs xs ys
  | _, _ => false
end

mutual
theorem D.beq_eq : ∀ {x y : D}, x.beq y = true → x = y
  | .non, y, h => by cases y <;> simp [D.beq] at h ⊢
  | .bl _, y, h => by cases y <;> simp_all [D.beq]
  | .int _, y, h => by cases y <;> simp_all [D.beq]
  | .str _, y, h => by cases y <;> simp_all [D.beq]
  | .tup xs, y, h => by
    cases y <;> simp only [D.beq, Bool.false_eq_true] at h
    rw [beqs_eq h]
  | .lst xs, y, h => by
    cases y <;> simp only [D.beq, Bool.false_eq_true] at h
    rw [beqs_eq h]
  | .dct ks vs, y, h => by
    cases y <;> simp only [D.beq, Bool.false_eq_true, Bool.and_eq_true] at h
    rw [beqs_eq h.1, beqs_eq h.2]
  | .ins c fs vs, y, h => by
    cases y <;> simp only [D.beq, Bool.false_eq_true, Bool.and_eq_true, decide_eq_true_eq] at h
    rw [h.1, h.2.1, beqs_eq h.2.2]
  | .ref _, y, h => by cases y <;> simp_all [D.beq]
  | .scr _, y, h => by cases y <;> simp_all [D.beq]
theorem beqs_eq : ∀ {xs ys : List D}, beqs xs ys = true → xs = ys
  | [], [], _ => rfl
  | [], _ :: _, h => by simp [beqs] at h
  | _ :: _, [], h => by simp [beqs] at h
  | x :: xs, y :: ys, h => by
    simp only [beqs, Bool.and_eq_true] at h
    rw [D.beq_eq h.1, beqs_eq h.2]
end
mutual
theorem D.beq_self : ∀ x : D, x.beq x = true
  | .non => rfl
  | .bl b => by simp [D.beq]
  | .int b => by simp [D.beq]
  | .str b => by simp [D.beq]
  | .tup xs => by simp [D.beq, beqs_self xs]
  | .lst xs => by simp [D.beq, beqs_self xs]
  | .dct ks vs => by simp [D.beq, beqs_self ks, beqs_self vs]
  | .ins c fs vs => by simp [D.beq, beqs_self vs]
  | .ref i => by simp [D.beq]
  | .scr i => by simp [D.beq]
theorem beqs_self : ∀ xs : List D, beqs xs xs = true
  | [] => rfl
  | x :: xs => by simp [beqs, D.beq_self x, beqs_self xs]
end
instance : DecidableEq D := fun x y => if h : x.beq y = true then .isTrue (D.beq_eq h) else .isFalse fun e => h (by rw [e]; exact D.beq_self y)

/-- what may change -/
inductive O where
  | lst (xs : List D) | dct (ks vs : List D) | ins (c : Str) (fs : List Str) (vs : List D) | gone
  deriving Inhabited
def O.okRef (m : Nat) : O → Bool
  | .lst xs => okRefs m xs
  | .dct ks vs => okRefs m ks && okRefs m vs
  | .ins _ _ vs => okRefs m vs
  | .gone => true
def O.beq : O → O → Bool
  | .lst xs, .lst ys => beqs xs ys
  | .dct ks vs, .dct ls ws => beqs ks ls && beqs vs ws
  | .ins c fs vs, .ins d gs ws => decide (c = d) && (decide (fs = gs) && beqs vs ws)
  | .gone, .gone => true
  | _, _ => false
theorem O.beq_eq : ∀ {x y : O}, x.beq y = true → x = y := fun {x y} h => by
  cases x <;> cases y <;> simp only [O.beq, Bool.false_eq_true, Bool.and_eq_true, decide_eq_true_eq] at h
  · rw [beqs_eq h]
  · rw [beqs_eq h.1, beqs_eq h.2]
  · rw [h.1, h.2.1, beqs_eq h.2.2]
  · rfl
theorem O.beq_self : ∀ x : O, x.beq x = true := fun x => by cases x <;> simp [O.beq, beqs_self]
instance : DecidableEq O := fun x y => if h : x.beq y = true then .isTrue (O.beq_eq h) else .isFalse fun e => h (by rw [e]; exact O.beq_self y)

abbrev Store := List O
abbrev Env := List (Option D)
abbrev XF := List (Str × D)

inductive R (α : Type) where
  | ok (a : α) (st : Store)
  | exc (c : Str) (fs : XF) (st : Store)
  | stuck
def R.bind {α β : Type} (r : R α) (f : α → Store → R β) : R β :=
  match r with
  | .ok a st => f a st
  | .exc c fs st => .exc c fs st
  | .stuck => .stuck
/-- a partial value -/
def R.of {α : Type} (o : Option α) (st : Store) : R α := match o with
  | some a => .ok a st
  | none => .stuck

/-! ### what stands for what -/
/-- K: the written part; cad: where a class stands -/
structure Tb where
  K : PySem.W.Frag
  cad : Str → Addr

/-- eta: where what may change stands; prv: what is being made, and belongs to nobody as yet -/
structure Wd where
  eta : List (Option Addr)
  st : Store
  H : Hp
  prv : List Addr

def Wd.Live (w : Wd) (a : Addr) : Prop := some a ∈ w.eta
def Wd.Out (w : Wd) (a : Addr) : Prop := ¬ w.Live a ∧ a ∉ w.prv
/-- at a stands u, and nobody changes it -/
def Wd.Fz (w : Wd) (a : Addr) (u : HO) : Prop := Rd w.H a u ∧ w.Out a
def KTup (K : PySem.W.Frag) (a : Addr) (xs : List V) : Prop :=
  ∃ (o : Obj) (its : Array Value) (n : Nat), K.lookup a = some o ∧ o.cls = .type "tuple" ∧ o.data = .seq its n ∧ its.size ≤ sizeLine ∧ Vals xs its.toList

def KLst (K : PySem.W.Frag) (a : Addr) (xs : List V) : Prop :=
  ∃ (o : Obj) (its : Array Value) (n : Nat), K.lookup a = some o ∧ o.cls = .type "list" ∧ o.dict = none ∧ o.data = .seq its n ∧ its.size ≤ sizeLine ∧ Vals xs its.toList

variable (T : Tb)
mutual
def Rep (w : Wd) : D → V → Prop
  | .non, v => v = .non
  | .bl b, v => v = .bl b
  | .int i, v => v = .int i
  | .str s, v => v = .str s
  | .tup xs, v => ∃ a vs, v = .ref a ∧ (w.Fz a (.tup vs) ∨ KTup T.K a vs) ∧ Reps w xs vs
  | .lst xs, v => ∃ a vs, v = .ref a ∧ w.Fz a (.lst vs) ∧ Reps w xs vs
  | .dct _ _, _ => False
  | .ins c fs vs, v => ∃ a dx ws, v = .ref a ∧ w.Fz a (.ins (T.cad c) dx (fs.zip ws)) ∧ fs.length = ws.length ∧ Reps w vs ws
  | .ref i, v => ∃ oa, w.eta[i]? = some oa ∧ ∀ a, oa = some a → v = .ref a
  | .scr ns, v => ∃ a, v = .ref a ∧ (w.Fz a (.lst (ns.map V.int)) ∨ KLst T.K a (ns.map V.int))
def Reps (w : Wd) : List D → List V → Prop
  | [], vs => vs = []
  | x :: xs, vs => ∃ v r, vs = v :: r ∧ Rep w x v ∧ Reps w xs r
end

def ORep (w : Wd) (a : Addr) : O → Prop
  | .lst xs => ∃ vs, w.H a = some (.lst vs) ∧ Reps T w xs vs
  | .dct _ _ => False
  | .ins c fs vs => ∃ dx ws, w.H a = some (.ins (T.cad c) dx (fs.zip ws)) ∧ fs.length = ws.length ∧ Reps T w vs ws
  | .gone => False

structure Good (w : Wd) : Prop where
  len : w.eta.length = w.st.length
  at_ : ∀ (i : Nat) (a : Addr), w.eta[i]? = some (some a) → ∃ o, w.st[i]? = some o ∧ ORep T w a o
  inj : ∀ (i j : Nat) (a : Addr), w.eta[i]? = some (some a) → w.eta[j]? = some (some a) → i = j
  alive : ∀ (i : Nat) (o : O), w.st[i]? = some o → o ≠ .gone → ∃ a, w.eta[i]? = some (some a)
  pout : ∀ a, w.Live a → a ∉ w.prv
  psome : ∀ a ∈ w.prv, w.H a ≠ none

/-- no less is known -/
structure Le (w w' : Wd) : Prop where
  fz : ∀ a u, w.Fz a u → w'.Fz a u
  eta : ∀ (i : Nat) (oa : Option Addr), w.eta[i]? = some oa → w'.eta[i]? = some oa ∨ w'.eta[i]? = some none
/-- later -/
structure Fut (w w' : Wd) : Prop where
  le : Le w w'
  pe : w'.prv = w.prv
  pk : ∀ a ∈ w.prv, ∀ o, w.H a = some o → w'.H a = some o

variable {T}
theorem Le.refl {w : Wd} : Le w w := ⟨fun _ _ h => h, fun _ _ h => .inl h⟩
theorem Le.trans {a b c : Wd} (h : Le a b) (k : Le b c) : Le a c := ⟨fun x u z => k.fz x u (h.fz x u z), fun i oa z => by
  rcases h.eta i oa z with z | z
  · exact k.eta i oa z
  · rcases k.eta i none z with z | z <;> exact .inr z⟩
theorem Fut.refl {w : Wd} : Fut w w := ⟨.refl, rfl, fun _ _ _ h => h⟩
theorem Fut.trans {a b c : Wd} (h : Fut a b) (k : Fut b c) : Fut a c := ⟨h.le.trans k.le, k.pe.trans h.pe, fun x hx o e => k.pk x (by rw [h.pe]; exact hx) o (h.pk x hx o e)⟩

mutual
theorem Rep.leR {w w' : Wd} (f : Le w w') : ∀ {d : D} {v : V}, Rep T w d v → Rep T w' d v
  | .non, _, h => h
  | .bl _, _, h => h
  | .int _, _, h => h
  | .str _, _, h => h
  | .tup xs, v, h => by
    obtain ⟨a, vs, e, z, r⟩ := h
    refine ⟨a, vs, e, ?_, Reps.leR f r⟩
    rcases z with z | z
    · exact .inl (f.fz _ _ z)
    · exact .inr z
  | .lst xs, v, h => by
    obtain ⟨a, vs, e, z, r⟩ := h
    exact ⟨a, vs, e, f.fz _ _ z, Reps.leR f r⟩
  | .dct _ _, _, h => h
  | .ins c fs vs, v, h => by
    obtain ⟨a, dx, ws, e, z, l, r⟩ := h
    exact ⟨a, dx, ws, e, f.fz _ _ z, l, Reps.leR f r⟩
  | .ref i, v, h => by
    obtain ⟨oa, e, z⟩ := h
    rcases f.eta i oa e with e | e
    · exact ⟨oa, e, z⟩
    · exact ⟨none, e, fun a q => nomatch q⟩
  | .scr ns, v, h => by
    obtain ⟨a, e, z⟩ := h
    exact ⟨a, e, z.elim (fun z => .inl (f.fz _ _ z)) .inr⟩
theorem Reps.leR {w w' : Wd} (f : Le w w') : ∀ {ds : List D} {vs : List V}, Reps T w ds vs → Reps T w' ds vs
  | [], _, h => h
  | _ :: _, _, h => by
    obtain ⟨v, r, e, z, y⟩ := h
    exact ⟨v, r, e, Rep.leR f z, Reps.leR f y⟩
end

theorem Rep.mono {w w' : Wd} {d : D} {v : V} (h : Rep T w d v) (f : Fut w w') : Rep T w' d v := Rep.leR f.le h
theorem Reps.mono {w w' : Wd} {d : List D} {v : List V} (h : Reps T w d v) (f : Fut w w') : Reps T w' d v := Reps.leR f.le h
theorem Reps.nil {w : Wd} : Reps T w [] [] := rfl
theorem Reps.cons {w : Wd} {d : D} {v : V} {ds : List D} {vs : List V} (h : Rep T w d v) (k : Reps T w ds vs) : Reps T w (d :: ds) (v :: vs) := ⟨v, vs, rfl, h, k⟩
theorem Reps.length {w : Wd} : ∀ {ds : List D} {vs : List V}, Reps T w ds vs → ds.length = vs.length
  | [], _, h => by cases h; rfl
  | _ :: _, _, h => by
    obtain ⟨v, r, rfl, _, y⟩ := h
    simp [Reps.length y]
theorem Reps.get {w : Wd} : ∀ {ds : List D} {vs : List V} {i : Nat} {d : D}, Reps T w ds vs → ds[i]? = some d → ∃ v, vs[i]? = some v ∧ Rep T w d v
  | [], _, _, _, _, e => by simp at e
  | x :: xs, vs, 0, d, h, e => by
    obtain ⟨v, r, rfl, z, y⟩ := h
    simp at e
    subst e
    exact ⟨v, rfl, z⟩
  | x :: xs, vs, i + 1, d, h, e => by
    obtain ⟨v, r, rfl, z, y⟩ := h
    obtain ⟨u, h1, h2⟩ := Reps.get (i := i) y (by simpa using e)
    exact ⟨u, by simpa using h1, h2⟩
theorem Reps.get' {w : Wd} : ∀ {ds : List D} {vs : List V} {i : Nat} {v : V}, Reps T w ds vs → vs[i]? = some v → ∃ d, ds[i]? = some d ∧ Rep T w d v := fun {ds vs i v} h e => by
  have hl := h.length
  have hi : i < vs.length := (List.getElem?_eq_some_iff.mp e).1
  have e1 : ds[i]? = some ds[i] := List.getElem?_eq_getElem (by omega)
  obtain ⟨u, h1, h2⟩ := h.get e1
  rw [e] at h1
  cases h1
  exact ⟨_, e1, h2⟩
theorem Reps.append {w : Wd} : ∀ {ds es : List D} {vs us : List V}, Reps T w ds vs → Reps T w es us → Reps T w (ds ++ es) (vs ++ us)
  | [], _, _, _, h, k => by cases h; exact k
  | _ :: _, _, _, _, h, k => by
    obtain ⟨v, r, rfl, z, y⟩ := h
    exact Reps.cons z (Reps.append y k)
theorem Reps.set {w : Wd} {d : D} {v : V} (q : Rep T w d v) : ∀ {ds : List D} {vs : List V} (i : Nat), Reps T w ds vs → Reps T w (ds.set i d) (vs.set i v)
  | [], _, _, h => by cases h; exact rfl
  | _ :: _, _, 0, h => by
    obtain ⟨u, r, rfl, z, y⟩ := h
    exact Reps.cons q y
  | _ :: _, _, i + 1, h => by
    obtain ⟨u, r, rfl, z, y⟩ := h
    exact Reps.cons z (Reps.set q i y)
theorem Reps.take {w : Wd} : ∀ {ds : List D} {vs : List V} (n : Nat), Reps T w ds vs → Reps T w (ds.take n) (vs.take n)
  | [], _, n, h => by cases h; simp [Reps]
  | _ :: _, _, 0, h => rfl
  | _ :: _, _, n + 1, h => by
    obtain ⟨u, r, rfl, z, y⟩ := h
    exact Reps.cons z (Reps.take n y)
theorem Reps.drop {w : Wd} : ∀ {ds : List D} {vs : List V} (n : Nat), Reps T w ds vs → Reps T w (ds.drop n) (vs.drop n)
  | [], _, n, h => by cases h; simp [Reps]
  | _ :: _, _, 0, h => h
  | _ :: _, _, n + 1, h => by
    obtain ⟨u, r, rfl, z, y⟩ := h
    exact Reps.drop n y

/-! ### how the world goes on -/
theorem mem_of_eq {α : Type} {a b : α} {l : List α} (h : a ∈ l) (e : a = b) : b ∈ l := e ▸ h
theorem rd_ne_none {H : Hp} {a : Addr} {u : HO} (h : Rd H a u) : H a ≠ none := fun e => by
  rcases h with h | ⟨o, h⟩ <;> rw [e] at h <;> cases h
theorem rd_upd {H : Hp} {a p : Addr} {u o : HO} (h : Rd H a u) (hp : H p = none) : Rd (upd H p o) a u := by
  have ne : a ≠ p := fun e => rd_ne_none h (e ▸ hp)
  rcases h with h | ⟨o', h⟩
  · exact .inl (by rw [upd_ne ne]; exact h)
  · exact .inr ⟨o', by rw [upd_ne ne]; exact h⟩
theorem Good.live_some {w : Wd} (g : Good T w) {a : Addr} (h : w.Live a) : ∃ o, w.H a = some o ∧ ∀ ob u, o ≠ .frz ob u := by
  obtain ⟨i, hi⟩ := List.getElem?_of_mem h
  obtain ⟨o, _, r⟩ := g.at_ i a hi
  cases o with
  | lst xs => obtain ⟨vs, e, _⟩ := r; exact ⟨_, e, fun _ _ z => nomatch z⟩
  | dct _ _ => exact r.elim
  | ins c fs vs => obtain ⟨dx, ws, e, _⟩ := r; exact ⟨_, e, fun _ _ z => nomatch z⟩
  | gone => exact r.elim
theorem Good.not_live {w : Wd} (g : Good T w) {a : Addr} (h : w.H a = none) : ¬ w.Live a := fun l => by
  obtain ⟨o, e, _⟩ := g.live_some l
  rw [h] at e; cases e

theorem ORep.leR {w w' : Wd} (f : Le w w') {a : Addr} {o : O} (h : ORep T w a o) (e : w'.H a = w.H a) : ORep T w' a o := by
  cases o with
  | lst xs => obtain ⟨vs, q, r⟩ := h; exact ⟨vs, e.trans q, r.leR f⟩
  | dct _ _ => exact h
  | ins c fs vs => obtain ⟨dx, ws, q, l, r⟩ := h; exact ⟨dx, ws, e.trans q, l, r.leR f⟩
  | gone => exact h
theorem ORep.mono {w w' : Wd} {a : Addr} {o : O} (h : ORep T w a o) (f : Fut w w') (e : w'.H a = w.H a) : ORep T w' a o := h.leR f.le e

/-- the same abstract heap, what was tracked stays -/
theorem fut_same {w : Wd} {H' : Hp} (k : ∀ b o, w.H b = some o → H' b = some o) : Fut w { w with H := H' } :=
  ⟨⟨fun a u ⟨r, l⟩ => ⟨by
    rcases r with r | ⟨o, r⟩
    · exact .inl (k _ _ r)
    · exact .inr ⟨o, k _ _ r⟩, l⟩, fun _ _ h => .inl h⟩, rfl, fun a _ o e => k a o e⟩
theorem Good.same {w : Wd} (g : Good T w) {H' : Hp} (k : ∀ b o, w.H b = some o → H' b = some o) : Good T { w with H := H' } :=
  ⟨g.len, fun i a e => by
    obtain ⟨o, h1, h2⟩ := g.at_ i a e
    refine ⟨o, h1, h2.mono (fut_same k) ?_⟩
    obtain ⟨u, hu, _⟩ := g.live_some (List.mem_of_getElem? e)
    show H' a = w.H a
    rw [hu]; exact k _ _ hu, g.inj, g.alive, g.pout, fun a ha e => by
      cases q : w.H a with
      | none => exact g.psome a ha q
      | some o =>
        have z : H' a = none := e
        rw [k a o q] at z; cases z⟩
theorem upd_keeps {H : Hp} {p : Addr} {o : HO} (hp : H p = none) : ∀ b u, H b = some u → upd H p o b = some u := fun b u e => by rw [upd_ne (fun z => by rw [z, hp] at e; cases e)]; exact e
/-- a new object that nobody changes -/
theorem fut_new {w : Wd} {p : Addr} {o : HO} (hp : w.H p = none) : Fut w { w with H := upd w.H p o } := fut_same (upd_keeps hp)
theorem Good.new {w : Wd} (g : Good T w) {p : Addr} {o : HO} (hp : w.H p = none) : Good T { w with H := upd w.H p o } := g.same (upd_keeps hp)
theorem Good.not_prv {w : Wd} (g : Good T w) {p : Addr} (hp : w.H p = none) : p ∉ w.prv := fun h => g.psome p h hp
theorem fz_new {w : Wd} (g : Good T w) {p : Addr} {o : HO} (hp : w.H p = none) : Wd.Fz { w with H := upd w.H p o } p o :=
  ⟨.inl upd_same, g.not_live hp, g.not_prv hp⟩
/-- a new object that may be changed -/
def Wd.alloc (w : Wd) (p : Addr) (o : O) (u : HO) : Wd := ⟨w.eta ++ [some p], w.st ++ [o], upd w.H p u, w.prv⟩
theorem live_alloc {w : Wd} {p : Addr} {o : O} {u : HO} {a : Addr} (z : (w.alloc p o u).Live a) : w.Live a ∨ a = p := by
  have z' : some a ∈ w.eta ++ [some p] := z
  rcases List.mem_append.mp z' with z | z
  · exact .inl z
  · exact .inr (by simpa using z)
theorem fut_alloc {w : Wd} {p : Addr} {o : O} {u : HO} (hp : w.H p = none) : Fut w (w.alloc p o u) :=
  ⟨⟨fun a x ⟨r, l⟩ => ⟨rd_upd r hp, fun z => by
    rcases live_alloc z with z | e
    · exact l.1 z
    · exact rd_ne_none r (e ▸ hp), l.2⟩, fun i oa e => .inl (by
    show (w.eta ++ [some p])[i]? = some oa
    rw [List.getElem?_append_left (List.getElem?_eq_some_iff.mp e).1]; exact e)⟩, rfl, fun a _ o e => upd_keeps hp a o e⟩
theorem Good.alloc {w : Wd} (g : Good T w) {p : Addr} {o : O} {u : HO} (hp : w.H p = none) (r : ORep T (w.alloc p o u) p o) : Good T (w.alloc p o u) := by
  have hn : ∀ (i : Nat) (a : Addr), w.eta[i]? = some (some a) → a ≠ p := fun i a e z => g.not_live hp (z ▸ List.mem_of_getElem? e)
  have sp : ∀ (i : Nat) (a : Addr), (w.eta ++ [some p])[i]? = some (some a) → (i < w.eta.length ∧ w.eta[i]? = some (some a)) ∨ (i = w.eta.length ∧ a = p) := fun i a e => by
    by_cases hi : i < w.eta.length
    · rw [List.getElem?_append_left hi] at e; exact .inl ⟨hi, e⟩
    · rw [List.getElem?_append_right (by omega)] at e
      have e1 : i - w.eta.length < 1 := by have := (List.getElem?_eq_some_iff.mp e).1; simpa using this
      have e2 : i - w.eta.length = 0 := by omega
      rw [e2] at e
      have e3 : p = a := by simpa using e
      exact .inr ⟨by omega, e3.symm⟩
  refine ⟨by simp [Wd.alloc, g.len], fun i a e => ?_, fun i j a e1 e2 => ?_, fun i ob e ng => ?_, fun a z => ?_, fun a ha e => ?_⟩
  · rcases sp i a e with ⟨hi, e⟩ | ⟨hi, rfl⟩
    · obtain ⟨ob, h1, h2⟩ := g.at_ i a e
      refine ⟨ob, ?_, h2.mono (fut_alloc hp) ?_⟩
      · show (w.st ++ [o])[i]? = some ob
        rw [List.getElem?_append_left (by rw [← g.len]; exact hi)]; exact h1
      · show upd w.H p u a = w.H a
        exact upd_ne (hn i a e)
    · refine ⟨o, ?_, r⟩
      show (w.st ++ [o])[i]? = some o
      rw [hi, g.len]; simp
  · rcases sp i a e1 with ⟨h1, e1⟩ | ⟨h1, q1⟩ <;> rcases sp j a e2 with ⟨h2, e2⟩ | ⟨h2, q2⟩
    · exact g.inj i j a e1 e2
    · exact absurd q2 (hn i a e1)
    · exact absurd q1 (hn j a e2)
    · omega
  · have e : (w.st ++ [o])[i]? = some ob := e
    show ∃ a, (w.eta ++ [some p])[i]? = some (some a)
    by_cases hi : i < w.st.length
    · rw [List.getElem?_append_left hi] at e
      obtain ⟨a, q⟩ := g.alive i ob e ng
      exact ⟨a, by rw [List.getElem?_append_left (by rw [g.len]; exact hi)]; exact q⟩
    · rw [List.getElem?_append_right (by omega)] at e
      have e1 : i - w.st.length < 1 := by have := (List.getElem?_eq_some_iff.mp e).1; simpa using this
      have e2 : i = w.eta.length := by rw [g.len]; omega
      exact ⟨p, by rw [e2]; simp⟩
  · rcases live_alloc z with z | z
    · exact g.pout a z
    · rw [z]; exact g.not_prv hp
  · cases q : w.H a with
    | none => exact g.psome a ha q
    | some x =>
      have z : upd w.H p u a = none := e
      rw [upd_keeps hp a x q] at z; cases z
/-- a live object is changed -/
def Wd.put (w : Wd) (i : Nat) (a : Addr) (o : O) (u : HO) : Wd := ⟨w.eta, w.st.set i o, upd w.H a u, w.prv⟩
theorem fut_put {w : Wd} (g : Good T w) {i : Nat} {a : Addr} {o : O} {u : HO} (h : w.eta[i]? = some (some a)) : Fut w (w.put i a o u) :=
  ⟨⟨fun b x ⟨r, l⟩ => ⟨by
    have ne : b ≠ a := fun z => l.1 (z ▸ List.mem_of_getElem? h)
    rcases r with r | ⟨ob, r⟩
    · exact .inl ((upd_ne ne).trans r)
    · exact .inr ⟨ob, (upd_ne ne).trans r⟩, l⟩, fun _ _ e => .inl e⟩, rfl, fun b hb x e => (upd_ne (fun z => g.pout a (List.mem_of_getElem? h) (mem_of_eq hb z))).trans e⟩
theorem Good.put {w : Wd} (g : Good T w) {i : Nat} {a : Addr} {o : O} {u : HO} (h : w.eta[i]? = some (some a)) (r : ORep T (w.put i a o u) a o) : Good T (w.put i a o u) := by
  refine ⟨by simp [Wd.put, g.len], fun j b e => ?_, g.inj, fun j ob e ng => ?_, g.pout, fun b hb e => ?_⟩
  rotate_left
  · have e : (w.st.set i o)[j]? = some ob := e
    by_cases hj : i = j
    · subst hj; exact ⟨a, h⟩
    · rw [List.getElem?_set_ne hj] at e
      exact g.alive j ob e ng
  · have z : upd w.H a u b = none := e
    rw [upd_ne (fun z => g.pout a (List.mem_of_getElem? h) (mem_of_eq hb z))] at z
    exact g.psome b hb z
  have e : w.eta[j]? = some (some b) := e
  by_cases hj : i = j
  · subst hj
    rw [h] at e
    cases e
    refine ⟨o, ?_, r⟩
    show (w.st.set i o)[i]? = some o
    have hl : i < w.st.length := by rw [← g.len]; exact (List.getElem?_eq_some_iff.mp h).1
    rw [List.getElem?_set_self hl]
  · have hb : b ≠ a := fun z => hj (g.inj i j a h (z ▸ e))
    obtain ⟨ob, h1, h2⟩ := g.at_ j b e
    refine ⟨ob, ?_, h2.mono (fut_put g h) ?_⟩
    · show (w.st.set i o)[j]? = some ob
      rw [List.getElem?_set_ne hj]; exact h1
    · exact upd_ne hb
/-! ### an object that is being made -/
/-- a new object of nobody's -/
def Wd.open_ (w : Wd) (p : Addr) (u : HO) : Wd := ⟨w.eta, w.st, upd w.H p u, p :: w.prv⟩
/-- w is known, p is being made -/
structure Pre (w w' : Wd) (p : Addr) : Prop where
  le : Le w w'
  pe : w'.prv = p :: w.prv
  pk : ∀ a ∈ w.prv, ∀ o, w.H a = some o → w'.H a = some o
  np : p ∉ w.prv
theorem Good.open_ {w : Wd} (g : Good T w) {p : Addr} {u : HO} (hp : w.H p = none) : Good T (w.open_ p u) ∧ Pre w (w.open_ p u) p := by
  have ff : Le w (w.open_ p u) := ⟨fun a x ⟨r, l⟩ => ⟨rd_upd r hp, l.1, fun z => by
    rcases List.mem_cons.mp z with e | z
    · exact rd_ne_none r (e ▸ hp)
    · exact l.2 z⟩, fun _ _ e => .inl e⟩
  refine ⟨⟨g.len, fun i a e => ?_, g.inj, g.alive, fun a z h => ?_, fun a ha e => ?_⟩, ff, rfl, fun a _ o e => upd_keeps hp a o e, g.not_prv hp⟩
  · obtain ⟨o, h1, h2⟩ := g.at_ i a e
    exact ⟨o, h1, h2.leR ff (upd_ne fun z => g.not_live hp (z ▸ List.mem_of_getElem? e))⟩
  · rcases List.mem_cons.mp h with e | h
    · exact g.not_live hp (e ▸ z)
    · exact g.pout a z h
  · have e : upd w.H p u a = none := e
    rcases List.mem_cons.mp ha with rfl | ha
    · rw [upd_same] at e; cases e
    · rw [upd_ne fun z => g.not_prv hp (mem_of_eq ha z)] at e
      exact g.psome a ha e
theorem Pre.later {w w1 w2 : Wd} {p : Addr} (h : Pre w w1 p) (f : Fut w1 w2) : Pre w w2 p :=
  ⟨h.le.trans f.le, f.pe.trans h.pe, fun a ha o e => f.pk a (by rw [h.pe]; exact List.mem_cons_of_mem _ ha) o (h.pk a ha o e), h.np⟩
/-- p goes on -/
def Wd.more (w : Wd) (p : Addr) (u : HO) : Wd := { w with H := upd w.H p u }
theorem Good.more {w : Wd} (g : Good T w) {p : Addr} {u : HO} (hp : p ∈ w.prv) : Good T (w.more p u) ∧ Le w (w.more p u) := by
  have ff : Le w (w.more p u) := ⟨fun a x ⟨r, l⟩ => ⟨by
    have ne : a ≠ p := fun z => l.2 (z ▸ hp)
    rcases r with r | ⟨ob, r⟩
    · exact .inl ((upd_ne ne).trans r)
    · exact .inr ⟨ob, (upd_ne ne).trans r⟩, l⟩, fun _ _ e => .inl e⟩
  refine ⟨⟨g.len, fun i a e => ?_, g.inj, g.alive, g.pout, fun a ha e => ?_⟩, ff⟩
  · obtain ⟨o, h1, h2⟩ := g.at_ i a e
    exact ⟨o, h1, h2.leR ff (upd_ne fun z => g.pout a (List.mem_of_getElem? e) (z ▸ hp))⟩
  · have e : upd w.H p u a = none := e
    by_cases z : a = p
    · rw [z, upd_same] at e; cases e
    · rw [upd_ne z] at e
      exact g.psome a ha e
theorem Pre.more {w w1 : Wd} {p : Addr} {u : HO} (h : Pre w w1 p) (l : Le w1 (w1.more p u)) : Pre w (w1.more p u) p :=
  ⟨h.le.trans l, h.pe, fun a ha o e => (upd_ne (fun z => h.np (mem_of_eq ha z))).trans (h.pk a ha o e), h.np⟩
/-- p is made -/
def Wd.done (w : Wd) (l : List Addr) : Wd := { w with prv := l }
theorem Pre.done {w w1 : Wd} {p : Addr} (g1 : Good T w1) (h : Pre w w1 p) : Good T (w1.done w.prv) ∧ Fut w (w1.done w.prv) ∧ Le w1 (w1.done w.prv) := by
  have sub : ∀ a, a ∈ w.prv → a ∈ w1.prv := fun a ha => by rw [h.pe]; exact List.mem_cons_of_mem _ ha
  have l1 : Le w1 (w1.done w.prv) := ⟨fun a u ⟨r, l⟩ => ⟨r, l.1, fun z => l.2 (sub a z)⟩, fun _ _ e => .inl e⟩
  refine ⟨⟨g1.len, fun i a e => ?_, g1.inj, g1.alive, fun a z y => g1.pout a z (sub a y), fun a ha => g1.psome a (sub a ha)⟩, ⟨h.le.trans l1, rfl, h.pk⟩, l1⟩
  obtain ⟨o, h1, h2⟩ := g1.at_ i a e
  exact ⟨o, h1, h2.leR l1 rfl⟩
theorem done_fz {w w1 : Wd} {p : Addr} {u : HO} (g1 : Good T w1) (h : Pre w w1 p) (hp : w1.H p = some u) : (w1.done w.prv).Fz p u :=
  ⟨.inl hp, fun z => g1.pout p z (by rw [h.pe]; exact List.mem_cons_self), h.np⟩

/-! ### the end of a call: the new objects are forgotten -/
def Wd.cut (w : Wd) (m : Nat) : Wd := ⟨w.eta.take m, w.st.take m, w.H, w.prv⟩
theorem fz_cut {w : Wd} {m : Nat} {a : Addr} {u : HO} (h : w.Fz a u) : (w.cut m).Fz a u := ⟨h.1, fun y => h.2.1 (List.mem_of_mem_take y), h.2.2⟩
mutual
theorem Rep.cut {w : Wd} {m : Nat} : ∀ {d : D} {v : V}, Rep T w d v → d.okRef m = true → Rep T (w.cut m) d v
  | .non, _, h, _ => h
  | .bl _, _, h, _ => h
  | .int _, _, h, _ => h
  | .str _, _, h, _ => h
  | .tup xs, v, h, k => by
    obtain ⟨a, vs, e, z, r⟩ := h
    refine ⟨a, vs, e, ?_, Reps.cut r (by simpa [D.okRef] using k)⟩
    rcases z with z | z
    · exact .inl (fz_cut z)
    · exact .inr z
  | .lst xs, v, h, k => by
    obtain ⟨a, vs, e, z, r⟩ := h
    exact ⟨a, vs, e, fz_cut z, Reps.cut r (by simpa [D.okRef] using k)⟩
  | .dct _ _, _, h, _ => h
  | .ins c fs vs, v, h, k => by
    obtain ⟨a, dx, ws, e, z, q, r⟩ := h
    exact ⟨a, dx, ws, e, fz_cut z, q, Reps.cut r (by simpa [D.okRef] using k)⟩
  | .ref i, v, h, k => by
    obtain ⟨oa, e, z⟩ := h
    have hi : i < m := by simpa [D.okRef] using k
    exact ⟨oa, by show (w.eta.take m)[i]? = some oa; rw [List.getElem?_take_of_lt hi]; exact e, z⟩
  | .scr ns, v, h, _ => by
    obtain ⟨a, e, z⟩ := h
    exact ⟨a, e, z.elim (fun z => .inl (fz_cut z)) .inr⟩
theorem Reps.cut {w : Wd} {m : Nat} : ∀ {ds : List D} {vs : List V}, Reps T w ds vs → okRefs m ds = true → Reps T (w.cut m) ds vs
  | [], _, h, _ => h
  | _ :: _, _, h, k => by
    obtain ⟨v, r, e, z, y⟩ := h
    simp only [okRefs, Bool.and_eq_true] at k
    exact ⟨v, r, e, Rep.cut z k.1, Reps.cut y k.2⟩
end
mutual
theorem Rep.okRef {w : Wd} {m : Nat} (hm : w.eta.length ≤ m) : ∀ {d : D} {v : V}, Rep T w d v → d.okRef m = true
  | .non, _, _ => rfl
  | .bl _, _, _ => rfl
  | .int _, _, _ => rfl
  | .str _, _, _ => rfl
  | .tup xs, v, h => by
    obtain ⟨a, vs, e, z, r⟩ := h
    simpa [D.okRef] using Reps.okRef hm r
  | .lst xs, v, h => by
    obtain ⟨a, vs, e, z, r⟩ := h
    simpa [D.okRef] using Reps.okRef hm r
  | .dct _ _, _, h => h.elim
  | .ins c fs vs, v, h => by
    obtain ⟨a, dx, ws, e, z, q, r⟩ := h
    simpa [D.okRef] using Reps.okRef hm r
  | .ref i, v, h => by
    obtain ⟨oa, e, z⟩ := h
    have := (List.getElem?_eq_some_iff.mp e).1
    simp only [D.okRef, decide_eq_true_eq]
    omega
  | .scr _, _, _ => rfl
theorem Reps.okRef {w : Wd} {m : Nat} (hm : w.eta.length ≤ m) : ∀ {ds : List D} {vs : List V}, Reps T w ds vs → okRefs m ds = true
  | [], _, _ => rfl
  | _ :: _, _, h => by
    obtain ⟨v, r, e, z, y⟩ := h
    simp only [okRefs, Bool.and_eq_true]
    exact ⟨Rep.okRef hm z, Reps.okRef hm y⟩
end
theorem ORep.cut {w : Wd} {m : Nat} {a : Addr} {o : O} (h : ORep T w a o) (k : o.okRef m = true) : ORep T (w.cut m) a o := by
  cases o with
  | lst xs => obtain ⟨vs, q, r⟩ := h; exact ⟨vs, q, r.cut k⟩
  | dct _ _ => exact h
  | ins c fs vs => obtain ⟨dx, ws, q, l, r⟩ := h; exact ⟨dx, ws, q, l, r.cut k⟩
  | gone => exact h
theorem ORep.okRef {w : Wd} {m : Nat} (hm : w.eta.length ≤ m) {a : Addr} {o : O} (h : ORep T w a o) : o.okRef m = true := by
  cases o with
  | lst xs => obtain ⟨vs, q, r⟩ := h; exact r.okRef hm
  | dct _ _ => exact h.elim
  | ins c fs vs => obtain ⟨dx, ws, q, l, r⟩ := h; exact r.okRef hm
  | gone => exact h.elim
theorem fut_len {w w' : Wd} (g : Good T w) (g' : Good T w') (f : Fut w w') : w.st.length ≤ w'.st.length := by
  rw [← g.len, ← g'.len]
  by_cases h0 : w.eta.length = 0
  · omega
  · have hlt : w.eta.length - 1 < w.eta.length := by omega
    have e : w.eta[w.eta.length - 1]? = some w.eta[w.eta.length - 1] := List.getElem?_eq_getElem hlt
    rcases f.le.eta _ _ e with z | z
    · have := (List.getElem?_eq_some_iff.mp z).1; omega
    · have := (List.getElem?_eq_some_iff.mp z).1; omega
/-- w the world at the call, w' behind its body -/
theorem cut_good {w w' : Wd} (g : Good T w) (g' : Good T w') (f : Fut w w') (k : w'.st.take w.st.length = w.st ∨ ∀ o ∈ w'.st.take w.st.length, o.okRef w.st.length = true) :
    Good T (w'.cut w.st.length) ∧ Fut w (w'.cut w.st.length) := by
  have hl := fut_len g g' f
  have lv : ∀ {a}, (w'.cut w.st.length).Live a → w'.Live a := fun z => List.mem_of_mem_take z
  refine ⟨⟨?_, fun i a e => ?_, fun i j a e1 e2 => ?_, fun i ob e ng => ?_, fun a z => g'.pout a (lv z), g'.psome⟩, ⟨fun a u z => fz_cut (f.le.fz a u z), fun i oa e => ?_⟩, f.pe, f.pk⟩
  · simp [Wd.cut, g'.len]
  · have e' : (w'.eta.take w.st.length)[i]? = some (some a) := e
    have hi : i < w.st.length := by
      have := (List.getElem?_eq_some_iff.mp e').1
      rw [List.length_take] at this; omega
    rw [List.getElem?_take_of_lt hi] at e'
    obtain ⟨o, h1, h2⟩ := g'.at_ i a e'
    have h1' : (w'.st.take w.st.length)[i]? = some o := by rw [List.getElem?_take_of_lt hi]; exact h1
    refine ⟨o, h1', h2.cut ?_⟩
    rcases k with k | k
    · rw [k] at h1'
      have hi' : i < w.eta.length := by rw [g.len]; exact hi
      have e0 : w.eta[i]? = some w.eta[i] := List.getElem?_eq_getElem hi'
      cases q : w.eta[i] with
      | none =>
        rw [q] at e0
        rcases f.le.eta _ _ e0 with z | z <;> rw [e'] at z <;> cases z
      | some b =>
        rw [q] at e0
        obtain ⟨o2, y1, y2⟩ := g.at_ i b e0
        rw [h1'] at y1
        cases y1
        exact y2.okRef (by rw [g.len]; exact Nat.le_refl _)
    · exact k o (List.mem_of_getElem? h1')
  · have sp : ∀ i : Nat, (w'.eta.take w.st.length)[i]? = some (some a) → w'.eta[i]? = some (some a) := fun i e => by
      have := (List.getElem?_eq_some_iff.mp e).1
      rw [List.getElem?_take_of_lt (by rw [List.length_take] at this; omega)] at e
      exact e
    exact g'.inj i j a (sp i e1) (sp j e2)
  · have e' : (w'.st.take w.st.length)[i]? = some ob := e
    have hi : i < w.st.length := by
      have := (List.getElem?_eq_some_iff.mp e').1
      rw [List.length_take] at this; omega
    rw [List.getElem?_take_of_lt hi] at e'
    obtain ⟨a, q⟩ := g'.alive i ob e' ng
    exact ⟨a, by show (w'.eta.take w.st.length)[i]? = some (some a); rw [List.getElem?_take_of_lt hi]; exact q⟩
  · have hi : i < w.st.length := by rw [← g.len]; exact (List.getElem?_eq_some_iff.mp e).1
    show (w'.eta.take w.st.length)[i]? = some oa ∨ (w'.eta.take w.st.length)[i]? = some none
    rw [List.getElem?_take_of_lt hi]
    exact f.le.eta i oa e
end Ip

set_option Elab.async false
set_option linter.all false
set_option maxRecDepth 100000
set_option autoImplicit false
/-! The language and its interpreter. -/
namespace Ip
open PySem L2

/-- what an expression gives: a value, or a new object that nobody holds yet -/
inductive Bv where
  | val (d : D) | new (o : O)
  deriving Inhabited
def Bv.d : Bv → Option D
  | .val d => some d
  | .new (.lst xs) => some (.lst xs)
  | .new _ => none

/-- the built-in types that isinstance is asked about -/
inductive Ty where
  | non | bool | int | str | tuple | list
  deriving DecidableEq
def Ty.name : Ty → String
  | .non => "NoneType"
  | .bool => "bool"
  | .int => "int"
  | .str => "str"
  | .tuple => "tuple"
  | .list => "list"
def Ty.is (t u : Ty) : Bool := decide (t = u) || (decide (t = .bool) && decide (u = .int))

inductive Tg where
  | name (i : Nat) | tup (ts : List Tg)

mutual
inductive E where
  | no
  | var (i : Nat)
  | con (d : D)
  | glob (x : Str) (d : D)
  | mt (e : E)
  | tup (es : List E)
  | lst (es : List E)
  | and_ (a b : E) | or_ (a b : E) | not_ (a : E)
  | ite (c a b : E)
  | cmp (op : CmpOp) (a b : E)
  | bin (op : Operator) (a b : E)
  | neg (a : E)
  | idx (a i : E)
  | slc (a lo hi : E)
  | fld (a : E) (f : Str)
  | call (f : Str) (es : List E)
  | bi (b : Str) (es : List E)
  | met (m : Str) (o : E) (es : List E)
  | isi (a : E) (t : Ty)
  | lc (own : List (Str × Nat)) (tg : Tg) (it : It) (ts : E) (el : E)
inductive It where
  | seq (e : E)
  | rng1 (e : E)
  | rng2 (a b : E)
  | enum (e : E)
  | zip (a b : E)
end

/-- the suite's language: fields of the caught exception, in a tuple or a list -/
inductive Su where
  | fld (f : Str) | con (d : D) | tup (es : List Su) | lst (es : List Su)

inductive S where
  | asg (t : Tg) (e : E)
  | put (o i e : E)
  | putF (o : E) (f : Str) (e : E)
  | ex (e : E)
  | ret (e : E) | retN
  | ifs (c : E) (a b : List S)
  | for_ (t : Tg) (it : It) (b : List S)
  | while_ (c : E) (b : List S)
  | brk | cont | pass
  | raise (c : Str) (es : List E)
  | try_ (b : List S) (c : Str) (i : Nat) (su : Su)
  | aug (i : Nat) (op : Operator) (e : E)

/-! ### operations on values -/
def lsOf (st : Store) : D → Option (List D)
  | .lst xs => some xs
  | .ref i => match st[i]? with
    | some (.lst xs) => some xs
    | _ => none
  | _ => none
def sqOf (st : Store) : D → Option (List D)
  | .tup xs => some xs
  | .scr ns => some (ns.map .int)
  | d => lsOf st d

def maxLen : Nat := 16777216

def catB (xs ys : Option (List D)) : Option Bv :=
  match xs, ys with
  | some xs, some ys => if xs.length + ys.length ≤ maxLen then some (.new (.lst (xs ++ ys))) else none
  | _, _ => none
def addB (st : Store) : D → D → Option Bv
  | .int i, y => match y with
    | .int j => some (.val (.int (i + j)))
    | _ => none
  | .str a, y => match y with
    | .str b => if a.length + b.length ≤ maxLen then some (.val (.str (a ++ b))) else none
    | _ => none
  | .tup xs, y => match y with
    | .tup ys => if xs.length + ys.length ≤ maxLen then some (.val (.tup (xs ++ ys))) else none
    | _ => none
  | .lst xs, y => catB (some xs) (lsOf st y)
  | .ref i, y => catB (lsOf st (.ref i)) (lsOf st y)
  | _, _ => none
def intB (f : Int → Int → Option Int) : D → D → Option Bv
  | .int i, .int j => (f i j).map fun k => .val (.int k)
  | _, _ => none
def binB (st : Store) (op : Operator) (x y : D) : Option Bv :=
  match op with
  | .Add => addB st x y
  | .Sub => intB (fun i j => some (i - j)) x y
  | .Mult => intB (fun i j => if (-(2 ^ 64) < i ∧ i < 2 ^ 64) ∨ (-(2 ^ 64) < j ∧ j < 2 ^ 64) then some (i * j) else none) x y
  | .Mod => intB (fun i j => if 0 < j then some (i % j) else none) x y
  | .FloorDiv => intB (fun i j => if 0 < j ∧ j < 1073741824 then some (i / j) else none) x y
  | .Pow => intB (fun i j => if 0 ≤ j ∧ j ≤ 1000000 ∧ i.natAbs < 2 ^ 64 then some (i ^ j.toNat) else none) x y
  | _ => none

/-- the flat values -/
def D.flat : D → Bool
  | .non => true | .bl _ => true | .int _ => true | .str _ => true
  | _ => false
/-- == of flat values -/
def D.eqF : D → D → Bool
  | .non, .non => true
  | .bl a, .bl b => a == b
  | .bl a, .int b => (if a then 1 else 0) == b
  | .int a, .bl b => a == (if b then 1 else 0)
  | .int a, .int b => a == b
  | .str a, .str b => decide (a = b)
  | _, _ => false
/-- .. where == of the two kinds is served -/
def D.scal : D → D → Bool
  | .bl _, .int _ => false
  | .int _, .bl _ => false
  | x, y => x.flat && y.flat
def eqB (x y : D) : Option Bool := if x.scal y = true then some (x.eqF y) else none
def isNoneB (st : Store) : D → Option Bool
  | .non => some true
  | .ref i => match st[i]? with
    | some .gone => none
    | some _ => some false
    | none => none
  | _ => some false
def inStr (a b : Str) : Bool :=
  match a.cps.toList with
  | [c] => decide (c ∈ b.cps.toList)
  | _ => !(Builtin.Str.occurrences b a 0 b.length 1).isEmpty
def inB (st : Store) (x y : D) : Option Bool :=
  match y with
  | .str b => match x with
    | .str a => some (inStr a b)
    | _ => none
  | y => match sqOf st y with
    | some ys => if x.flat && ys.all D.flat then some (ys.any fun z => z.eqF x) else none
    | none => none
def ltB (f : Int → Int → Bool) : D → D → Option Bool
  | .int i, .int j => some (f i j)
  | _, _ => none
def cmpB (st : Store) (op : CmpOp) (x y : D) : Option Bool :=
  match op with
  | .Eq => eqB x y
  | .NotEq => (eqB x y).map (!·)
  | .Lt => ltB (fun i j => decide (i < j)) x y
  | .LtE => ltB (fun i j => decide (i ≤ j)) x y
  | .Gt => ltB (fun i j => decide (j < i)) x y
  | .GtE => ltB (fun i j => decide (j ≤ i)) x y
  | .Is => match y with
    | .non => isNoneB st x
    | _ => none
  | .IsNot => match y with
    | .non => (isNoneB st x).map (!·)
    | _ => none
  | .In => inB st x y
  | .NotIn => (inB st x y).map (!·)

def negB : D → Option D
  | .int i => some (.int (-i))
  | _ => none
def truB (st : Store) : D → Option Bool
  | .non => some false
  | .bl b => some b
  | .int i => some (i != 0)
  | .str s => if s.length ≤ maxLen then some (!s.cps.toList.isEmpty) else none
  | .tup xs => some (!xs.isEmpty)
  | .lst xs => some (!xs.isEmpty)
  | .ref i => match st[i]? with
    | some (.lst xs) => some (!xs.isEmpty)
    | _ => none
  | _ => none
def signs (s : Str) : List D := s.cps.toList.map fun c => .str ⟨#[c]⟩
def idxB (st : Store) (x i : D) : Option D :=
  match i with
  | .int k => match x with
    | .str s => if s.length ≤ maxLen then atI (signs s) k else none
    | x => match sqOf st x with
      | some xs => atI xs k
      | none => none
  | _ => none
def partB : D → Option (Option Int)
  | .int i => some (some i)
  | _ => none
def cutL {α : Type} (xs : List α) (lo hi : Option Int) : List α := (xs.drop (HT.sIx xs.length 0 lo)).take (HT.sIx xs.length xs.length hi - HT.sIx xs.length 0 lo)
def slcB (st : Store) (x : D) (lo hi : Option Int) : Option Bv :=
  match x with
  | .str s => if s.length ≤ maxLen then some (.val (.str ⟨(cutL s.cps.toList lo hi).toArray⟩)) else none
  | .tup xs => some (.val (.tup (cutL xs lo hi)))
  | x => match lsOf st x with
    | some xs => some (.new (.lst (cutL xs lo hi)))
    | none => none
def fldB (_ : Store) (_ : Str) : D → Option D := fun _ => none
/-- the type -/
def tyB (st : Store) : D → Option Ty
  | .non => some .non
  | .bl _ => some .bool
  | .int _ => some .int
  | .str _ => some .str
  | .tup _ => some .tuple
  | .lst _ => some .list
  | .ref i => match st[i]? with
    | some (.lst _) => some .list
    | _ => none
  | _ => none
def boolsB : List D → Option (List Bool)
  | [] => some []
  | .bl b :: r => (boolsB r).map (b :: ·)
  | _ :: _ => none
def intsB : List D → Option (List Int)
  | [] => some []
  | .int b :: r => (intsB r).map (b :: ·)
  | _ :: _ => none
def strsB : List D → Option (List Str)
  | [] => some []
  | .str b :: r => (strsB r).map (b :: ·)
  | _ :: _ => none
def lenB (st : Store) : D → Option Int
  | .str s => if s.length ≤ maxLen then some s.length else none
  | d => (sqOf st d).map fun xs => (xs.length : Int)
def intOf : D → Option Int
  | .int i => some i
  | .bl b => some (if b then 1 else 0)
  | .str s => if s.length ≤ 640 then intText? s else none
  | _ => none
/-- a built-in by its name -/
inductive Bi where
  | len | abs | max | int | list | all | tuple
  deriving DecidableEq
def biOf (b : Str) : Option Bi :=
  if b = "len" then some .len else if b = "abs" then some .abs else if b = "max" then some .max else if b = "int" then some .int
  else if b = "list" then some .list else if b = "all" then some .all else if b = "tuple" then some .tuple else none
def arg1 {α : Type} (f : D → Option α) : List D → Option α
  | [x] => f x
  | _ => none
def arg2 {α : Type} (f : D → D → Option α) : List D → Option α
  | [x, y] => f x y
  | _ => none
def asInt : D → Option Int
  | .int i => some i
  | _ => none
def asStr : D → Option Str
  | .str s => some s
  | _ => none
def biB (st : Store) : Bi → List D → Option Bv
  | .len => arg1 fun x => (lenB st x).map fun n => .val (.int n)
  | .abs => arg1 fun x => (asInt x).map fun i => .val (.int (if i < 0 then -i else i))
  | .max => arg2 fun x y => (asInt x).bind fun i => (asInt y).map fun j => .val (.int (if j > i then j else i))
  | .int => arg1 fun x => (intOf x).map fun n => .val (.int n)
  | .list => arg1 fun x => (sqOf st x).map fun xs => .new (.lst xs)
  | .tuple => arg1 fun x => (lsOf st x).map fun xs => .val (.tup xs)
  | .all => arg1 fun x => ((lsOf st x).bind boolsB).map fun bs => .val (.bl (bs.all id))
inductive Mt where
  | append | join | count | rfind
  deriving DecidableEq
def mtOf (b : Str) : Option Mt :=
  if b = "append" then some .append else if b = "join" then some .join else if b = "count" then some .count else if b = "rfind" then some .rfind else none
def appendB (st : Store) (x : D) : D → Option (Bv × Store)
  | .ref i => match st[i]? with
    | some (.lst xs) => if xs.length < maxLen then some (.val .non, st.set i (.lst (xs ++ [x]))) else none
    | _ => none
  | _ => none
def metB (st : Store) (m : Mt) (o : D) : List D → Option (Bv × Store) :=
  match m with
  | .append => arg1 fun x => appendB st x o
  | .join => arg1 fun x => (asStr o).bind fun s => ((lsOf st x).bind strsB).bind fun ys => if (ys.map (·.length)).sum + ys.length * s.length ≤ 16777216 then some (.val (.str (Txt.join s ys)), st) else none
  | .count => arg1 fun x => (asStr o).bind fun a => (asStr x).map fun b => (.val (.int (Txt.count a b)), st)
  | .rfind => arg1 fun x => (asStr o).bind fun a => (asStr x).map fun b => (.val (.int (Txt.rfind a b)), st)
/-- the receiver is of the method's type -/
def recvB (st : Store) (m : Mt) (x : D) : Option Mt :=
  match m with
  | .append => (lsOf st x).map fun _ => m
  | _ => (asStr x).map fun _ => m
/-- o[i] = v -/
def putB (st : Store) (o i v : D) : Option Store :=
  match o, i with
  | .ref k, .int j => match st[k]? with
    | some (.lst xs) => match ixN xs.length j with
      | some n => some (st.set k (.lst (xs.set n v)))
      | none => none
    | _ => none
  | _, _ => none
def putFB (_ : Store) (_ : D) (_ : Str) (_ : D) : Option Store := none

/-! ### targets, walks -/
mutual
def bindT (st : Store) : Tg → D → Env → Option Env
  | .name i, d, ρ => some (ρ.set i (some d))
  | .tup ts, d, ρ => match sqOf st d with
    | some xs => bindTs st ts xs ρ
    | none => none
def bindTs (st : Store) : List Tg → List D → Env → Option Env
  | [], [], ρ => some ρ
  | t :: ts, d :: ds, ρ => match bindT st t d ρ with
    | some ρ' => bindTs st ts ds ρ'
    | none => none
  | _, _, _ => none
end
def wipeD (ρ : Env) : List (Str × Nat) → Env
  | [] => ρ
  | v :: vs => (wipeD ρ vs).set v.2 none
structure Its where
  items : List D
  watch : List (Nat × List D)
def Its.ok (t : Its) (st : Store) : Bool := t.watch.all fun p => decide (st[p.1]? = some (.lst p.2))
def itsOf (st : Store) (d : D) : Option Its :=
  match d with
  | .lst xs => some ⟨xs, []⟩
  | .tup xs => some ⟨xs, []⟩
  | .str s => some ⟨signs s, []⟩
  | .ref i => match st[i]? with
    | some (.lst xs) => some ⟨xs, [(i, xs)]⟩
    | _ => none
  | _ => none
def isLs : D → Bool
  | .lst _ => true
  | .ref _ => true
  | _ => false
def numbered (k : Nat) : List D → List D
  | [] => []
  | x :: xs => .tup [.int k, x] :: numbered (k + 1) xs
def upto (lo : Int) : Nat → List D
  | 0 => []
  | n + 1 => .int lo :: upto (lo + 1) n
def smallI (i : Int) : Bool := decide (-(2 ^ 62) ≤ i ∧ i < 2 ^ 62)
def rngOf : List D → Option (List D)
  | [.int j] => if smallI j then some (upto 0 j.toNat) else none
  | [.int i, .int j] => if smallI i && smallI j then some (upto i (j - i).toNat) else none
  | _ => none
def pairs : List D → List D → List D
  | x :: xs, y :: ys => .tup [x, y] :: pairs xs ys
  | _, _ => []
def enumOf (st : Store) (d : D) : Option Its :=
  if isLs d then (itsOf st d).map fun t => ⟨numbered 0 t.items, t.watch⟩ else none
def zipOf (st : Store) (a b : D) : Option Its :=
  if isLs a && isLs b then match itsOf st a, itsOf st b with
    | some t, some u => some ⟨pairs t.items u.items, t.watch ++ u.watch⟩
    | _, _ => none
  else none

/-- a comprehension's loop: f gives an element, or none; nothing is raised -/
def lcF (t : Its) (f : D → Store → R (Option D)) : List D → List D → Store → R (List D)
  | [], acc, st => if t.ok st then .ok acc st else .stuck
  | d :: ds, acc, st => if t.ok st then match f d st with
      | .ok (some y) st' => if acc.length < maxLen then lcF t f ds (acc ++ [y]) st' else .stuck
      | .ok none st' => lcF t f ds acc st'
      | _ => .stuck
    else .stuck

abbrev Fn := Str → List D → Store → R D

/-! ### expressions -/
def R.d (r : R Bv) : R D := r.bind fun b st => R.of b.d st
def R.ofS {α : Type} : Option (α × Store) → R α
  | some (a, st) => .ok a st
  | none => .stuck
def R.nox {α : Type} : R α → R α
  | .exc _ _ _ => .stuck
  | r => r
def live (b : Bv) (st : Store) : R Bv := match b with
  | .new (.lst xs) => .ok (.val (.ref st.length)) (st ++ [.lst xs])
  | _ => .stuck

/-- an expression's value; as a test (an absent one holds); as an end of a slice -/
structure Ev where
  b : Env → Store → R Bv
  t : Env → Store → R Bool
  p : Env → Store → R (Option Int)
def Ev.mk1 (f : Env → Store → R Bv) : Ev :=
  ⟨f, fun ρ st => ((f ρ st).d).bind fun d st => R.of (truB st d) st, fun ρ st => ((f ρ st).d).bind fun d st => R.of (partB d) st⟩
def Ev.mkT (f : Env → Store → R Bv) (g : Env → Store → R Bool) : Ev :=
  ⟨f, g, fun ρ st => ((f ρ st).d).bind fun d st => R.of (partB d) st⟩

mutual
def ev (Φ : Fn) : E → Ev
  | .no => ⟨fun _ _ => .stuck, fun _ st => .ok true st, fun _ st => .ok none st⟩
  | .var i => .mk1 fun ρ st => match ρ[i]? with
    | some (some d) => .ok (.val d) st
    | _ => .stuck
  | .con d => .mk1 fun _ st => .ok (.val d) st
  | .glob _ d => .mk1 fun _ st => .ok (.val d) st
  | .mt e => .mk1 fun ρ st => ((ev Φ e).b ρ st).bind live
  | .tup es => .mk1 fun ρ st => (evs Φ es ρ st).bind fun ds st => if ds.length ≤ maxLen then .ok (.val (.tup ds)) st else .stuck
  | .lst es => .mk1 fun ρ st => (evs Φ es ρ st).bind fun ds st => if ds.length ≤ maxLen then .ok (.new (.lst ds)) st else .stuck
  | .and_ a b => .mkT (fun ρ st => (((ev Φ a).b ρ st).d).bind fun d st => (R.of (truB st d) st).bind fun c st => if c then (ev Φ b).b ρ st else .ok (.val d) st)
      fun ρ st => ((ev Φ a).t ρ st).bind fun c st => if c then (ev Φ b).t ρ st else .ok false st
  | .or_ a b => .mkT (fun ρ st => (((ev Φ a).b ρ st).d).bind fun d st => (R.of (truB st d) st).bind fun c st => if c then .ok (.val d) st else (ev Φ b).b ρ st)
      fun ρ st => ((ev Φ a).t ρ st).bind fun c st => if c then .ok true st else (ev Φ b).t ρ st
  | .not_ a => .mkT (fun ρ st => (((ev Φ a).b ρ st).d).bind fun d st => (R.of (truB st d) st).bind fun c st => .ok (.val (.bl (!c))) st) fun ρ st => ((ev Φ a).t ρ st).bind fun c st => .ok (!c) st
  | .ite c a b => .mkT (fun ρ st => ((ev Φ c).t ρ st).bind fun c st => if c then (ev Φ a).b ρ st else (ev Φ b).b ρ st) fun ρ st => ((ev Φ c).t ρ st).bind fun c st => if c then (ev Φ a).t ρ st else (ev Φ b).t ρ st
  | .cmp op a b => .mkT (fun ρ st => (((ev Φ a).b ρ st).d).bind fun x st => (((ev Φ b).b ρ st).d).bind fun y st => (R.of (cmpB st op x y) st).bind fun c st => .ok (.val (.bl c)) st)
      fun ρ st => (((ev Φ a).b ρ st).d).bind fun x st => (((ev Φ b).b ρ st).d).bind fun y st => R.of (cmpB st op x y) st
  | .bin op a b => .mk1 fun ρ st => (((ev Φ a).b ρ st).d).bind fun x st => (((ev Φ b).b ρ st).d).bind fun y st => R.of (binB st op x y) st
  | .neg a => .mk1 fun ρ st => (((ev Φ a).b ρ st).d).bind fun x st => (R.of (negB x) st).bind fun d st => .ok (.val d) st
  | .idx a i => .mk1 fun ρ st => (((ev Φ a).b ρ st).d).bind fun x st => (((ev Φ i).b ρ st).d).bind fun y st => (R.of (idxB st x y) st).bind fun d st => .ok (.val d) st
  | .slc a lo hi => .mk1 fun ρ st => (((ev Φ a).b ρ st).d).bind fun x st => ((ev Φ lo).p ρ st).bind fun l st => ((ev Φ hi).p ρ st).bind fun h st => R.of (slcB st x l h) st
  | .fld a f => .mk1 fun ρ st => (((ev Φ a).b ρ st).d).bind fun x st => (R.of (fldB st f x) st).bind fun d st => .ok (.val d) st
  | .call f es => .mk1 fun ρ st => (evs Φ es ρ st).bind fun ds st => (Φ f ds st).bind fun d st => .ok (.val d) st
  | .bi b es => .mk1 fun ρ st => (evs Φ es ρ st).bind fun ds st => R.of ((biOf b).bind fun b => biB st b ds) st
  | .met m o es => .mk1 fun ρ st => (((ev Φ o).b ρ st).d).bind fun x st => (R.of ((mtOf m).bind fun m => recvB st m x) st).bind fun m st => (evs Φ es ρ st).bind fun ds st => R.ofS (metB st m x ds)
  | .isi a u => .mk1 fun ρ st => (((ev Φ a).b ρ st).d).bind fun x st => (R.of (tyB st x) st).bind fun t st => .ok (.val (.bl (t.is u))) st
  | .lc own tg it ts el => .mk1 fun ρ st => (evI Φ it ρ st).bind fun t st =>
      (lcF t (fun d st => match bindT st tg d (wipeD ρ own) with
        | some ρ1 => ((ev Φ ts).t ρ1 st).bind fun c st => if c then (((ev Φ el).b ρ1 st).d).bind fun y st => .ok (some y) st else .ok none st
        | none => .stuck) t.items [] st).bind fun ys st => .ok (.new (.lst ys)) st
def evs (Φ : Fn) : List E → Env → Store → R (List D)
  | [], _, st => .ok [] st
  | e :: es, ρ, st => (((ev Φ e).b ρ st).d).bind fun d st => (evs Φ es ρ st).bind fun ds st => .ok (d :: ds) st
def evI (Φ : Fn) : It → Env → Store → R Its
  | .seq e, ρ, st => (((ev Φ e).b ρ st).d).bind fun d st => R.of (itsOf st d) st
  | .rng1 e, ρ, st => (((ev Φ e).b ρ st).d).bind fun x st => (R.of (rngOf [x]) st).bind fun xs st => .ok ⟨xs, []⟩ st
  | .rng2 a b, ρ, st => (((ev Φ a).b ρ st).d).bind fun x st => (((ev Φ b).b ρ st).d).bind fun y st => (R.of (rngOf [x, y]) st).bind fun xs st => .ok ⟨xs, []⟩ st
  | .enum e, ρ, st => (((ev Φ e).b ρ st).d).bind fun d st => R.of (enumOf st d) st
  | .zip a b, ρ, st => (((ev Φ a).b ρ st).d).bind fun x st => (((ev Φ b).b ρ st).d).bind fun y st => R.of (zipOf st x y) st
end

/-! ### statements -/
inductive RS where
  | next (ρ : Env) (st : Store)
  | brk (ρ : Env) (st : Store)
  | cont (ρ : Env) (st : Store)
  | ret (d : D) (st : Store)
  | exc (c : Str) (fs : XF) (ρ : Env) (st : Store)
  | stuck
/-- an expression within a statement -/
def R.then_ {α : Type} (r : R α) (ρ : Env) (f : α → Store → RS) : RS :=
  match r with
  | .ok a st => f a st
  | .exc c fs st => .exc c fs ρ st
  | .stuck => .stuck
def RS.seq (r : RS) (f : Env → Store → RS) : RS :=
  match r with
  | .next ρ st => f ρ st
  | r => r
/-- a loop's body, and the loop again -/
def RS.loop (r : RS) (k : Env → Store → RS) : RS :=
  match r with
  | .next ρ st => k ρ st
  | .cont ρ st => k ρ st
  | .brk ρ st => .next ρ st
  | r => r
def forF (t : Its) (f : D → Env → Store → RS) : List D → Env → Store → RS
  | [], ρ, st => if t.ok st then .next ρ st else .stuck
  | d :: ds, ρ, st => if t.ok st then (f d ρ st).loop (forF t f ds) else .stuck
def whileF (c : Env → Store → R Bool) (f : Env → Store → RS) : Nat → Env → Store → RS
  | 0, _, _ => .stuck
  | n + 1, ρ, st => (c ρ st).then_ ρ fun b st => if b then (f ρ st).loop (whileF c f n) else .next ρ st
/-- the turns of a while that are looked at -/
def turns : Nat := 1000000
/-- the fields of an exception by its class: what __init__ stores -/
abbrev XC := Str → Option (List Str)
mutual
def evSu (fs : XF) : Su → Option D
  | .fld f => fs.lookup f
  | .con d => some d
  | .tup es => (evSus fs es).map .tup
  | .lst es => (evSus fs es).map .lst
def evSus (fs : XF) : List Su → Option (List D)
  | [] => some []
  | e :: es => match evSu fs e, evSus fs es with
    | some d, some ds => some (d :: ds)
    | _, _ => none
end
mutual
def ex (Φ : Fn) (xc : XC) : S → Env → Store → RS
  | .asg t e, ρ, st => (((ev Φ e).b ρ st).d).then_ ρ fun d st => match bindT st t d ρ with
    | some ρ' => .next ρ' st
    | none => .stuck
  | .put o i e, ρ, st => (((ev Φ e).b ρ st).d).then_ ρ fun v st => (((ev Φ o).b ρ st).d).then_ ρ fun x st => (((ev Φ i).b ρ st).d).then_ ρ fun y st => match putB st x y v with
    | some st' => .next ρ st'
    | none => .stuck
  | .putF o f e, ρ, st => (((ev Φ e).b ρ st).d).then_ ρ fun v st => (((ev Φ o).b ρ st).d).then_ ρ fun x st => match putFB st x f v with
    | some st' => .next ρ st'
    | none => .stuck
  | .ex e, ρ, st => (((ev Φ e).b ρ st).d).then_ ρ fun _ st => .next ρ st
  | .ret e, ρ, st => (((ev Φ e).b ρ st).d).then_ ρ fun d st => .ret d st
  | .retN, ρ, st => .ret .non st
  | .ifs c a b, ρ, st => ((ev Φ c).t ρ st).then_ ρ fun c st => if c then exs Φ xc a ρ st else exs Φ xc b ρ st
  | .for_ t it b, ρ, st => (evI Φ it ρ st).then_ ρ fun its st => forF its (fun d ρ st => match bindT st t d ρ with
    | some ρ' => exs Φ xc b ρ' st
    | none => .stuck) its.items ρ st
  | .while_ c b, ρ, st => whileF (ev Φ c).t (exs Φ xc b) turns ρ st
  | .brk, ρ, st => .brk ρ st
  | .cont, ρ, st => .cont ρ st
  | .pass, ρ, st => .next ρ st
  | .raise c es, ρ, st => (evs Φ es ρ st).then_ ρ fun ds st => match xc c with
    | some fs => if fs.length = ds.length ∧ ds.length ≤ 900 then .exc c (fs.zip ds) ρ st else .stuck
    | none => .stuck
  | .try_ b c i su, ρ, st => match exs Φ xc b ρ st with
    | .exc c' fs ρ' st' => if c' = c ∧ i < ρ'.length then match evSu fs su with
        | some d => .ret d st'
        | none => .stuck
      else .stuck
    | r => r
  | .aug i op e, ρ, st => match ρ[i]? with
    | some (some x) => (((ev Φ e).b ρ st).d).then_ ρ fun y st => match binB st op x y with
      | some (.val d) => .next (ρ.set i (some d)) st
      | _ => .stuck
    | _ => .stuck
def exs (Φ : Fn) (xc : XC) : List S → Env → Store → RS
  | [], ρ, st => .next ρ st
  | s :: ss, ρ, st => (ex Φ xc s ρ st).seq (exs Φ xc ss)
end

/-! ### the end of a call -/
def fin1 (st : Store) (m : Nat) (d : D) : Option D :=
  if d.okRef m then some d else match d with
    | .ref i => match st[i]? with
      | some (.lst xs) => if okRefs m xs then some (.lst xs) else none
      | _ => none
    | _ => none
def fins (st : Store) (m : Nat) : List D → Option (List D)
  | [] => some []
  | d :: ds => match fin1 st m d, fins st m ds with
    | some e, some es => some (e :: es)
    | _, _ => none
def fin (st : Store) (m : Nat) (d : D) : Option D :=
  if d.okRef m then some d else match d with
    | .ref i => match st[i]? with
      | some (.lst xs) => (fins st m xs).map .lst
      | _ => none
    | .tup xs => (fins st m xs).map .tup
    | .lst xs => (fins st m xs).map .lst
    | _ => none
def oldOk (st st' : Store) : Bool := decide (st'.take st.length = st) || (st'.take st.length).all (O.okRef st.length)
/-- the end of a call that began with the store st -/
def close (keep : Bool) (st : Store) (d : D) (st' : Store) : R D :=
  if keep then .ok d st' else if oldOk st st' then match fin st' st.length d with
    | some e => .ok e (st'.take st.length)
    | none => .stuck
  else .stuck
/-- an exception leaves a call -/
def closeX (st : Store) (c : Str) (fs : XF) (st' : Store) : R D :=
  if oldOk st st' && okRefs st.length (fs.map (·.2)) then .exc c fs (st'.take st.length) else .stuck

/-- a def: its parameters' number, the number of its names, its body, whether what it made stays in the store -/
structure Df where
  np : Nat
  nn : Nat
  keep : Bool
  body : List S
def Df.run (d : Df) (Φ : Fn) (xc : XC) (ds : List D) (st : Store) : R D :=
  if ds.length = d.np then match exs Φ xc d.body (ds.map some ++ List.replicate (d.nn - d.np) none) st with
    | .next _ st' => close d.keep st .non st'
    | .ret r st' => close d.keep st r st'
    | .exc c fs _ st' => closeX st c fs st'
    | _ => .stuck
  else .stuck
/-- n calls deep -/
def callF (tab : Str → Option Df) (xc : XC) : Nat → Fn
  | 0 => fun _ _ _ => .stuck
  | n + 1 => fun f ds st => match tab f with
    | some d => d.run (callF tab xc n) xc ds st
    | none => .stuck
end Ip

set_option Elab.async false
set_option linter.all false
set_option maxRecDepth 100000
set_option autoImplicit false
/-! The operations on values stand for the machine's. -/
namespace Ip
open PySem PySem.Spec PyProof.Rows L2

theorem maxLen_eq : maxLen = sizeLine := by rw [sizeLine_eq]; rfl

section
variable {T : Tb} {w : Wd}
theorem Good.stOf (g : Good T w) {i : Nat} {o : O} {v : V} (h : w.st[i]? = some o) (ho : o ≠ .gone) (r : Rep T w (.ref i) v) : ∃ a, w.eta[i]? = some (some a) ∧ v = .ref a ∧ ORep T w a o := by
  obtain ⟨a, e⟩ := g.alive i o h ho
  obtain ⟨oa, e1, e2⟩ := r
  rw [e] at e1
  cases e1
  obtain ⟨o', q, r'⟩ := g.at_ i a e
  rw [h] at q
  cases q
  exact ⟨a, e, e2 a rfl, r'⟩
theorem lsOf_ref {st : Store} {i : Nat} {xs : List D} (h : lsOf st (.ref i) = some xs) : st[i]? = some (.lst xs) := by
  simp only [lsOf] at h
  split at h
  · rename_i ys e; rw [e]; cases h; rfl
  · cases h
/-- a list that may be read -/
theorem rd_ls (g : Good T w) {d : D} {v : V} {xs : List D} (h : lsOf w.st d = some xs) (r : Rep T w d v) : ∃ a vs, v = .ref a ∧ Rd w.H a (.lst vs) ∧ Reps T w xs vs := by
  cases d with
  | lst ys =>
    obtain rfl : ys = xs := Option.some.inj h
    obtain ⟨a, vs, e, z, q⟩ := r
    exact ⟨a, vs, e, z.1, q⟩
  | ref i =>
    obtain ⟨a, _, e, vs, h1, h2⟩ := g.stOf (lsOf_ref h) (fun z => nomatch z) r
    exact ⟨a, vs, e, .inl h1, h2⟩
  | _ => cases h
theorem sqOf_cases {st : Store} {d : D} {xs : List D} (h : sqOf st d = some xs) : d = .tup xs ∨ lsOf st d = some xs ∨ ∃ ns : List Int, d = .scr ns ∧ xs = ns.map .int := by
  cases d <;> first | exact .inr (.inl h) | (cases h; exact .inl rfl) | (cases h; exact .inr (.inr ⟨_, rfl, rfl⟩))
theorem ints_reps {T : Tb} {w : Wd} : ∀ ns : List Int, Reps T w (ns.map D.int) (ns.map V.int)
  | [] => rfl
  | n :: ns => ⟨_, _, rfl, rfl, ints_reps ns⟩
theorem if_some {α : Type} {c : Prop} [Decidable c] {a n : α} (h : (if c then some a else none) = some n) : c ∧ n = a := by
  split at h
  · exact ⟨by assumption, (Option.some.inj h).symm⟩
  · cases h
theorem Rd.sqL {K : PySem.W.Frag} {H : Hp} {a : Addr} {vs : List V} (h : Rd H a (.lst vs)) : SqL K H a vs := .inl h
theorem sq_ls (g : Good T w) {d : D} {v : V} {xs : List D} (h : lsOf w.st d = some xs) (r : Rep T w d v) : ∃ a vs, v = .ref a ∧ SqL T.K w.H a vs ∧ Reps T w xs vs := by
  obtain ⟨a, vs, e, z, q⟩ := rd_ls g h r
  exact ⟨a, vs, e, .inl z, q⟩
theorem sq_tup {xs : List D} {v : V} (r : Rep T w (.tup xs) v) : ∃ a vs, v = .ref a ∧ SqT T.K w.H a vs ∧ Reps T w xs vs := by
  obtain ⟨a, vs, e, z, q⟩ := r
  refine ⟨a, vs, e, ?_, q⟩
  rcases z with z | z
  · exact .inl z.1
  · exact .inr z
theorem sq_sq (g : Good T w) {d : D} {v : V} {xs : List D} (h : sqOf w.st d = some xs) (r : Rep T w d v) : ∃ a vs, v = .ref a ∧ (SqL T.K w.H a vs ∨ SqT T.K w.H a vs) ∧ Reps T w xs vs := by
  rcases sqOf_cases h with rfl | h | ⟨ns, rfl, rfl⟩
  rotate_left 2
  · obtain ⟨a, e, z⟩ := r
    refine ⟨a, ns.map V.int, e, .inl ?_, ints_reps ns⟩
    rcases z with z | z
    · exact .inl z.1
    · exact .inr z
  · obtain ⟨a, vs, e, z, q⟩ := sq_tup r
    exact ⟨a, vs, e, .inr z, q⟩
  · obtain ⟨a, vs, e, z, q⟩ := sq_ls g h r
    exact ⟨a, vs, e, .inl z, q⟩
theorem Rep.tup_new (g : Good T w) {p : Addr} {xs : List D} {vs : List V} (hp : w.H p = none) (r : Reps T w xs vs) : Rep T { w with H := upd w.H p (.tup vs) } (.tup xs) (.ref p) :=
  ⟨p, vs, rfl, .inl (fz_new g hp), r.mono (fut_new hp)⟩
theorem Rep.lst_new (g : Good T w) {p : Addr} {xs : List D} {vs : List V} (hp : w.H p = none) (r : Reps T w xs vs) : Rep T { w with H := upd w.H p (.lst vs) } (.lst xs) (.ref p) :=
  ⟨p, vs, rfl, fz_new g hp, r.mono (fut_new hp)⟩
end

/-- what is wanted of what an expression gives -/
def bpost (T : Tb) (w : Wd) (b : Bv) (Q : VK) : Prop :=
  match b with
  | .val d => ∀ w' v, Fut w w' → Good T w' → w'.st = w.st → Rep T w' d v → Q v w'.H
  | .new (.lst xs) => ∀ w' p vs, Fut w w' → Good T w' → w'.st = w.st → w'.H p = none → Reps T w' xs vs → Q (.ref p) (upd w'.H p (.lst vs))
  | .new _ => False

section
variable {T : Tb}
/-- a two-place operation -/
def rB2 (T : Tb) (f : Store → D → D → Option Bv) : R2 := fun x y H Q => ∃ w d e b, w.H = H ∧ Good T w ∧ Rep T w d x ∧ Rep T w e y ∧ f w.st d e = some b ∧ bpost T w b Q
def rC2 (T : Tb) (f : Store → D → D → Option Bool) : R2 := fun x y H Q => ∃ w d e b, w.H = H ∧ Good T w ∧ Rep T w d x ∧ Rep T w e y ∧ f w.st d e = some b ∧ Q (.bl b) H

variable {X : Cx}
theorem OpR.imp {f : Value → Value → Sem Value} {r r' : R2} (h : OpR X f r) (k : ∀ x y H Q, r' x y H Q → r x y H Q) : OpR X f r' :=
  fun pins s σ H x y v u Q I rx ry q => h pins s σ H x y v u Q I rx ry (k _ _ _ _ q)

theorem bpost.val {w : Wd} {d : D} {Q : VK} (g : Good T w) (h : bpost T w (.val d) Q) {v : V} (r : Rep T w d v) : Q v w.H := h w v Fut.refl g rfl r
theorem bpost.lst {w : Wd} {xs : List D} {Q : VK} (g : Good T w) (h : bpost T w (.new (.lst xs)) Q) {vs : List V} (r : Reps T w xs vs) (p : Addr) (hp : w.H p = none) : Q (.ref p) (upd w.H p (.lst vs)) := h w p vs Fut.refl g rfl hp r
theorem bpost.tup {w : Wd} {xs : List D} {Q : VK} (g : Good T w) (h : bpost T w (.val (.tup xs)) Q) {vs : List V} (r : Reps T w xs vs) (p : Addr) (hp : w.H p = none) : Q (.ref p) (upd w.H p (.tup vs)) :=
  h { w with H := upd w.H p (.tup vs) } (.ref p) (fut_new hp) (g.new hp) rfl (Rep.tup_new g hp r)

/-! ### operators -/
theorem opInt {op : Operator} {C : Int → Int → Prop} {f : Int → Int → Int} {k : Int → Int → Option Int} (h : OpR X (binaryOp op) (rI C fun i j => .int (f i j))) (hk : ∀ i j n, k i j = some n → C i j ∧ n = f i j) :
    OpR X (binaryOp op) (rB2 T fun _ => intB k) := by
  refine OpR.imp h fun x y H Q q => ?_
  obtain ⟨w, d, e, b, rfl, g, rd, re, hb, q⟩ := q
  cases d with
  | int i => cases e with
    | int j =>
      simp only [intB, Option.map_eq_some_iff] at hb
      obtain ⟨n, h1, rfl⟩ := hb
      obtain ⟨c, rfl⟩ := hk i j n h1
      exact ⟨i, j, rd, re, c, q.val g rfl⟩
    | _ => cases hb
  | _ => cases hb
/-- lists that may be read: + -/
def rCatR : R2 := fun x y H Q => ∃ l b xs zs, x = .ref l ∧ y = .ref b ∧ Rd H l (.lst xs) ∧ Rd H b (.lst zs) ∧ xs.length + zs.length ≤ sizeLine ∧ ∀ p, H p = none → Q (.ref p) (upd H p (.lst (xs ++ zs)))
theorem op_catR : OpR X (binaryOp .Add) rCatR := by
  intro pins s σ H x y v u Q I rx ry h
  obtain ⟨l, b, xs, zs, rfl, rfl, hH, hB, hz, q⟩ := h
  cases rx
  cases ry
  obtain ⟨z, its, n, r, e⟩ := hH.ok I.hok
  obtain ⟨z2, its2, n2, r2, e2⟩ := hB.ok I.hok
  have hl := r.length
  have hl2 := r2.length
  refine PySem.P.add_list e e2 ?_ (by rw [List.size_toArray, List.size_toArray]; omega)
  have ea : its.toArray ++ its2.toArray = (its ++ its2).toArray := by simp
  rw [ea]
  exact ⟨.ref _, _, I.lnew (t' := s.toks) (r.append r2) (by rw [List.length_append]; omega), rfl, q _ I.fresh⟩
theorem catB_inv {xs ys : Option (List D)} {b : Bv} (h : catB xs ys = some b) : ∃ a c, xs = some a ∧ ys = some c ∧ a.length + c.length ≤ maxLen ∧ b = .new (.lst (a ++ c)) := by
  unfold catB at h
  cases xs with
  | none => cases h
  | some a => cases ys with
    | none => cases h
    | some c =>
      simp only at h
      split at h
      · exact ⟨a, c, rfl, rfl, by assumption, (Option.some.inj h).symm⟩
      · cases h
theorem op_addB (hK : X.K = T.K) : OpR X (binaryOp .Add) (rB2 T addB) := by
  intro pins s σ H x y v u Q I rx ry q
  obtain ⟨w, d, e, b, rfl, g, rd, re, hb, q⟩ := q
  have lists : ∀ {d : D}, Rep T w d x → catB (lsOf w.st d) (lsOf w.st e) = some b → wpAny (model X.prog X.w) X.A (binaryOp .Add v u) (EP X pins σ Q) X.xe s := fun {d} rd hb => by
    obtain ⟨xs, ys, h1, h2, hz, rfl⟩ := catB_inv hb
    obtain ⟨a, vs, rfl, r1, q1⟩ := rd_ls g h1 rd
    obtain ⟨a', vs', rfl, r2, q2⟩ := rd_ls g h2 re
    refine op_catR pins s σ w.H _ _ v u Q I rx ry ⟨a, a', vs, vs', rfl, rfl, r1, r2, ?_, fun p hp => ?_⟩
    · rw [← q1.length, ← q2.length, ← maxLen_eq]; exact hz
    · exact q.lst g (q1.append q2) p hp
  cases d with
  | int i => cases e with
    | int j => cases hb; exact op_add pins s σ w.H _ _ v u Q I rx ry ⟨i, j, rd, re, q.val g rfl⟩
    | _ => cases hb
  | str i => cases e with
    | str j =>
      simp only [addB] at hb
      split at hb
      · cases hb
        exact op_add_str pins s σ w.H _ _ v u Q I rx ry ⟨i, j, rd, re, by rw [← maxLen_eq]; assumption, q.val g rfl⟩
      · cases hb
    | _ => cases hb
  | tup xs => cases e with
    | tup ys =>
      simp only [addB] at hb
      split at hb
      · cases hb
        obtain ⟨a, vs, rfl, r1, q1⟩ := sq_tup rd
        obtain ⟨a', vs', rfl, r2, q2⟩ := sq_tup re
        have hl1 := q1.length
        have hl2 := q2.length
        refine op_catA pins s σ w.H _ _ v u Q I rx ry ⟨a, a', vs, vs', rfl, rfl, hK ▸ r1, hK ▸ r2, ?_, fun e0 => ?_, fun _ e0 => ?_, fun _ _ p hp => ?_⟩
        · rw [← hl1, ← hl2, ← maxLen_eq]; assumption
        · have : xs = [] := List.length_eq_zero_iff.mp (by rw [hl1, e0]; rfl)
          subst this
          exact q.val g (by simpa using re)
        · have : ys = [] := List.length_eq_zero_iff.mp (by rw [hl2, e0]; rfl)
          subst this
          exact q.val g (by simpa using rd)
        · exact q.tup g (q1.append q2) p hp
      · cases hb
    | _ => cases hb
  | lst xs => exact lists rd hb
  | ref i => exact lists rd hb
  | _ => cases hb
theorem op_binB (hK : X.K = T.K) (op : Operator) : OpR X (binaryOp op) (rB2 T fun st => binB st op) := by
  cases op with
  | Add => exact op_addB hK
  | Sub => exact opInt (C := fun _ _ => True) (f := fun i j => i - j) (OpR.imp op_sub fun x y H Q ⟨i, j, a, b, _, q⟩ => ⟨i, j, a, b, q⟩) fun i j n h => ⟨trivial, (Option.some.inj h).symm⟩
  | Mult => exact opInt op_mul fun i j n h => let ⟨a, b⟩ := if_some h; ⟨a, b⟩
  | Mod => exact opInt op_mod fun i j n h => let ⟨a, b⟩ := if_some h; ⟨a, b⟩
  | FloorDiv => exact opInt op_fdiv fun i j n h => let ⟨a, b⟩ := if_some h; ⟨a, b⟩
  | Pow => exact opInt op_pow fun i j n h => let ⟨a, b⟩ := if_some h; ⟨a, b⟩
  | _ => exact fun pins s σ H x y v u Q I rx ry ⟨w, d, e, b, _, g, rd, re, hb, q⟩ => nomatch hb

/-! ### comparisons -/
theorem beq_dec {α : Type} [DecidableEq α] (a b : α) : (a == b) = decide (a = b) := by
  by_cases h : a = b <;> simp [h]
theorem Rep.flat {w : Wd} {d : D} {v : V} (f : d.flat = true) (r : Rep T w d v) : flatV v = true ∧ ∀ e u, e.flat = true → Rep T w e u → eqV v u = d.eqF e ∧ (d.scal e = true → scal v u = true ∧ decide (v = u) = d.eqF e) := by
  cases d <;> first | (cases f; done) | skip
  all_goals cases r
  all_goals refine ⟨rfl, fun e u fe re => ?_⟩
  all_goals cases e <;> first | (cases fe; done) | skip
  all_goals cases re
  all_goals simp [eqV, D.eqF, D.scal, D.flat, scal, Bool.beq_eq_decide_eq, beq_dec]
theorem op_eqB : OpR X (compareOp .Eq) (rC2 T fun _ => eqB) := by
  refine OpR.imp op_eq fun x y H Q q => ?_
  obtain ⟨w, d, e, b, rfl, g, rd, re, hb, q⟩ := q
  have hb : (if d.scal e = true then some (d.eqF e) else none) = some b := hb
  split at hb
  · rename_i hs
    cases hb
    have hf : d.flat = true ∧ e.flat = true := by
      cases d <;> cases e <;> first | exact ⟨rfl, rfl⟩ | (simp [D.scal, D.flat] at hs; done) | (cases hs; done)
    obtain ⟨h1, h2⟩ := ((rd.flat hf.1).2 e y hf.2 re).2 hs
    exact ⟨h1, by rw [h2]; exact q⟩
  · cases hb
theorem op_neB : OpR X (compareOp .NotEq) (rC2 T fun _ x y => (eqB x y).map (!·)) := by
  refine OpR.imp op_ne fun x y H Q q => ?_
  obtain ⟨w, d, e, b, rfl, g, rd, re, hb, q⟩ := q
  rw [Option.map_eq_some_iff] at hb
  obtain ⟨b, hb, rfl⟩ := hb
  have hb : (if d.scal e = true then some (d.eqF e) else none) = some b := hb
  split at hb
  · rename_i hs
    cases hb
    have hf : d.flat = true ∧ e.flat = true := by
      cases d <;> cases e <;> first | exact ⟨rfl, rfl⟩ | (simp [D.scal, D.flat] at hs; done) | (cases hs; done)
    obtain ⟨h1, h2⟩ := ((rd.flat hf.1).2 e y hf.2 re).2 hs
    exact ⟨h1, by rw [h2]; exact q⟩
  · cases hb
theorem opLt {op : CmpOp} {f : Int → Int → Bool} (h : OpR X (compareOp op) (rI0 fun i j => .bl (f i j))) : OpR X (compareOp op) (rC2 T fun _ => ltB f) := by
  refine OpR.imp h fun x y H Q q => ?_
  obtain ⟨w, d, e, b, rfl, g, rd, re, hb, q⟩ := q
  cases d with
  | int i => cases e with
    | int j => cases hb; exact ⟨i, j, rd, re, q⟩
    | _ => cases hb
  | _ => cases hb
theorem isNone_of {w : Wd} (g : Good T w) {d : D} {v : V} {b : Bool} (r : Rep T w d v) (h : isNoneB w.st d = some b) : decide (v = .non) = b := by
  cases d with
  | ref i =>
    simp only [isNoneB] at h
    split at h
    · cases h
    · rename_i o ho hne
      cases h
      obtain ⟨a, _, rfl, _⟩ := g.stOf hne (fun z => by subst z; exact ho rfl) r
      rfl
    · cases h
  | non => cases h; cases r; rfl
  | bl _ => cases h; cases r; rfl
  | int _ => cases h; cases r; rfl
  | str _ => cases h; cases r; rfl
  | tup _ => cases h; obtain ⟨a, _, rfl, _⟩ := r; rfl
  | lst _ => cases h; obtain ⟨a, _, rfl, _⟩ := r; rfl
  | dct _ _ => exact r.elim
  | ins _ _ _ => cases h; obtain ⟨a, _, _, rfl, _⟩ := r; rfl
  | scr _ => cases h; obtain ⟨a, rfl, _⟩ := r; rfl
theorem reps_flat {w : Wd} : ∀ {ds : List D} {vs : List V}, ds.all D.flat = true → Reps T w ds vs → vs.all flatV = true ∧ ∀ e u, e.flat = true → Rep T w e u → inV u vs = ds.any fun z => z.eqF e
  | [], _, _, r => by cases r; exact ⟨rfl, fun _ _ _ _ => rfl⟩
  | d :: ds, _, h, r => by
    obtain ⟨v, vs, rfl, r1, r2⟩ := r
    simp only [List.all_cons, Bool.and_eq_true] at h
    obtain ⟨h1, h2⟩ := reps_flat h.2 r2
    obtain ⟨h3, h4⟩ := r1.flat h.1
    refine ⟨by simp [h1, h3], fun e u fe re => ?_⟩
    have := h2 e u fe re
    unfold inV at this ⊢
    rw [List.any_cons, List.any_cons, this, (h4 e u fe re).1]
/-- in, by what it answers -/
theorem inB_of (hK : X.K = T.K) {w : Wd} (g : Good T w) {d e : D} {x y : V} {b : Bool} {H : Hp} {Q : VK} (hb : inB w.st d e = some b) (rd : Rep T w d x) (re : Rep T w e y) (eH : w.H = H) :
    (∃ i j, x = .str i ∧ y = .str j ∧ b = inStr i j) ∨ (∃ p xs, y = .ref p ∧ (SqL X.K H p xs ∨ SqT X.K H p xs) ∧ flatV x = true ∧ xs.all flatV = true ∧ b = inV x xs) := by
  subst eH
  have seqs : ∀ {ys : List D}, sqOf w.st e = some ys → (if d.flat && ys.all D.flat then some (ys.any fun z => z.eqF d) else none) = some b →
      ∃ p xs, y = .ref p ∧ (SqL X.K w.H p xs ∨ SqT X.K w.H p xs) ∧ flatV x = true ∧ xs.all flatV = true ∧ b = inV x xs := fun {ys} hs h => by
    obtain ⟨a, vs, rfl, r1, q1⟩ := sq_sq g hs re
    split at h
    · rename_i hf
      simp only [Bool.and_eq_true] at hf
      obtain ⟨h1, h2⟩ := reps_flat hf.2 q1
      cases h
      exact ⟨a, vs, rfl, hK ▸ r1, (rd.flat hf.1).1, h1, (h2 d x hf.1 rd).symm⟩
    · cases h
  cases e with
  | str j => cases d with
    | str i => cases hb; exact .inl ⟨i, j, rd, re, rfl⟩
    | _ => cases hb
  | tup ys => exact .inr (seqs rfl hb)
  | lst ys => exact .inr (seqs rfl hb)
  | scr ys => exact .inr (seqs rfl hb)
  | ref i =>
    refine .inr ?_
    simp only [inB] at hb
    split at hb
    · exact seqs (by assumption) hb
    · cases hb
  | _ => cases hb
theorem inStr_cases (i j : Str) : (∃ c, i = ⟨#[c]⟩ ∧ inStr i j = decide (c ∈ j.cps.toList)) ∨ inStr i j = !(Builtin.Str.occurrences j i 0 j.length 1).isEmpty := by
  unfold inStr
  split
  · rename_i c h
    refine .inl ⟨c, ?_, rfl⟩
    obtain ⟨⟨l⟩⟩ := i
    have : l = [c] := h
    subst this; rfl
  · exact .inr rfl
theorem op_inB (hK : X.K = T.K) : OpR X (compareOp .In) (rC2 T inB) := by
  intro pins s σ H x y v u Q I rx ry q
  obtain ⟨w, d, e, b, eH, g, rd, re, hb, q⟩ := q
  rcases inB_of (X := X) (Q := Q) hK g hb rd re eH with ⟨i, j, rfl, rfl, rfl⟩ | ⟨p, xs, rfl, h1, h2, h3, rfl⟩
  · rcases inStr_cases i j with ⟨c, rfl, e⟩ | e
    · exact op_in_sign pins s σ H _ _ v u Q I rx ry ⟨c, j, rfl, rfl, e ▸ q⟩
    · exact op_in_str pins s σ H _ _ v u Q I rx ry ⟨i, j, rfl, rfl, e ▸ q⟩
  · exact op_in_seq pins s σ H _ _ v u Q I rx ry ⟨p, xs, rfl, h1, h2, h3, q⟩
theorem op_notInB (hK : X.K = T.K) : OpR X (compareOp .NotIn) (rC2 T fun st x y => (inB st x y).map (!·)) := by
  intro pins s σ H x y v u Q I rx ry q
  obtain ⟨w, d, e, b, eH, g, rd, re, hb, q⟩ := q
  rw [Option.map_eq_some_iff] at hb
  obtain ⟨b, hb, rfl⟩ := hb
  rcases inB_of (X := X) (Q := Q) hK g hb rd re eH with ⟨i, j, rfl, rfl, rfl⟩ | ⟨p, xs, rfl, h1, h2, h3, rfl⟩
  · rcases inStr_cases i j with ⟨c, rfl, e⟩ | e
    · exact op_notIn_sign pins s σ H _ _ v u Q I rx ry ⟨c, j, rfl, rfl, e ▸ q⟩
    · exact op_notIn_str pins s σ H _ _ v u Q I rx ry ⟨i, j, rfl, rfl, e ▸ q⟩
  · exact op_notIn_seq pins s σ H _ _ v u Q I rx ry ⟨p, xs, rfl, h1, h2, h3, q⟩
theorem op_cmpB (hK : X.K = T.K) (op : CmpOp) : OpR X (compareOp op) (rC2 T fun st => cmpB st op) := by
  cases op with
  | Eq => exact op_eqB
  | NotEq => exact op_neB
  | Lt => exact opLt op_lt
  | LtE => exact opLt op_le
  | Gt => exact opLt op_gt
  | GtE => exact opLt op_ge
  | Is =>
    refine OpR.imp op_isN fun x y H Q q => ?_
    obtain ⟨w, d, e, b, eH, g, rd, re, hb, q⟩ := q
    cases e <;> first | (cases hb; done) | skip
    exact ⟨re, by rw [isNone_of g rd hb]; exact q⟩
  | IsNot =>
    refine OpR.imp op_notN fun x y H Q q => ?_
    obtain ⟨w, d, e, b, eH, g, rd, re, hb, q⟩ := q
    cases e <;> first | (cases hb; done) | skip
    simp only [cmpB, Option.map_eq_some_iff] at hb
    obtain ⟨b, hb, rfl⟩ := hb
    exact ⟨re, by rw [isNone_of g rd hb]; exact q⟩
  | In => exact op_inB hK
  | NotIn => exact op_notInB hK
end
end Ip

set_option Elab.async false
set_option linter.all false
set_option maxRecDepth 100000
set_option autoImplicit false
/-! Truth, items, slices, built-ins, methods, isinstance, stores. -/
namespace Ip
open PySem PySem.Spec PyProof.Rows L2
section
variable {T : Tb} {X : Cx}
theorem neg_of : UnR X (unaryOp .USub) (fun x H Q => ∃ w d e, w.H = H ∧ Good T w ∧ Rep T w d x ∧ negB d = some e ∧ bpost T w (.val e) Q) := by
  intro pins s σ H x v Q I rx q
  obtain ⟨w, d, e, rfl, g, rd, h, q⟩ := q
  cases d <;> first | (cases h; done) | skip
  cases h
  exact un_neg pins s σ w.H _ v Q I rx ⟨_, rd, q.val g rfl⟩

theorem isEmpty_len {α β : Type} {xs : List α} {ys : List β} (h : xs.length = ys.length) : (!xs.isEmpty) = !ys.isEmpty := by
  cases xs <;> cases ys <;> first | rfl | (simp at h; done)
theorem str_len (s : Str) : s.length = s.cps.toList.length := rfl
theorem tru_of (hK : X.K = T.K) {w : Wd} (g : Good T w) {d : D} {v : V} {k : Bool} (r : Rep T w d v) (h : truB w.st d = some k) : TruV X.K v w.H k := by
  cases d with
  | non => cases h; cases r; exact rfl
  | bl b => cases h; cases r; exact rfl
  | int i => cases h; cases r; exact rfl
  | str s =>
    obtain ⟨h1, h2⟩ := if_some (show (if s.length ≤ maxLen then some (!s.cps.toList.isEmpty) else none) = some k from h)
    cases r
    refine ⟨by rw [← maxLen_eq]; exact h1, ?_⟩
    rw [h2, str_len]
    cases s.cps.toList with
    | nil => rfl
    | cons c cs =>
      have : ((c :: cs).length : Int) ≠ 0 := by simp only [List.length_cons]; omega
      simp only [List.isEmpty_cons, Bool.not_false]
      exact (bne_iff_ne.mpr this).symm
  | tup xs =>
    cases h
    obtain ⟨a, vs, rfl, r1, q1⟩ := sq_tup r
    exact .inr (.inl ⟨vs, hK ▸ r1, isEmpty_len q1.length⟩)
  | lst xs =>
    cases h
    obtain ⟨a, vs, rfl, r1, q1⟩ := sq_ls g rfl r
    exact .inl ⟨vs, hK ▸ r1, isEmpty_len q1.length⟩
  | ref i =>
    simp only [truB] at h
    split at h
    · rename_i xs e
      cases h
      obtain ⟨a, vs, rfl, r1, q1⟩ := sq_ls (d := .ref i) (xs := xs) g (by simp only [lsOf]; rw [e]) r
      exact .inl ⟨vs, hK ▸ r1, isEmpty_len q1.length⟩
    · cases h
  | _ => cases h

/-! ### items -/
theorem atI_reps {w : Wd} {ds : List D} {vs : List V} {k : Int} {d : D} (r : Reps T w ds vs) (h : atI ds k = some d) : ∃ v, atI vs k = some v ∧ Rep T w d v := by
  unfold atI at h ⊢
  rw [← r.length]
  cases q : ixN ds.length k with
  | none => rw [q] at h; cases h
  | some j => rw [q] at h; exact r.get h
theorem atI_signs {s : Str} {k : Int} {d : D} (h : atI (signs s) k = some d) : ∃ c, atI s.cps.toList k = some c ∧ d = .str ⟨#[c]⟩ := by
  unfold atI signs at h
  unfold atI
  rw [List.length_map] at h
  cases q : ixN s.cps.toList.length k with
  | none => rw [q] at h; cases h
  | some j =>
    rw [q] at h
    have h : (s.cps.toList.map fun c => D.str ⟨#[c]⟩)[j]? = some d := h
    rw [List.getElem?_map, Option.map_eq_some_iff] at h
    obtain ⟨c, h1, h2⟩ := h
    exact ⟨c, h1, h2.symm⟩
theorem ix_of (hK : X.K = T.K) : IxR X (fun x y H Q => ∃ w d e z, w.H = H ∧ Good T w ∧ Rep T w d x ∧ Rep T w e y ∧ idxB w.st d e = some z ∧ bpost T w (.val z) Q) := by
  intro value slice pins s σ H x y v u Q I rx ry h hs
  refine ix_seq value slice pins s σ H x y v u Q I rx ry ?_ hs
  obtain ⟨w, d, e, z, rfl, g, rd, re, h, q⟩ := h
  cases e <;> first | (cases h; done) | skip
  rename_i k
  have seqs : ∀ {xs : List D}, sqOf w.st d = some xs → atI xs k = some z → rIx X.K x y w.H Q := fun {xs} h1 h2 => by
    obtain ⟨a, vs, rfl, r1, q1⟩ := sq_sq g h1 rd
    obtain ⟨z', h3, h4⟩ := atI_reps q1 h2
    rcases r1 with r1 | r1
    · exact .inl ⟨a, vs, k, z', rfl, re, hK ▸ r1, h3, q.val g h4⟩
    · exact .inr (.inl ⟨a, vs, k, z', rfl, re, hK ▸ r1, h3, q.val g h4⟩)
  cases d with
  | str t =>
    have h : (if t.length ≤ maxLen then atI (signs t) k else none) = some z := h
    split at h
    · obtain ⟨c, h1, rfl⟩ := atI_signs h
      exact .inr (.inr ⟨t, k, c, rd, re, by rw [← maxLen_eq]; assumption, h1, q.val g rfl⟩)
    · cases h
  | tup xs => exact seqs rfl h
  | lst xs => exact seqs rfl h
  | scr xs => exact seqs rfl h
  | ref i =>
    simp only [idxB] at h
    split at h
    · exact seqs (by assumption) h
    · cases h
  | _ => cases h

/-! ### slices -/
theorem sIx_len {n m : Nat} (h : n = m) (d : Nat) (o : Option Int) : HT.sIx n d o = HT.sIx m d o := by rw [h]
theorem cut_reps {w : Wd} {ds : List D} {vs : List V} (r : Reps T w ds vs) (lo hi : Option Int) : Reps T w (cutL ds lo hi) (cutV vs lo hi) := by
  unfold cutL cutV
  rw [← r.length]
  exact (r.drop _).take _
theorem sl_of (hK : X.K = T.K) : SlR X (fun x lo hi H Q => ∃ w d b, w.H = H ∧ Good T w ∧ Rep T w d x ∧ slcB w.st d lo hi = some b ∧ bpost T w b Q) := by
  intro pins s σ H x v vl vu lo hi sl Q I rx hs pl pu h
  refine (sl_list.or (sl_str.or sl_tupA)) pins s σ H x v vl vu lo hi sl Q I rx hs pl pu ?_
  obtain ⟨w, d, b, rfl, g, rd, h, q⟩ := h
  have lists : ∀ {xs : List D}, lsOf w.st d = some xs → (some (Bv.new (.lst (cutL xs lo hi))) : Option Bv) = some b → rSlL X.K x lo hi w.H Q := fun {xs} h1 h2 => by
    cases h2
    obtain ⟨a, vs, rfl, r1, q1⟩ := sq_ls g h1 rd
    exact ⟨a, vs, rfl, hK ▸ r1, fun p hp => q.lst g (cut_reps q1 lo hi) p hp⟩
  cases d with
  | str t =>
    obtain ⟨h1, h2⟩ := if_some (show (if t.length ≤ maxLen then some (Bv.val (.str ⟨(cutL t.cps.toList lo hi).toArray⟩)) else none) = some b from h)
    subst h2
    exact .inr (.inl ⟨t, rd, by rw [← maxLen_eq]; assumption, q.val g rfl⟩)
  | tup xs =>
    cases h
    obtain ⟨a, vs, rfl, r1, q1⟩ := sq_tup rd
    refine .inr (.inr ⟨a, vs, rfl, hK ▸ r1, fun hw => ?_, fun _ p hp => q.tup g (cut_reps q1 lo hi) p hp⟩)
    have e : cutL xs lo hi = xs := by
      unfold cutL
      rw [← q1.length] at hw
      rw [hw.1, hw.2]
      simp
    rw [e] at q
    exact q.val g rd
  | lst xs => exact .inl (lists rfl h)
  | ref i =>
    simp only [slcB] at h
    split at h
    · exact .inl (lists (by assumption) h)
    · cases h
  | _ => cases h

/-! ### built-ins -/
def rBi (T : Tb) (b : Bi) : List V → Hp → VK → Prop := fun xs H Q => ∃ w ds z, w.H = H ∧ Good T w ∧ Reps T w ds xs ∧ biB w.st b ds = some z ∧ bpost T w z Q
theorem reps_one {w : Wd} {d : D} {xs : List V} (r : Reps T w [d] xs) : ∃ v, xs = [v] ∧ Rep T w d v := by
  obtain ⟨v, r', rfl, h, k⟩ := r
  cases k
  exact ⟨v, rfl, h⟩
theorem reps_two {w : Wd} {d e : D} {xs : List V} (r : Reps T w [d, e] xs) : ∃ v u, xs = [v, u] ∧ Rep T w d v ∧ Rep T w e u := by
  obtain ⟨v, r', rfl, h, k⟩ := r
  obtain ⟨u, rfl, k2⟩ := reps_one k
  exact ⟨v, u, rfl, h, k2⟩
theorem bools_of {w : Wd} : ∀ {ds : List D} {vs : List V} {bs : List Bool}, boolsB ds = some bs → Reps T w ds vs → vs = bs.map V.bl
  | [], vs, bs, h, r => by cases h; cases r; rfl
  | d :: ds, vs, bs, h, r => by
    obtain ⟨v, vs, rfl, r1, r2⟩ := r
    cases d <;> first | (cases h; done) | skip
    rename_i b
    have h : (boolsB ds).map (b :: ·) = some bs := h
    rw [Option.map_eq_some_iff] at h
    obtain ⟨cs, h1, rfl⟩ := h
    cases r1
    rw [bools_of h1 r2]; rfl
theorem strs_of {w : Wd} : ∀ {ds : List D} {vs : List V} {bs : List Str}, strsB ds = some bs → Reps T w ds vs → vs = bs.map V.str
  | [], vs, bs, h, r => by cases h; cases r; rfl
  | d :: ds, vs, bs, h, r => by
    obtain ⟨v, vs, rfl, r1, r2⟩ := r
    cases d <;> first | (cases h; done) | skip
    rename_i b
    have h : (strsB ds).map (b :: ·) = some bs := h
    rw [Option.map_eq_some_iff] at h
    obtain ⟨cs, h1, rfl⟩ := h
    cases r1
    rw [strs_of h1 r2]; rfl
theorem CallR.imp {f : Value} {r r' : List V → Hp → VK → Prop} (h : CallR X f r) (k : ∀ xs H Q, r' xs H Q → r xs H Q) : CallR X f r' := fun pins s σ H xs us Q I rv q => h pins s σ H xs us Q I rv (k _ _ _ q)
theorem CallR.or {f : Value} {r r' : List V → Hp → VK → Prop} (h : CallR X f r) (h' : CallR X f r') : CallR X f (fun xs H Q => r xs H Q ∨ r' xs H Q) := fun pins s σ H xs us Q I rv q => q.elim (fun q => h pins s σ H xs us Q I rv q) fun q => h' pins s σ H xs us Q I rv q
theorem arg1_inv {α : Type} {f : D → Option α} {ds : List D} {z : α} (h : arg1 f ds = some z) : ∃ x, ds = [x] ∧ f x = some z := by
  unfold arg1 at h
  split at h
  · exact ⟨_, rfl, h⟩
  · cases h
theorem arg2_inv {α : Type} {f : D → D → Option α} {ds : List D} {z : α} (h : arg2 f ds = some z) : ∃ x y, ds = [x, y] ∧ f x y = some z := by
  unfold arg2 at h
  split at h
  · exact ⟨_, _, rfl, h⟩
  · cases h
theorem asInt_inv {d : D} {i : Int} (h : asInt d = some i) : d = .int i := by
  cases d <;> first | (cases h; done) | skip
  cases h; rfl
theorem asStr_inv {d : D} {i : Str} (h : asStr d = some i) : d = .str i := by
  cases d <;> first | (cases h; done) | skip
  cases h; rfl
theorem len_of (hK : X.K = T.K) {w : Wd} (g : Good T w) {d : D} {v : V} {n : Int} (rd : Rep T w d v) (h : lenB w.st d = some n) : ∃ m : Nat, n = m ∧ LenV X.K v w.H m := by
  have seqs : (sqOf w.st d).map (fun xs => (xs.length : Int)) = some n → ∃ m : Nat, n = m ∧ LenV X.K v w.H m := fun h => by
    rw [Option.map_eq_some_iff] at h
    obtain ⟨ys, h1, h2⟩ := h
    obtain ⟨a, vs, rfl, r1, q1⟩ := sq_sq g h1 rd
    refine ⟨ys.length, h2.symm, ?_⟩
    rcases r1 with r1 | r1
    · exact .inl ⟨vs, hK ▸ r1, q1.length⟩
    · exact .inr ⟨vs, hK ▸ r1, q1.length⟩
  cases d with
  | str t =>
    obtain ⟨h1, h2⟩ := if_some (show (if t.length ≤ maxLen then some (t.length : Int) else none) = some n from h)
    cases rd
    exact ⟨t.length, h2, by rw [← maxLen_eq]; exact h1, rfl⟩
  | tup xs => exact seqs h
  | lst xs => exact seqs h
  | scr xs => exact seqs h
  | ref i => exact seqs h
  | _ => cases h
theorem bi_len (hK : X.K = T.K) : CallR X (.builtin "len") (rBi T .len) := by
  refine CallR.imp call_len fun xs H Q q => ?_
  obtain ⟨w, ds, z, rfl, g, r, hb, q⟩ := q
  obtain ⟨d, rfl, h⟩ := arg1_inv (f := fun x => (lenB w.st x).map fun n => Bv.val (.int n)) hb
  obtain ⟨v, rfl, rd⟩ := reps_one r
  rw [Option.map_eq_some_iff] at h
  obtain ⟨n, h, rfl⟩ := h
  obtain ⟨m, rfl, l⟩ := len_of hK g rd h
  exact ⟨v, m, rfl, l, q.val g (v := .int m) rfl⟩
theorem bi_abs : CallR X (.builtin "abs") (rBi T .abs) := by
  refine CallR.imp call_abs fun xs H Q q => ?_
  obtain ⟨w, ds, z, rfl, g, r, hb, q⟩ := q
  obtain ⟨d, rfl, h⟩ := arg1_inv (f := fun x => (asInt x).map fun i => Bv.val (.int (if i < 0 then -i else i))) hb
  obtain ⟨v, rfl, rd⟩ := reps_one r
  rw [Option.map_eq_some_iff] at h
  obtain ⟨i, h, rfl⟩ := h
  cases asInt_inv h
  cases rd
  exact ⟨i, rfl, q.val g rfl⟩
theorem bi_max (hc : X.calm = true) : CallR X (.builtin "max") (rBi T .max) := by
  refine CallR.imp (call_max2 hc) fun xs H Q q => ?_
  obtain ⟨w, ds, z, rfl, g, r, hb, q⟩ := q
  obtain ⟨d, e, rfl, h⟩ := arg2_inv (f := fun x y => (asInt x).bind fun i => (asInt y).map fun j => Bv.val (.int (if j > i then j else i))) hb
  obtain ⟨v, u, rfl, rd, re⟩ := reps_two r
  rw [Option.bind_eq_some_iff] at h
  obtain ⟨i, h1, h⟩ := h
  rw [Option.map_eq_some_iff] at h
  obtain ⟨j, h2, rfl⟩ := h
  cases asInt_inv h1
  cases asInt_inv h2
  cases rd
  cases re
  exact ⟨i, j, rfl, q.val g rfl⟩
theorem bi_int : CallR X (.type "int") (rBi T .int) := by
  refine CallR.imp (call_int1.or call_int_str) fun xs H Q q => ?_
  obtain ⟨w, ds, z, rfl, g, r, hb, q⟩ := q
  obtain ⟨d, rfl, h⟩ := arg1_inv (f := fun x => (intOf x).map fun n => Bv.val (.int n)) hb
  obtain ⟨v, rfl, rd⟩ := reps_one r
  rw [Option.map_eq_some_iff] at h
  obtain ⟨n, h, rfl⟩ := h
  cases d <;> first | (cases h; done) | skip
  · cases h; cases rd; exact .inl (.inr ⟨_, rfl, q.val g rfl⟩)
  · cases h; cases rd; exact .inl (.inl ⟨_, rfl, q.val g rfl⟩)
  · rename_i t
    have h : (if t.length ≤ 640 then intText? t else none) = some n := h
    split at h
    · cases rd; exact .inr ⟨t, n, rfl, h, by assumption, q.val g rfl⟩
    · cases h
theorem bi_list (hK : X.K = T.K) : CallR X (.type "list") (rBi T .list) := by
  refine CallR.imp call_list_of fun xs H Q q => ?_
  obtain ⟨w, ds, z, rfl, g, r, hb, q⟩ := q
  obtain ⟨d, rfl, h⟩ := arg1_inv (f := fun x => (sqOf w.st x).map fun xs => Bv.new (.lst xs)) hb
  obtain ⟨v, rfl, rd⟩ := reps_one r
  rw [Option.map_eq_some_iff] at h
  obtain ⟨n, h, rfl⟩ := h
  obtain ⟨a, vs, rfl, r1, q1⟩ := sq_sq g h rd
  exact ⟨a, vs, rfl, hK ▸ r1, fun p hp => q.lst g q1 p hp⟩
theorem bi_tuple (hK : X.K = T.K) : CallR X (.type "tuple") (rBi T .tuple) := by
  refine CallR.imp call_tuple_of fun xs H Q q => ?_
  obtain ⟨w, ds, z, rfl, g, r, hb, q⟩ := q
  obtain ⟨d, rfl, h⟩ := arg1_inv (f := fun x => (lsOf w.st x).map fun xs => Bv.val (.tup xs)) hb
  obtain ⟨v, rfl, rd⟩ := reps_one r
  rw [Option.map_eq_some_iff] at h
  obtain ⟨n, h, rfl⟩ := h
  obtain ⟨a, vs, rfl, r1, q1⟩ := sq_ls g h rd
  exact ⟨a, vs, rfl, .inl ⟨hK ▸ r1, fun p hp => q.tup g q1 p hp⟩⟩
theorem bi_all (hc : X.calm = true) (hK : X.K = T.K) : CallR X (.builtin "all") (rBi T .all) := by
  refine CallR.imp (cr_all hc) fun xs H Q q => ?_
  obtain ⟨w, ds, z, rfl, g, r, hb, q⟩ := q
  obtain ⟨d, rfl, h⟩ := arg1_inv (f := fun x => ((lsOf w.st x).bind boolsB).map fun (bs : List Bool) => Bv.val (.bl (bs.all id))) hb
  obtain ⟨v, rfl, rd⟩ := reps_one r
  rw [Option.map_eq_some_iff] at h
  obtain ⟨bs, h, rfl⟩ := h
  rw [Option.bind_eq_some_iff] at h
  obtain ⟨ys, h1, h2⟩ := h
  obtain ⟨a, vs, rfl, r1, q1⟩ := sq_ls g h1 rd
  cases bools_of h2 q1
  exact ⟨a, bs, rfl, hK ▸ r1, q.val g rfl⟩

/-! ### methods -/
def rMt (T : Tb) (m : Mt) : V → List V → Hp → VK → Prop := fun x xs H Q => ∃ w d ds z st', w.H = H ∧ Good T w ∧ Rep T w d x ∧ Reps T w ds xs ∧ metB w.st m d ds = some (z, st') ∧
  ∀ w', Fut w w' → Good T w' → w'.st = st' → bpost T w' z Q
theorem MtR.imp {id : String} {r r' : V → List V → Hp → VK → Prop} (h : MtR X id r) (k : ∀ x xs H Q, r' x xs H Q → r x xs H Q) : MtR X id r' := fun pins s σ H x xs v us Q I rx rv q => h pins s σ H x xs v us Q I rx rv (k _ _ _ _ q)
theorem mt_appendB : MtR X "list.append" (rMt T .append) := by
  refine MtR.imp mt_append fun x xs H Q q => ?_
  obtain ⟨w, d, ds, z, st', rfl, g, rx, r, hb, q⟩ := q
  obtain ⟨e, rfl, h⟩ := arg1_inv (f := fun x => appendB w.st x d) hb
  obtain ⟨v, rfl, re⟩ := reps_one r
  cases d <;> first | (cases h; done) | skip
  rename_i i
  simp only [appendB] at h
  split at h
  · rename_i ys hi
    obtain ⟨h1, h2⟩ := if_some h
    obtain ⟨rfl, rfl⟩ := Prod.mk.inj h2
    obtain ⟨a, ea, rfl, vs, hH, rs⟩ := g.stOf hi (fun z => nomatch z) rx
    refine ⟨a, vs, v, rfl, rfl, hH, by rw [← rs.length, ← maxLen_eq]; exact h1, ?_⟩
    have f := fut_put g (o := .lst (ys ++ [e])) (u := .lst (vs ++ [v])) ea
    have g' := g.put (o := .lst (ys ++ [e])) (u := .lst (vs ++ [v])) ea ⟨vs ++ [v], upd_same, (rs.mono f).append (Reps.cons (re.mono f) Reps.nil)⟩
    exact (q _ f g' rfl).val g' rfl
  · cases h
theorem mt_joinB (hK : X.K = T.K) : MtR X "str.join" (rMt T .join) := by
  refine MtR.imp mt_join fun x xs H Q q => ?_
  obtain ⟨w, d, ds, z, st', rfl, g, rx, r, hb, q⟩ := q
  obtain ⟨e, rfl, h⟩ := arg1_inv (f := fun x => (asStr d).bind fun s => ((lsOf w.st x).bind strsB).bind fun ys => if (ys.map (·.length)).sum + ys.length * s.length ≤ 16777216 then some (Bv.val (.str (Txt.join s ys)), w.st) else none) hb
  obtain ⟨v, rfl, re⟩ := reps_one r
  simp only [Option.bind_eq_some_iff] at h
  obtain ⟨s, h0, ys, ⟨zs, h1, h2⟩, h3⟩ := h
  obtain ⟨h5, h4⟩ := if_some h3
  obtain ⟨rfl, rfl⟩ := Prod.mk.inj h4
  obtain ⟨a, vs, rfl, r1, q1⟩ := sq_ls g h1 re
  cases strs_of h2 q1
  cases asStr_inv h0
  exact ⟨s, a, ys, rx, rfl, .inl (hK ▸ r1), h5, (q w Fut.refl g rfl).val g rfl⟩
theorem mt_countB : MtR X "str.count" (rMt T .count) := by
  refine MtR.imp mt_count fun x xs H Q q => ?_
  obtain ⟨w, d, ds, z, st', rfl, g, rx, r, hb, q⟩ := q
  obtain ⟨e, rfl, h⟩ := arg1_inv (f := fun x => (asStr d).bind fun a => (asStr x).map fun b => (Bv.val (.int (Txt.count a b)), w.st)) hb
  obtain ⟨v, rfl, re⟩ := reps_one r
  simp only [Option.bind_eq_some_iff, Option.map_eq_some_iff] at h
  obtain ⟨a, h0, b, h1, h2⟩ := h
  obtain ⟨rfl, rfl⟩ := Prod.mk.inj h2
  cases asStr_inv h0
  cases asStr_inv h1
  cases rx
  cases re
  exact ⟨a, b, rfl, rfl, (q w Fut.refl g rfl).val g rfl⟩
theorem mt_rfindB : MtR X "str.rfind" (rMt T .rfind) := by
  refine MtR.imp mt_rfind fun x xs H Q q => ?_
  obtain ⟨w, d, ds, z, st', rfl, g, rx, r, hb, q⟩ := q
  obtain ⟨e, rfl, h⟩ := arg1_inv (f := fun x => (asStr d).bind fun a => (asStr x).map fun b => (Bv.val (.int (Txt.rfind a b)), w.st)) hb
  obtain ⟨v, rfl, re⟩ := reps_one r
  simp only [Option.bind_eq_some_iff, Option.map_eq_some_iff] at h
  obtain ⟨a, h0, b, h1, h2⟩ := h
  obtain ⟨rfl, rfl⟩ := Prod.mk.inj h2
  cases asStr_inv h0
  cases asStr_inv h1
  cases rx
  cases re
  exact ⟨a, b, rfl, rfl, (q w Fut.refl g rfl).val g rfl⟩

/-! ### isinstance -/
theorem ty_of (hK : X.K = T.K) {w : Wd} (g : Good T w) {d : D} {v : V} {t : Ty} (r : Rep T w d v) (h : tyB w.st d = some t) : TyX X.K w.H v (.type t.name) := by
  have lists : ∀ {xs : List D}, lsOf w.st d = some xs → t = .list → TyX X.K w.H v (.type t.name) := fun {xs} h e => by
    obtain ⟨a, vs, rfl, r1, q1⟩ := rd_ls g h r
    subst e
    rcases r1 with r1 | ⟨o, r1⟩
    · exact .base (.lst r1)
    · exact .base (.frz r1)
  cases d with
  | non => cases h; cases r; exact .base .non
  | bl b => cases h; cases r; exact .base (.bl b)
  | int i => cases h; cases r; exact .base (.int i)
  | str s => cases h; cases r; exact .base (.str s)
  | tup xs =>
    cases h
    obtain ⟨a, vs, rfl, z, q⟩ := r
    rcases z with ⟨z | ⟨o, z⟩, _⟩ | ⟨o, its, n, hk, hc, _⟩
    · exact .base (.tup z)
    · exact .fTuple z
    · exact .kTuple (hK ▸ hk) hc
  | lst xs => cases h; exact lists rfl rfl
  | ref i =>
    simp only [tyB] at h
    split at h
    · rename_i xs e
      cases h
      exact lists (xs := xs) (by simp only [lsOf]; rw [e]) rfl
    · cases h
  | _ => cases h
theorem kit_of_ty (K : PySem.W.Frag) (t u : Ty) : PySem.W.kitOne K (.type t.name) (.type u.name) = some (t.is u) := by
  cases t <;> cases u <;> exact kit_ty (by decide +kernel)

/-! ### o[i] = v -/
theorem set_of : PSet X (fun o i v H Q => ∃ w d e z st', w.H = H ∧ Good T w ∧ Rep T w d o ∧ Rep T w e i ∧ Rep T w z v ∧ putB w.st d e z = some st' ∧ ∀ w', Fut w w' → Good T w' → w'.st = st' → Q w'.H) := by
  intro pins s σ H o i v ov iv u Q I ro ri rv h
  refine set_list pins s σ H o i v ov iv u Q I ro ri rv ?_
  obtain ⟨w, d, e, z, st', rfl, g, rd, re, rz, h, q⟩ := h
  cases d <;> first | (cases h; done) | skip
  cases e <;> first | (cases h; done) | skip
  rename_i k j
  simp only [putB] at h
  split at h
  · rename_i ys hi
    split at h
    · rename_i n hn
      cases h
      obtain ⟨a, ea, rfl, vs, hH, rs⟩ := g.stOf hi (fun z => nomatch z) rd
      refine ⟨a, vs, j, n, rfl, re, hH, by rw [← rs.length]; exact hn, ?_⟩
      have f := fut_put g (o := .lst (ys.set n z)) (u := .lst (vs.set n v)) ea
      have g' := g.put (o := .lst (ys.set n z)) (u := .lst (vs.set n v)) ea ⟨vs.set n v, upd_same, (rs.mono f).set (rz.mono f) n⟩
      exact q _ f g' rfl
    · cases h
  · cases h
end
end Ip

set_option Elab.async false
set_option linter.all false
set_option maxRecDepth 100000
set_option autoImplicit false
/-! Expressions: what the interpreter says stands for what the machine does. -/
namespace Ip
open PySem PySem.Spec PyProof.Rows L2

/-! ### from a world on -/
def XRep (T : Tb) (w : Wd) (c : Str) (fs : XF) (cls : Value) (dx : Option Addr) : Prop :=
  cls = .ref (T.cad c) ∧ ∃ a fs', dx = some a ∧ w.Fz a (.xd fs') ∧ ∀ f d, fs.lookup f = some d → ∃ v, fs'.lookup f = some v ∧ Rep T w d v
def after {α : Type} (T : Tb) (W : WX) (σ : L2.St) (w : Wd) (r : R α) (k : Wd → α → Prop) : Prop :=
  match r with
  | .ok a st => ∀ w', Fut w w' → Good T w' → w'.st = st → k w' a
  | .exc c fs st => ∀ w' cls dx, Fut w w' → Good T w' → w'.st = st → XRep T w' c fs cls dx → W cls dx σ w'.H
  | .stuck => False
def EnvRep (T : Tb) (w : Wd) (ρ : Env) (σ : L2.St) : Prop := ρ.length = σ.length ∧ ∀ (i : Nat) (d : D), ρ[i]? = some (some d) → ∃ v, σ[i]? = some (some v) ∧ Rep T w d v

section
variable {T : Tb} {W : WX} {σ : L2.St} {w : Wd} {α β : Type}
theorem EnvRep.mono {ρ : Env} {w' : Wd} (h : EnvRep T w ρ σ) (f : Fut w w') : EnvRep T w' ρ σ := ⟨h.1, fun i d e => let ⟨v, a, b⟩ := h.2 i d e; ⟨v, a, b.mono f⟩⟩
theorem after.imp {r : R α} {k k' : Wd → α → Prop} (h : after T W σ w r k) (q : ∀ w' a, Fut w w' → Good T w' → k w' a → k' w' a) : after T W σ w r k' := by
  cases r with
  | ok a st => exact fun w' f g e => q w' a f g (h w' f g e)
  | exc c fs st => exact h
  | stuck => exact h
theorem after.later {r : R α} {k : Wd → α → Prop} {w' : Wd} (h : after T W σ w r k) (f : Fut w w') : after T W σ w' r k := by
  cases r with
  | ok a st => exact fun w2 f2 g e => h w2 (f.trans f2) g e
  | exc c fs st => exact fun w2 cls dx f2 g e => h w2 cls dx (f.trans f2) g e
  | stuck => exact h
theorem after.bind {r : R α} {f : α → Store → R β} {k : Wd → β → Prop} (h : after T W σ w (r.bind f) k) : after T W σ w r (fun w1 a => after T W σ w1 (f a w1.st) k) := by
  cases r with
  | ok a st =>
    intro w1 f1 g1 e1
    have h : after T W σ w (f a st) k := h
    rw [e1]
    exact h.later f1
  | exc c fs st => exact h
  | stuck => exact h
theorem after.of {o : Option α} {k : Wd → α → Prop} (g : Good T w) (h : after T W σ w (R.of o w.st) k) : ∃ a, o = some a ∧ ∀ w', Fut w w' → Good T w' → w'.st = w.st → k w' a := by
  cases o with
  | none => exact h.elim
  | some a => exact ⟨a, rfl, h⟩
theorem after.ok {a : α} {k : Wd → α → Prop} (g : Good T w) (h : after T W σ w (.ok a w.st) k) : k w a := h w Fut.refl g rfl
end

/-! ### readings -/
section
variable (T : Tb) (Φ : Fn) (W : WX)
def rdB (e : E) : TE := fun σ H Q => ∃ w ρ, w.H = H ∧ Good T w ∧ EnvRep T w ρ σ ∧ after T W σ w ((ev Φ e).b ρ w.st) fun w' b => bpost T w' b Q
def rdE (e : E) : TE := fun σ H Q => ∃ w ρ, w.H = H ∧ Good T w ∧ EnvRep T w ρ σ ∧ after T W σ w ((ev Φ e).b ρ w.st).d fun w' d => ∀ v, Rep T w' d v → Q v w'.H
def rdT (e : E) : TT := fun σ H Q => ∃ w ρ, w.H = H ∧ Good T w ∧ EnvRep T w ρ σ ∧ after T W σ w ((ev Φ e).t ρ w.st) fun w' b => Q b w'.H
def rdP (e : E) : TO := fun σ H Q => ∃ w ρ, w.H = H ∧ Good T w ∧ EnvRep T w ρ σ ∧ after T W σ w ((ev Φ e).p ρ w.st) fun w' b => Q b w'.H
def rdEs (es : List E) : TA := fun σ H Q => ∃ w ρ, w.H = H ∧ Good T w ∧ EnvRep T w ρ σ ∧ after T W σ w (evs Φ es ρ w.st) fun w' ds => ∀ vs, Reps T w' ds vs → Q vs w'.H
end
theorem pe_imp {X : Cx} {e : Expr} {t t' : TE} (h : PE X e t) (k : ∀ σ H Q, t' σ H Q → t σ H Q) : PE X e t' := ⟨fun pins s σ H Q I q => h.run pins s σ H Q I (k _ _ _ q)⟩
theorem pt_imp {X : Cx} {e : Expr} {t t' : TT} (h : PT X e t) (k : ∀ σ H Q, t' σ H Q → t σ H Q) : PT X e t' := ⟨fun pins s σ H Q I q => h.run pins s σ H Q I (k _ _ _ q)⟩
theorem pw_imp {X : Cx} {e : Expr} {t t' : TT} (h : PW X e t) (k : ∀ σ H Q, t' σ H Q → t σ H Q) : PW X e t' := ⟨fun wh pins s σ H Q I q => h.run wh pins s σ H Q I (k _ _ _ q)⟩
theorem pa_imp {X : Cx} {e : List Expr} {t t' : TA} (h : PA X e t) (k : ∀ σ H Q, t' σ H Q → t σ H Q) : PA X e t' := ⟨fun pos pins s σ H Q I q => h.run pos pins s σ H Q I (k _ _ _ q)⟩
theorem po_imp {X : Cx} {e : Option Expr} {t t' : TO} (h : PO X e t) (k : ∀ σ H Q, t' σ H Q → t σ H Q) : PO X e t' := ⟨fun pins s σ H Q I q => h.run pins s σ H Q I (k _ _ _ q)⟩
section
variable {T : Tb} {Φ : Fn} {W : WX}
/-- a value in place of what a fresh object is -/
theorem dpost {σ : L2.St} {w : Wd} {r : R Bv} {Q : VK} (h : after T W σ w r.d fun w' d => ∀ v, Rep T w' d v → Q v w'.H) : after T W σ w r fun w' b => bpost T w' b Q := by
  cases r with
  | exc c fs st => exact h
  | stuck => exact h
  | ok b st =>
    intro w1 f1 g1 e1
    cases b with
    | val d =>
      have h : ∀ w', Fut w w' → Good T w' → w'.st = st → ∀ v, Rep T w' d v → Q v w'.H := h
      exact fun w2 v f2 g2 e2 rv => h w2 (f1.trans f2) g2 (e2.trans e1) v rv
    | new o =>
      cases o with
      | lst xs =>
        have h : ∀ w', Fut w w' → Good T w' → w'.st = st → ∀ v, Rep T w' (.lst xs) v → Q v w'.H := h
        intro w2 p vs f2 g2 e2 hp rv
        exact h { w2 with H := upd w2.H p (.lst vs) } ((f1.trans f2).trans (fut_new hp)) (g2.new hp) (e2.trans e1) (.ref p) (Rep.lst_new g2 hp rv)
      | _ => exact h
theorem pe_ofB {X : Cx} {pe : Expr} {e : E} (h : PE X pe (rdB T Φ W e)) : PE X pe (rdE T Φ W e) := pe_imp h fun σ H Q ⟨w, ρ, a, b, c, d⟩ => ⟨w, ρ, a, b, c, dpost d⟩
/-- how an expression is gone on from: v stands for d in a later world -/
theorem goE {e : E} {σ : L2.St} {w : Wd} {ρ : Env} {k : Wd → D → Prop} (g : Good T w) (re : EnvRep T w ρ σ) (h : after T W σ w ((ev Φ e).b ρ w.st).d k) {Q : VK}
    (q : ∀ w1 d v, Fut w w1 → Good T w1 → k w1 d → Rep T w1 d v → Q v w1.H) : rdE T Φ W e σ w.H Q := ⟨w, ρ, rfl, g, re, h.imp fun w1 d f g1 hk v rv => q w1 d v f g1 hk rv⟩
theorem goT {e : E} {σ : L2.St} {w : Wd} {ρ : Env} {k : Wd → Bool → Prop} (g : Good T w) (re : EnvRep T w ρ σ) (h : after T W σ w ((ev Φ e).t ρ w.st) k) {Q : Bool → Hp → Prop}
    (q : ∀ w1 b, Fut w w1 → Good T w1 → k w1 b → Q b w1.H) : rdT T Φ W e σ w.H Q := ⟨w, ρ, rfl, g, re, h.imp fun w1 b f g1 hk => q w1 b f g1 hk⟩
theorem goP {e : E} {σ : L2.St} {w : Wd} {ρ : Env} {k : Wd → Option Int → Prop} (g : Good T w) (re : EnvRep T w ρ σ) (h : after T W σ w ((ev Φ e).p ρ w.st) k) {Q : Option Int → Hp → Prop}
    (q : ∀ w1 b, Fut w w1 → Good T w1 → k w1 b → Q b w1.H) : rdP T Φ W e σ w.H Q := ⟨w, ρ, rfl, g, re, h.imp fun w1 b f g1 hk => q w1 b f g1 hk⟩
theorem goEs {es : List E} {σ : L2.St} {w : Wd} {ρ : Env} {k : Wd → List D → Prop} (g : Good T w) (re : EnvRep T w ρ σ) (h : after T W σ w (evs Φ es ρ w.st) k) {Q : List V → Hp → Prop}
    (q : ∀ w1 ds vs, Fut w w1 → Good T w1 → k w1 ds → Reps T w1 ds vs → Q vs w1.H) : rdEs T Φ W es σ w.H Q := ⟨w, ρ, rfl, g, re, h.imp fun w1 d f g1 hk v rv => q w1 d v f g1 hk rv⟩
/-- a value is there -/
theorem bval {w : Wd} {d : D} {Q : VK} (h : ∀ w', Fut w w' → Good T w' → w'.st = w.st → bpost T w' (.val d) Q) (g : Good T w) {v : V} (r : Rep T w d v) : Q v w.H := (h w Fut.refl g rfl).val g r

/-! ### what a def promises, by the interpreter -/
def spF (T : Tb) (g : List D → Store → R D) : Sp := fun vs H Q E => ∃ w ds, w.H = H ∧ Good T w ∧ Reps T w ds vs ∧ after T (fun cls dx _ H => E cls dx H) [] w (g ds w.st) fun w' d => ∀ v, Rep T w' d v → Q v w'.H

/-! ### the context -/
structure Cfg where
  P : Program
  w : World
  T : Tb
  mg : Str → Option Value
  base : Heap
  Φ : Fn
  lev : Nat
  /-- the defs that may be called, the constants of the module, the built-ins whose names are free -/
  fns : List Str
  globs : List (Str × D)
  free : List Str
structure Cfg.Ok (C : Cfg) : Prop where
  fn : ∀ f ∈ C.fns, ∃ a fd ps, C.mg f = some (.ref a) ∧ PySem.W.keepIn C.T.K (.ref a) = true ∧ FnOk C.P C.w C.T.K C.mg C.base (CX C.P C.w) C.lev a fd ps (spF C.T (C.Φ f)) ∧ Binds C.T.K fd ps []
  gl : ∀ x d, (x, d) ∈ C.globs → ∃ u v, C.mg x = some u ∧ RelV v u ∧ ∀ w, Rep C.T w d v
  fr : ∀ x ∈ C.free, C.mg x = none
/-- X is a place in a def of C's module -/
structure At (C : Cfg) (N : List Str) (sc : Scope) (fn : Str → Bool) (W : WX) (X : Cx) : Prop where
  K : X.K = C.T.K
  P : X.prog = C.P
  w : X.w = C.w
  mg : X.mg = C.mg
  base : X.base = C.base
  N : X.N = N
  nd : X.N.Nodup
  sc : X.env.scope = sc
  fn : X.fn = fn
  calm : X.calm = true
  room : Room C.lev X.A
  tk : Takes X W

/-! ### the text is the expression -/
def visB (sc : Scope) (x : Str) : Bool := decide (sc.names.lookup x = some .local) || (decide (sc.names.lookup x = some .cell) || decide (sc.names.lookup x = some .free))
def glB (sc : Scope) (x : Str) : Bool := decide (sc.names.lookup x = some .globalImplicit) && decide (x ≠ "__debug__")
def constB : D → Const → Bool
  | .non, .none => true
  | .bl b, .bool c => b == c
  | .int i, .int j => decide (i = j)
  | .str s, .str t => decide (s = t)
  | _, _ => false
def isStar : PySem.Expr → Bool
  | .Starred _ _ => true
  | _ => false
def isSliceE : PySem.Expr → Bool
  | .Slice _ _ _ _ => true
  | _ => false
/-- the receiver of a method, a field: no super() -/
def plainBase : PySem.Expr → Bool
  | .Call _ _ _ _ => false
  | _ => true
/-- its test is its value's truth -/
def plainT : PySem.Expr → Bool
  | .BoolOp _ _ _ => false
  | .Compare _ _ _ _ => false
  | .UnaryOp .Not _ _ => false
  | .IfExp _ _ _ _ => false
  | .Set _ _ _ => false
  | _ => true
mutual
def Tg.slots : Tg → List Nat
  | .name i => [i]
  | .tup ts => slotsAll ts
def slotsAll : List Tg → List Nat
  | [] => []
  | t :: ts => t.slots ++ slotsAll ts
end
mutual
def okT (sc : Scope) (fn : Str → Bool) (N : List Str) : Tg → PySem.Expr → Bool
  | .name i, .Name x _ => decide (N[i]? = some x) && (decide (sc.names.lookup x = some .local) || (decide (sc.names.lookup x = some .cell) && fn x))
  | .tup ts, .Tuple ps _ _ => okTs sc fn N ts ps
  | _, _ => false
def okTs (sc : Scope) (fn : Str → Bool) (N : List Str) : List Tg → List PySem.Expr → Bool
  | [], [] => true
  | t :: ts, p :: ps => okT sc fn N t p && (!isStar p && okTs sc fn N ts ps)
  | _, _ => false
end
def isTupleE : PySem.Expr → Bool
  | .Tuple _ _ _ => true
  | _ => false
def isNo : E → Bool
  | .no => true
  | _ => false

def callOf : PySem.Expr → Option (Str × List PySem.Expr)
  | .Call (.Name g _) ps [] _ => some (g, ps)
  | _ => none
theorem callOf_eq {pe : PySem.Expr} {g : Str} {ps : List PySem.Expr} (h : callOf pe = some (g, ps)) : ∃ p pos, pe = .Call (.Name g p) ps [] pos := by
  cases pe <;> first | (cases h; done) | skip
  rename_i f as kw pos
  cases f <;> first | (cases h; done) | skip
  cases kw <;> first | (cases h; done) | skip
  cases h
  exact ⟨_, _, rfl⟩

mutual
def okE (C : Cfg) (N : List Str) (sc : Scope) : E → PySem.Expr → Bool
  | .var i, .Name x _ => decide (N[i]? = some x) && (visB sc x && (decide (x ≠ "__debug__") && decide (x ≠ "__classdict__")))
  | .con d, .Constant c _ _ => constB d c
  | .glob x d, .Name y _ => decide (x = y) && (glB sc x && decide ((x, d) ∈ C.globs))
  | .mt e, pe => plainT pe && okE C N sc e pe
  | .tup es, .Tuple ps _ _ => okEs C N sc es ps
  | .lst es, .List ps _ => okEs C N sc es ps
  | .and_ a b, .BoolOp .And (p :: q :: r) pos => okE C N sc a p && (match r with
    | [] => okE C N sc b q
    | _ :: _ => okE C N sc b (.BoolOp .And (q :: r) pos))
  | .or_ a b, .BoolOp .Or (p :: q :: r) pos => okE C N sc a p && (match r with
    | [] => okE C N sc b q
    | _ :: _ => okE C N sc b (.BoolOp .Or (q :: r) pos))
  | .not_ a, .UnaryOp .Not p _ => okE C N sc a p
  | .ite c a b, .IfExp pc pa pb _ => okE C N sc c pc && (okE C N sc a pa && okE C N sc b pb)
  | .cmp op a b, .Compare p [op'] [q] _ => decide (op = op') && (okE C N sc a p && (okE C N sc b q && !behindInMarks op q))
  | .bin op a b, .BinOp p op' q _ => decide (op = op') && (okE C N sc a p && okE C N sc b q)
  | .neg a, .UnaryOp .USub p _ => okE C N sc a p
  | .idx a i, .Subscript p q _ => okE C N sc a p && (okE C N sc i q && !isSliceE q)
  | .slc a lo hi, .Subscript p (.Slice pl ph none _) _ => okE C N sc a p && ((match pl with
    | none => isNo lo
    | some q => okE C N sc lo q) && (match ph with
    | none => isNo hi
    | some q => okE C N sc hi q))
  | .call f es, .Call (.Name g _) ps [] _ => decide (f = g) && (glB sc f && (decide (f ∈ C.fns) && okEs C N sc es ps))
  | .bi b es, .Call (.Name g _) ps [] _ => decide (b = g) && (glB sc b && (decide (b ∈ C.free) && ((biOf b).isSome && (!ps.isEmpty && okEs C N sc es ps))))
  | .met m o es, .Call (.Attribute po g apos) ps [] cpos => decide (m = g) && ((mtOf m).isSome && (plainBase po && (decide (apos.endLine = cpos.line) && (!ps.isEmpty && (decide (ps.length < 29) && (okE C N sc o po && okEs C N sc es ps))))))
  | .isi a t, .Call (.Name g _) [p, .Name u _] [] _ => decide (g = "isinstance") && (glB sc "isinstance" && (decide (Str.ofString "isinstance" ∈ C.free) && (decide (t ≠ .non) && (decide (u = Str.ofString t.name) && (glB sc u && (decide (u ∈ C.free) && (okE C N sc a p && !isStar p)))))))
  | .lc own tg it ts el, .ListComp pel [⟨ptg, pit, pifs, asy⟩] scope _ =>
      decide (asy = 0) && (blkC N sc scope own && (okI C N sc it pit ptg && (okT (relS scope sc) (fun x => scope.names.lookup x == some .cell) N tg ptg && (tg.slots.all (fun i => (own.map (·.2)).contains i) && ((match pifs with
        | [] => isNo ts
        | [q] => okE C N (relS scope sc) ts q
        | _ => false) && okE C N (relS scope sc) el pel)))))
  | _, _ => false
def okEs (C : Cfg) (N : List Str) (sc : Scope) : List E → List PySem.Expr → Bool
  | [], [] => true
  | e :: es, p :: ps => okE C N sc e p && (!isStar p && okEs C N sc es ps)
  | _, _ => false
def okI (C : Cfg) (N : List Str) (sc : Scope) : It → PySem.Expr → PySem.Expr → Bool
  | .seq e, p, _ => okE C N sc e p
  | .rng1 e, pe, _ => match callOf pe with
    | some (g, [p]) => decide (g = "range") && (glB sc "range" && (decide (Str.ofString "range" ∈ C.free) && (okE C N sc e p && !isStar p)))
    | _ => false
  | .rng2 e e', pe, _ => match callOf pe with
    | some (g, [p, q]) => decide (g = "range") && (glB sc "range" && (decide (Str.ofString "range" ∈ C.free) && (okE C N sc e p && (!isStar p && (okE C N sc e' q && !isStar q)))))
    | _ => false
  | .enum e, pe, tg => match callOf pe with
    | some (g, [p]) => decide (g = "enumerate") && (glB sc "enumerate" && (decide (Str.ofString "enumerate" ∈ C.free) && (isTupleE tg && (okE C N sc e p && !isStar p))))
    | _ => false
  | .zip a b, pe, tg => match callOf pe with
    | some (g, [p, q]) => decide (g = "zip") && (glB sc "zip" && (decide (Str.ofString "zip" ∈ C.free) && (isTupleE tg && (okE C N sc a p && (!isStar p && (okE C N sc b q && !isStar q))))))
    | _ => false
end
end
end Ip

set_option Elab.async false
set_option linter.all false
set_option maxRecDepth 100000
set_option autoImplicit false
/-! Expressions: the steps. -/
namespace Ip
open PySem PySem.Spec PyProof.Rows L2

theorem band {a b : Bool} (h : (a && b) = true) : a = true ∧ b = true := Bool.and_eq_true_iff.mp h
theorem vis_of {sc : Scope} {x : Str} (h : visB sc x = true) : Vis sc x := by
  simp only [visB, Bool.or_eq_true, decide_eq_true_eq] at h
  exact h
theorem isTrue_of {pe : PySem.Expr} {env : PySem.Env} (h : plainT pe = true) (whole : Sem Value) : isTrue pe env whole = (do let v ← whole; standAt pe.pos; holding [v] (truthy v)) := by
  cases pe <;> first | rfl | (cases h; done) | skip
  rename_i op _ _
  cases op <;> first | rfl | (cases h; done)
theorem star_cons {p : PySem.Expr} {ps : List PySem.Expr} {env : PySem.Env} (h : isStar p = false) : starEach (p :: ps) env = (false, eval p env) :: starEach ps env := by
  cases p <;> first | rfl | (cases h; done)
theorem star_none {env : PySem.Env} {pos : Pos} : ∀ {ps : List PySem.Expr}, ps.any isStar = false → (backTo pos (starEach ps env)).any (·.1) = false
  | [], _ => rfl
  | p :: ps, h => by
    simp only [List.any_cons, Bool.or_eq_false_iff] at h
    rw [star_cons h.1]
    show (false || (backTo pos (starEach ps env)).any (·.1)) = false
    rw [star_none h.2]; rfl
theorem star_all {env : PySem.Env} {pos : Pos} : ∀ {ps : List PySem.Expr}, ps.any isStar = false → (backTo pos (starEach ps env)).all (fun x => !x.1) = true
  | [], _ => rfl
  | p :: ps, h => by
    simp only [List.any_cons, Bool.or_eq_false_iff] at h
    rw [star_cons h.1]
    show (!false && (backTo pos (starEach ps env)).all (fun x => !x.1)) = true
    rw [star_all h.2]; rfl
theorem base_of {pe : PySem.Expr} {n : Str} {env : PySem.Env} (h : plainBase pe = true) : attributeBase pe n env (eval pe env) = eval pe env := by
  cases pe <;> first | rfl | (cases h; done)
theorem plainIx_of {pe : PySem.Expr} (h : isSliceE pe = false) : PlainIx pe := by
  cases pe <;> first | exact fun _ _ => rfl | (cases h; done)

section
variable {C : Cfg} {N : List Str} {sc : Scope} {fn : Str → Bool} {W : WX} {X : Cx}
abbrev B (C : Cfg) (W : WX) (e : E) : TE := rdB C.T C.Φ W e
abbrev V1 (C : Cfg) (W : WX) (e : E) : TE := rdE C.T C.Φ W e
abbrev T1 (C : Cfg) (W : WX) (e : E) : TT := rdT C.T C.Φ W e

theorem At.gl (A : At C N sc fn W X) {x : Str} (h : glB sc x = true) : Gl X x := by
  unfold glB at h
  have := of_decide_eq_true (band h).1
  show X.env.kindOf x = _
  unfold PySem.Env.kindOf
  rw [A.sc]; exact this
theorem glB_dbg {x : Str} (h : glB sc x = true) : (x == ("__debug__" : Str)) = false := by
  unfold glB at h
  exact beq_eq_false_iff_ne.mpr (of_decide_eq_true (band h).2)

/-! ### truth as a test -/
theorem pt_dflt {pe : PySem.Expr} {e : E} (A : At C N sc fn W X) (hp : plainT pe = true) (h : PE X pe (B C W e)) (ht : (ev C.Φ e).t = fun ρ st => (((ev C.Φ e).b ρ st).d).bind fun d st => R.of (truB st d) st) : PT X pe (T1 C W e) := by
  refine pt_imp (pt_truth (pe_ofB h) (isTrue_of hp)) fun σ H Q q => ?_
  obtain ⟨w, ρ, rfl, g, re, q⟩ := q
  rw [ht] at q
  refine goE g re q.bind fun w1 d v f1 g1 k rv => ?_
  obtain ⟨b, hb, q⟩ := after.of g1 k
  exact ⟨b, tru_of A.K g1 rv hb, q w1 Fut.refl g1 rfl⟩

/-! ### names, constants -/
theorem s_var (A : At C N sc fn W X) {i : Nat} {x : Str} {pos : Pos} (h : okE C N sc (.var i) (.Name x pos) = true) : PE X (.Name x pos) (B C W (.var i)) := by
  have h : (decide (N[i]? = some x) && (visB sc x && (decide (x ≠ "__debug__") && decide (x ≠ "__classdict__")))) = true := by simpa only [okE] using h
  obtain ⟨h1, h⟩ := band h
  obtain ⟨h2, h⟩ := band h
  obtain ⟨h3, h4⟩ := band h
  refine pe_imp (pe_var (i := i) (by rw [A.N]; exact of_decide_eq_true h1) (by rw [A.sc]; exact vis_of h2) (beq_eq_false_iff_ne.mpr (of_decide_eq_true h3)) (beq_eq_false_iff_ne.mpr (of_decide_eq_true h4))) fun σ H Q q => ?_
  obtain ⟨w, ρ, rfl, g, re, q⟩ := q
  simp only [ev, Ev.mk1] at q
  split at q
  · rename_i d hd
    obtain ⟨v, e, r⟩ := re.2 i d hd
    exact ⟨v, e, (q.ok g).val g r⟩
  · exact q.elim
theorem s_con {d : D} {c : Const} {k : Nat} {pos : Pos} (h : okE C N sc (.con d) (.Constant c k pos) = true) : PE X (.Constant c k pos) (B C W (.con d)) := by
  have h : constB d c = true := by simpa only [okE] using h
  have fin : ∀ {v : V}, (∀ w, Rep C.T w d v) → PE X (.Constant c k pos) (tC v) → PE X (.Constant c k pos) (B C W (.con d)) := fun {v} r p => pe_imp p fun σ H Q q => by
    obtain ⟨w, ρ, rfl, g, re, q⟩ := q
    exact (after.ok g (show after C.T W σ w (.ok (Bv.val d) w.st) _ from q)).val g (r w)
  cases d <;> cases c <;> first | (cases h; done) | skip
  · exact fin (v := .non) (fun _ => rfl) pe_non
  · cases (beq_iff_eq.mp (show (_ == _) = true from h))
    exact fin (v := .bl _) (fun _ => rfl) pe_bl
  · cases of_decide_eq_true h
    exact fin (v := .int _) (fun _ => rfl) pe_int
  · cases of_decide_eq_true h
    exact fin (v := .str _) (fun _ => rfl) pe_str
theorem s_glob (O : C.Ok) (A : At C N sc fn W X) {x y : Str} {d : D} {pos : Pos} (h : okE C N sc (.glob x d) (.Name y pos) = true) : PE X (.Name y pos) (B C W (.glob x d)) := by
  have h : (decide (x = y) && (glB sc x && decide ((x, d) ∈ C.globs))) = true := by simpa only [okE] using h
  obtain ⟨h1, h⟩ := band h
  obtain ⟨h2, h3⟩ := band h
  cases of_decide_eq_true h1
  obtain ⟨u, v, hm, rv, r⟩ := O.gl x d (of_decide_eq_true h3)
  refine pe_imp (pe_glob (A.gl h2) (by rw [A.mg]; exact hm) rv (glB_dbg h2)) fun σ H Q q => ?_
  obtain ⟨w, ρ, rfl, g, re, q⟩ := q
  exact (after.ok g (show after C.T W σ w (.ok (Bv.val d) w.st) _ from q)).val g (r w)
theorem mt_imp {e : E} : ∀ σ H Q, B C W (.mt e) σ H Q → B C W e σ H Q := by
  intro σ H Q q
  obtain ⟨w, ρ, rfl, g, re, q⟩ := q
  refine ⟨w, ρ, rfl, g, re, (after.bind (show after C.T W σ w (((ev C.Φ e).b ρ w.st).bind live) _ from q)).imp fun w1 b f1 g1 k => ?_⟩
  cases b with
  | val d => exact k.elim
  | new o =>
    cases o with
    | lst xs =>
      intro w2 p vs f2 g2 e2 hp rv
      have k : ∀ w', Fut w1 w' → Good C.T w' → w'.st = w1.st ++ [.lst xs] → bpost C.T w' (.val (.ref w1.st.length)) Q := k
      have f3 := fut_alloc (w := w2) (p := p) (o := .lst xs) (u := .lst vs) hp
      have g3 := g2.alloc (o := .lst xs) (u := .lst vs) hp ⟨vs, upd_same, rv.mono f3⟩
      refine (k (w2.alloc p (.lst xs) (.lst vs)) (f2.trans f3) g3 (by show w2.st ++ _ = _; rw [e2])).val g3 ?_
      refine ⟨some p, ?_, fun a z => by cases z; rfl⟩
      show (w2.eta ++ [some p])[w1.st.length]? = some (some p)
      rw [← e2, ← g2.len]; simp
    | _ => exact k.elim

theorem s_mt {pe : PySem.Expr} {e : E} (h : PE X pe (B C W e)) : PE X pe (B C W (.mt e)) := pe_imp h mt_imp
/-! ### argument lists, displays -/
theorem s_nil : PA X [] (rdEs C.T C.Φ W []) := pa_imp pa_nil fun σ H Q q => by
  obtain ⟨w, ρ, rfl, g, re, q⟩ := q
  exact (after.ok g (show after C.T W σ w (.ok [] w.st) _ from q)) [] rfl
theorem s_cons {p : PySem.Expr} {ps : List PySem.Expr} {e : E} {es : List E} (hs : isStar p = false) (h : PE X p (B C W e)) (k : PA X ps (rdEs C.T C.Φ W es)) : PA X (p :: ps) (rdEs C.T C.Φ W (e :: es)) := by
  refine pa_imp (pa_cons (pe_ofB h) k (star_cons hs)) fun σ H Q q => ?_
  obtain ⟨w, ρ, rfl, g, re, q⟩ := q
  refine goE g re (after.bind (show after C.T W σ w ((((ev C.Φ e).b ρ w.st).d).bind fun d st => (evs C.Φ es ρ st).bind fun ds st => .ok (d :: ds) st) _ from q)) fun w1 d v f1 g1 k1 rv => ?_
  refine goEs g1 (re.mono f1) k1.bind fun w2 ds vs f2 g2 k2 rvs => ?_
  exact (k2.ok g2) (v :: vs) (Reps.cons (rv.mono f2) rvs)
theorem if_ok {α : Type} {c : Prop} [Decidable c] {T : Tb} {σ : L2.St} {w : Wd} {r : R α} {k : Wd → α → Prop} (h : after T W σ w (if c then r else .stuck) k) : c ∧ after T W σ w r k := by
  split at h
  · exact ⟨by assumption, h⟩
  · exact h.elim
theorem s_tup {ps : List PySem.Expr} {es : List E} {n : Nat} {pos : Pos} (h : PA X ps (rdEs C.T C.Φ W es)) : PE X (.Tuple ps n pos) (B C W (.tup es)) := by
  refine pe_imp (pe_tup h) fun σ H Q q => ?_
  obtain ⟨w, ρ, rfl, g, re, q⟩ := q
  refine goEs g re (after.bind (show after C.T W σ w ((evs C.Φ es ρ w.st).bind fun ds st => if ds.length ≤ maxLen then .ok (Bv.val (.tup ds)) st else .stuck) _ from q)) fun w1 ds vs f1 g1 k rv => ?_
  obtain ⟨hz, k⟩ := if_ok k
  exact ⟨by rw [← rv.length, ← maxLen_eq]; exact hz, fun p hp => (k.ok g1).tup g1 rv p hp⟩
theorem s_lst {ps : List PySem.Expr} {es : List E} {pos : Pos} (h : PA X ps (rdEs C.T C.Φ W es)) : PE X (.List ps pos) (B C W (.lst es)) := by
  refine pe_imp (pe_lst h) fun σ H Q q => ?_
  obtain ⟨w, ρ, rfl, g, re, q⟩ := q
  refine goEs g re (after.bind (show after C.T W σ w ((evs C.Φ es ρ w.st).bind fun ds st => if ds.length ≤ maxLen then .ok (Bv.new (.lst ds)) st else .stuck) _ from q)) fun w1 ds vs f1 g1 k rv => ?_
  obtain ⟨hz, k⟩ := if_ok k
  exact ⟨by rw [← rv.length, ← maxLen_eq]; exact hz, fun p hp => (k.ok g1).lst g1 rv p hp⟩

/-! ### and, or, not, if -/
theorem pe_if {X : Cx} {c : Bool} {pa pb : TE} {σ : L2.St} {H : Hp} {Q : VK} : True := trivial
theorem s_and {p q : PySem.Expr} {r : List PySem.Expr} {pos : Pos} {a b : E} (A : At C N sc fn W X) (ha : PE X p (B C W a)) (hb : PE X (.BoolOp .And (q :: r) pos) (B C W b)) : PE X (.BoolOp .And (p :: q :: r) pos) (B C W (.and_ a b)) := by
  refine pe_imp (pe_andT (pe_ofB ha) hb) fun σ H Q h => ?_
  obtain ⟨w, ρ, rfl, g, re, h⟩ := h
  refine goE g re (after.bind (show after C.T W σ w ((((ev C.Φ a).b ρ w.st).d).bind fun d st => (R.of (truB st d) st).bind fun c st => if c then (ev C.Φ b).b ρ st else .ok (.val d) st) _ from h)) fun w1 d v f1 g1 k rv => ?_
  obtain ⟨c, hc, k⟩ := after.of g1 k.bind
  have k := k w1 Fut.refl g1 rfl
  refine ⟨c, tru_of A.K g1 rv hc, ?_⟩
  cases c with
  | true => exact ⟨w1, ρ, rfl, g1, re.mono f1, k⟩
  | false => exact (after.ok g1 k).val g1 rv
theorem s_or {p q : PySem.Expr} {r : List PySem.Expr} {pos : Pos} {a b : E} (A : At C N sc fn W X) (ha : PE X p (B C W a)) (hb : PE X (.BoolOp .Or (q :: r) pos) (B C W b)) : PE X (.BoolOp .Or (p :: q :: r) pos) (B C W (.or_ a b)) := by
  refine pe_imp (pe_orT (pe_ofB ha) hb) fun σ H Q h => ?_
  obtain ⟨w, ρ, rfl, g, re, h⟩ := h
  refine goE g re (after.bind (show after C.T W σ w ((((ev C.Φ a).b ρ w.st).d).bind fun d st => (R.of (truB st d) st).bind fun c st => if c then .ok (.val d) st else (ev C.Φ b).b ρ st) _ from h)) fun w1 d v f1 g1 k rv => ?_
  obtain ⟨c, hc, k⟩ := after.of g1 k.bind
  have k := k w1 Fut.refl g1 rfl
  refine ⟨c, tru_of A.K g1 rv hc, ?_⟩
  cases c with
  | false => exact ⟨w1, ρ, rfl, g1, re.mono f1, k⟩
  | true => exact (after.ok g1 k).val g1 rv
theorem t_and {p q : PySem.Expr} {r : List PySem.Expr} {pos : Pos} {a b : E} (ha : PT X p (T1 C W a)) (hb : PW X (.BoolOp .And (q :: r) pos) (T1 C W b)) : PW X (.BoolOp .And (p :: q :: r) pos) (T1 C W (.and_ a b)) := by
  refine pw_imp (pw_and ha hb) fun σ H Q h => ?_
  obtain ⟨w, ρ, rfl, g, re, h⟩ := h
  show T1 C W a σ w.H (fun c H1 => if c = true then T1 C W b σ H1 Q else Q false H1)
  refine goT g re (after.bind (show after C.T W σ w (((ev C.Φ a).t ρ w.st).bind fun c st => if c then (ev C.Φ b).t ρ st else .ok false st) _ from h)) fun w1 c f1 g1 k => ?_
  cases c with
  | true => exact ⟨w1, ρ, rfl, g1, re.mono f1, k⟩
  | false => exact after.ok g1 k
theorem t_or {p q : PySem.Expr} {r : List PySem.Expr} {pos : Pos} {a b : E} (ha : PT X p (T1 C W a)) (hb : PW X (.BoolOp .Or (q :: r) pos) (T1 C W b)) : PW X (.BoolOp .Or (p :: q :: r) pos) (T1 C W (.or_ a b)) := by
  refine pw_imp (pw_or ha hb) fun σ H Q h => ?_
  obtain ⟨w, ρ, rfl, g, re, h⟩ := h
  show T1 C W a σ w.H (fun c H1 => if c = true then Q true H1 else T1 C W b σ H1 Q)
  refine goT g re (after.bind (show after C.T W σ w (((ev C.Φ a).t ρ w.st).bind fun c st => if c then .ok true st else (ev C.Φ b).t ρ st) _ from h)) fun w1 c f1 g1 k => ?_
  cases c with
  | false => exact ⟨w1, ρ, rfl, g1, re.mono f1, k⟩
  | true => exact after.ok g1 k
theorem t_not {p : PySem.Expr} {pos : Pos} {a : E} (ha : PT X p (T1 C W a)) : PT X (.UnaryOp .Not p pos) (T1 C W (.not_ a)) := by
  refine pt_imp (pt_not ha) fun σ H Q h => ?_
  obtain ⟨w, ρ, rfl, g, re, h⟩ := h
  exact goT g re (after.bind (show after C.T W σ w (((ev C.Φ a).t ρ w.st).bind fun c st => .ok (!c) st) _ from h)) fun w1 c f1 g1 k => after.ok g1 k
theorem s_not {p : PySem.Expr} {pos : Pos} {a : E} (A : At C N sc fn W X) (ha : PE X p (B C W a)) : PE X (.UnaryOp .Not p pos) (B C W (.not_ a)) := by
  refine pe_imp (pe_notT (pe_ofB ha)) fun σ H Q h => ?_
  obtain ⟨w, ρ, rfl, g, re, h⟩ := h
  refine goE g re (after.bind (show after C.T W σ w ((((ev C.Φ a).b ρ w.st).d).bind fun d st => (R.of (truB st d) st).bind fun c st => .ok (Bv.val (.bl (!c))) st) _ from h)) fun w1 d v f1 g1 k rv => ?_
  obtain ⟨c, hc, k⟩ := after.of g1 k.bind
  exact ⟨c, tru_of A.K g1 rv hc, (after.ok g1 (k w1 Fut.refl g1 rfl)).val g1 rfl⟩
theorem s_ite {pc pa pb : PySem.Expr} {pos : Pos} {c a b : E} (hc : PT X pc (T1 C W c)) (ha : PE X pa (B C W a)) (hb : PE X pb (B C W b)) : PE X (.IfExp pc pa pb pos) (B C W (.ite c a b)) := by
  refine pe_imp (pe_ifExp hc ha hb) fun σ H Q h => ?_
  obtain ⟨w, ρ, rfl, g, re, h⟩ := h
  show T1 C W c σ w.H (fun k H1 => if k = true then B C W a σ H1 Q else B C W b σ H1 Q)
  refine goT g re (after.bind (show after C.T W σ w (((ev C.Φ c).t ρ w.st).bind fun c st => if c then (ev C.Φ a).b ρ st else (ev C.Φ b).b ρ st) _ from h)) fun w1 k f1 g1 q => ?_
  cases k with
  | true => exact ⟨w1, ρ, rfl, g1, re.mono f1, q⟩
  | false => exact ⟨w1, ρ, rfl, g1, re.mono f1, q⟩
theorem pt_ifExp {pc pa pb : PySem.Expr} {pos : Pos} {tc ta tb : TT} (hc : PT X pc tc) (ha : PT X pa ta) (hb : PT X pb tb) : PT X (.IfExp pc pa pb pos) (fun σ H Q => tc σ H fun k H1 => if k = true then ta σ H1 Q else tb σ H1 Q) := by
  refine ⟨fun pins s σ H Q I h => ?_⟩
  show wpAny _ _ (do if ← isTrue pc X.env (eval pc X.env) then isTrue pa X.env (eval pa X.env) else isTrue pb X.env (eval pb X.env)) _ _ _
  refine wpAny_bind (wpAny_mono (hc.run pins s σ H _ I h) (fun k s1 hk => ?_) fun _ _ x => x)
  obtain ⟨H1, I1, q1⟩ := hk
  cases k with
  | true => exact ha.run pins s1 σ H1 Q I1 q1
  | false => exact hb.run pins s1 σ H1 Q I1 q1
theorem t_ite {pc pa pb : PySem.Expr} {pos : Pos} {c a b : E} (hc : PT X pc (T1 C W c)) (ha : PT X pa (T1 C W a)) (hb : PT X pb (T1 C W b)) : PT X (.IfExp pc pa pb pos) (T1 C W (.ite c a b)) := by
  refine pt_imp (pt_ifExp hc ha hb) fun σ H Q h => ?_
  obtain ⟨w, ρ, rfl, g, re, h⟩ := h
  refine goT g re (after.bind (show after C.T W σ w (((ev C.Φ c).t ρ w.st).bind fun c st => if c then (ev C.Φ a).t ρ st else (ev C.Φ b).t ρ st) _ from h)) fun w1 k f1 g1 q => ?_
  cases k with
  | true => exact ⟨w1, ρ, rfl, g1, re.mono f1, q⟩
  | false => exact ⟨w1, ρ, rfl, g1, re.mono f1, q⟩

/-! ### operators, items, slices -/
theorem bnew {w : Wd} {b : Bv} {Q : VK} (h : ∀ w', Fut w w' → Good C.T w' → w'.st = w.st → bpost C.T w' b Q) (g : Good C.T w) : bpost C.T w b Q := h w Fut.refl g rfl
theorem s_bin {p q : PySem.Expr} {op : Operator} {pos : Pos} {a b : E} (A : At C N sc fn W X) (ha : PE X p (B C W a)) (hb : PE X q (B C W b)) : PE X (.BinOp p op q pos) (B C W (.bin op a b)) := by
  refine pe_imp (pe_op (op_binB A.K op) (pe_ofB ha) (pe_ofB hb)) fun σ H Q h => ?_
  obtain ⟨w, ρ, rfl, g, re, h⟩ := h
  refine goE g re (after.bind (show after C.T W σ w ((((ev C.Φ a).b ρ w.st).d).bind fun x st => (((ev C.Φ b).b ρ st).d).bind fun y st => R.of (binB st op x y) st) _ from h)) fun w1 d v f1 g1 k rv => ?_
  refine goE g1 (re.mono f1) k.bind fun w2 e u f2 g2 k2 ru => ?_
  obtain ⟨z, hz, k3⟩ := after.of g2 k2
  exact ⟨w2, d, e, z, rfl, g2, rv.mono f2, ru, hz, bnew k3 g2⟩
theorem s_cmp {p q : PySem.Expr} {op : CmpOp} {pos : Pos} {a b : E} (A : At C N sc fn W X) (hm : behindInMarks op q = false) (ha : PE X p (B C W a)) (hb : PE X q (B C W b)) : PE X (.Compare p [op] [q] pos) (B C W (.cmp op a b)) := by
  refine pe_imp (pe_cmpR (op_cmpB A.K op) (pe_ofB ha) (pe_ofB hb) hm) fun σ H Q h => ?_
  obtain ⟨w, ρ, rfl, g, re, h⟩ := h
  refine goE g re (after.bind (show after C.T W σ w ((((ev C.Φ a).b ρ w.st).d).bind fun x st => (((ev C.Φ b).b ρ st).d).bind fun y st => (R.of (cmpB st op x y) st).bind fun c st => .ok (Bv.val (.bl c)) st) _ from h)) fun w1 d v f1 g1 k rv => ?_
  refine goE g1 (re.mono f1) k.bind fun w2 e u f2 g2 k2 ru => ?_
  obtain ⟨z, hz, k3⟩ := after.of g2 k2.bind
  exact ⟨w2, d, e, z, rfl, g2, rv.mono f2, ru, hz, (after.ok g2 (k3 w2 Fut.refl g2 rfl)).val g2 rfl⟩
theorem t_cmp {p q : PySem.Expr} {op : CmpOp} {pos : Pos} {a b : E} (A : At C N sc fn W X) (hm : behindInMarks op q = false) (ha : PE X p (B C W a)) (hb : PE X q (B C W b)) : PT X (.Compare p [op] [q] pos) (T1 C W (.cmp op a b)) := by
  refine pt_imp (pt_cmpR (op_cmpB A.K op) (pe_ofB ha) (pe_ofB hb) hm) fun σ H Q h => ?_
  obtain ⟨w, ρ, rfl, g, re, h⟩ := h
  show rdE C.T C.Φ W a σ w.H (fun x H1 => rdE C.T C.Φ W b σ H1 (fun y H2 => rC2 C.T (fun st => cmpB st op) x y H2 (fun z H3 => ∃ k, z = .bl k ∧ Q k H3)))
  refine goE g re (after.bind (show after C.T W σ w ((((ev C.Φ a).b ρ w.st).d).bind fun x st => (((ev C.Φ b).b ρ st).d).bind fun y st => R.of (cmpB st op x y) st) _ from h)) fun w1 d v f1 g1 k rv => ?_
  refine goE g1 (re.mono f1) k.bind fun w2 e u f2 g2 k2 ru => ?_
  obtain ⟨z, hz, k3⟩ := after.of g2 k2
  exact ⟨w2, d, e, z, rfl, g2, rv.mono f2, ru, hz, z, rfl, k3 w2 Fut.refl g2 rfl⟩
theorem s_neg {p : PySem.Expr} {pos : Pos} {a : E} (A : At C N sc fn W X) (ha : PE X p (B C W a)) : PE X (.UnaryOp .USub p pos) (B C W (.neg a)) := by
  refine pe_imp (pe_un (neg_of (T := C.T)) (pe_ofB ha)) fun σ H Q h => ?_
  obtain ⟨w, ρ, rfl, g, re, h⟩ := h
  refine goE g re (after.bind (show after C.T W σ w ((((ev C.Φ a).b ρ w.st).d).bind fun x st => (R.of (negB x) st).bind fun d st => .ok (Bv.val d) st) _ from h)) fun w1 d v f1 g1 k rv => ?_
  obtain ⟨z, hz, k3⟩ := after.of g1 k.bind
  exact ⟨w1, d, z, rfl, g1, rv, hz, after.ok g1 (k3 w1 Fut.refl g1 rfl)⟩
theorem s_idx {p q : PySem.Expr} {pos : Pos} {a i : E} (A : At C N sc fn W X) (hs : isSliceE q = false) (ha : PE X p (B C W a)) (hb : PE X q (B C W i)) : PE X (.Subscript p q pos) (B C W (.idx a i)) := by
  refine pe_imp (pe_ix (ix_of (T := C.T) A.K) (pe_ofB ha) (pe_ofB hb) (plainIx_of hs)) fun σ H Q h => ?_
  obtain ⟨w, ρ, rfl, g, re, h⟩ := h
  refine goE g re (after.bind (show after C.T W σ w ((((ev C.Φ a).b ρ w.st).d).bind fun x st => (((ev C.Φ i).b ρ st).d).bind fun y st => (R.of (idxB st x y) st).bind fun d st => .ok (Bv.val d) st) _ from h)) fun w1 d v f1 g1 k rv => ?_
  refine goE g1 (re.mono f1) k.bind fun w2 e u f2 g2 k2 ru => ?_
  obtain ⟨z, hz, k3⟩ := after.of g2 k2.bind
  exact ⟨w2, d, e, z, rfl, g2, rv.mono f2, ru, hz, after.ok g2 (k3 w2 Fut.refl g2 rfl)⟩
theorem s_noP : PO X none (rdP C.T C.Φ W .no) := po_imp po_none fun σ H Q h => by
  obtain ⟨w, ρ, rfl, g, re, h⟩ := h
  exact after.ok g (show after C.T W σ w (.ok none w.st) _ from h)
theorem s_P {p : PySem.Expr} {e : E} (ha : PE X p (B C W e)) (ht : (ev C.Φ e).p = fun ρ st => (((ev C.Φ e).b ρ st).d).bind fun d st => R.of (partB d) st) : PO X (some p) (rdP C.T C.Φ W e) := po_imp (po_some (pe_ofB ha)) fun σ H Q h => by
  obtain ⟨w, ρ, rfl, g, re, h⟩ := h
  rw [ht] at h
  refine goE g re h.bind fun w1 d v f1 g1 k rv => ?_
  obtain ⟨z, hz, k3⟩ := after.of g1 k
  cases d <;> first | (cases hz; done) | skip
  cases hz
  exact ⟨_, rv, k3 w1 Fut.refl g1 rfl⟩
theorem p_of {e : E} (h : isNo e = false) (Φ : Fn) : (ev Φ e).p = fun ρ st => (((ev Φ e).b ρ st).d).bind fun d st => R.of (partB d) st := by
  cases e <;> first | rfl | (cases h; done)
theorem s_slc {p : PySem.Expr} {pl ph : Option PySem.Expr} {p2 pos : Pos} {a lo hi : E} (A : At C N sc fn W X) (ha : PE X p (B C W a)) (hl : PO X pl (rdP C.T C.Φ W lo)) (hh : PO X ph (rdP C.T C.Φ W hi)) : PE X (.Subscript p (.Slice pl ph none p2) pos) (B C W (.slc a lo hi)) := by
  refine pe_imp (pe_slice (sl_of (T := C.T) A.K) (pe_ofB ha) hl hh) fun σ H Q h => ?_
  obtain ⟨w, ρ, rfl, g, re, h⟩ := h
  refine goE g re (after.bind (show after C.T W σ w ((((ev C.Φ a).b ρ w.st).d).bind fun x st => ((ev C.Φ lo).p ρ st).bind fun l st => ((ev C.Φ hi).p ρ st).bind fun h st => R.of (slcB st x l h) st) _ from h)) fun w1 d v f1 g1 k rv => ?_
  refine goP g1 (re.mono f1) k.bind fun w2 l f2 g2 k2 => ?_
  refine goP g2 ((re.mono f1).mono f2) k2.bind fun w3 u f3 g3 k3 => ?_
  obtain ⟨z, hz, k4⟩ := after.of g3 k3
  exact ⟨w3, d, z, rfl, g3, (rv.mono f2).mono f3, hz, bnew k4 g3⟩

/-! ### calls -/
theorem sp_of {f : Str} {σ : L2.St} {w : Wd} {ds : List D} {vs : List V} {Q : VK} (g : Good C.T w) (rv : Reps C.T w ds vs) (k : after C.T W σ w ((C.Φ f ds w.st).bind fun d st => .ok (Bv.val d) st) fun w' b => bpost C.T w' b Q) :
    spF C.T (C.Φ f) vs w.H Q (WE W σ) := by
  refine ⟨w, ds, rfl, g, rv, ?_⟩
  cases hr : C.Φ f ds w.st with
  | ok d st =>
    rw [hr] at k
    intro w' f' g' e' v r
    have k : ∀ w', Fut w w' → Good C.T w' → w'.st = st → bpost C.T w' (.val d) Q := k
    exact (k w' f' g' e').val g' r
  | exc c fs st =>
    rw [hr] at k
    exact k
  | stuck =>
    rw [hr] at k
    exact k
theorem s_call (O : C.Ok) (A : At C N sc fn W X) {f : Str} {p pos : Pos} {ps : List PySem.Expr} {e1 : PySem.Expr} {es : List E} (hf : f ∈ C.fns) (hg : glB sc f = true) (hst : (e1 :: ps).any isStar = false) (h : PA X (e1 :: ps) (rdEs C.T C.Φ W es)) : PE X (.Call (.Name f p) (e1 :: ps) [] pos) (B C W (.call f es)) := by
  obtain ⟨a, fd, pn, hm, hk, F, hb⟩ := O.fn f hf
  rw [← A.K, ← A.P, ← A.w, ← A.mg, ← A.base] at F
  rw [← A.K] at hk hb
  simp only [List.any_cons, Bool.or_eq_false_iff] at hst
  refine pe_imp (pe_callS F A.room (A.gl hg) (by rw [A.mg]; exact hm) hk hb (passAt A.tk) h (glB_dbg hg) (star_cons hst.1) (star_none hst.2)) fun σ H Q q => ?_
  obtain ⟨w, ρ, rfl, g, re, q⟩ := q
  exact goEs g re (after.bind (show after C.T W σ w ((evs C.Φ es ρ w.st).bind fun ds st => (C.Φ f ds st).bind fun d st => .ok (Bv.val d) st) _ from q)) fun w1 ds vs f1 g1 k rv => sp_of g1 rv k
theorem s_call0 (O : C.Ok) (A : At C N sc fn W X) {f : Str} {p pos : Pos} (hf : f ∈ C.fns) (hg : glB sc f = true) : PE X (.Call (.Name f p) [] [] pos) (B C W (.call f [])) := by
  obtain ⟨a, fd, pn, hm, hk, F, hb⟩ := O.fn f hf
  rw [← A.K, ← A.P, ← A.w, ← A.mg, ← A.base] at F
  rw [← A.K] at hk hb
  refine ⟨fun pins s σ H Q I q => ?_⟩
  obtain ⟨w, ρ, rfl, g, re, q⟩ := q
  have k := sp_of g Reps.nil (show after C.T W σ w ((C.Φ f [] w.st).bind fun d st => .ok (Bv.val d) st) _ from q)
  refine wpAny_Call_Name_kw (ld_glob I (A.gl hg) (by rw [A.mg]; exact hm) ?_ (glB_dbg hg))
  exact PySem.W.callWith_K0 I.kIn hk (run_fnSD (us := []) (dvs := []) (ds := []) (E := WE W) F A.room hb .nil (passAt A.tk σ) I .nil k)

/-! ### built-ins -/
theorem biOf_cases {b : Str} {z : Bi} (h : biOf b = some z) : (b = "len" ∧ z = .len) ∨ (b = "abs" ∧ z = .abs) ∨ (b = "max" ∧ z = .max) ∨ (b = "int" ∧ z = .int) ∨ (b = "list" ∧ z = .list) ∨ (b = "all" ∧ z = .all) ∨ (b = "tuple" ∧ z = .tuple) := by
  unfold biOf at h
  repeat' split at h
  all_goals first | (cases h; done) | skip
  all_goals cases h
  all_goals simp_all
theorem bi_go {z : Bi} {b : Str} {es : List E} (hz : biOf b = some z) {σ : L2.St} {H : Hp} {Q : VK} (q : B C W (.bi b es) σ H Q) : tCB (rBi C.T z) (rdEs C.T C.Φ W es) σ H Q := by
  obtain ⟨w, ρ, rfl, g, re, q⟩ := q
  refine goEs g re (after.bind (show after C.T W σ w ((evs C.Φ es ρ w.st).bind fun ds st => R.of ((biOf b).bind fun b => biB st b ds) st) _ from q)) fun w1 ds vs f1 g1 k rv => ?_
  rw [hz] at k
  obtain ⟨r, hr, k⟩ := after.of g1 k
  exact ⟨w1, ds, r, rfl, g1, rv, hr, bnew k g1⟩
theorem boot_len1 : bootBuiltins "len" = some (.builtin "len") := by decide +kernel
theorem boot_abs1 : bootBuiltins "abs" = some (.builtin "abs") := by decide +kernel
theorem s_bi (O : C.Ok) (A : At C N sc fn W X) {b : Str} {z : Bi} {p pos : Pos} {ps : List PySem.Expr} {e1 : PySem.Expr} {es : List E} (hz : biOf b = some z) (hf : b ∈ C.free) (hg : glB sc b = true) (hst : (e1 :: ps).any isStar = false) (h : PA X (e1 :: ps) (rdEs C.T C.Φ W es)) :
    PE X (.Call (.Name b p) (e1 :: ps) [] pos) (B C W (.bi b es)) := by
  have hm : X.mg b = none := by rw [A.mg]; exact O.fr b hf
  have hG := A.gl hg
  have hd := glB_dbg hg
  simp only [List.any_cons, Bool.or_eq_false_iff] at hst
  have ty : ∀ {Tn : String}, bootBuiltins b = some (.type Tn) → CallR X (.type Tn) (rBi C.T z) → b ≠ "__name__" → PE X (.Call (.Name b p) (e1 :: ps) [] pos) (B C W (.bi b es)) := fun hv hc hn =>
    pe_imp (pe_callTy hc hG hm hv h hn hd (star_cons hst.1) (star_none hst.2)) fun σ H Q q => bi_go hz q
  have bn : ∀ {id : String}, bootBuiltins b = some (.builtin id) → CallR X (.builtin id) (rBi C.T z) → b ≠ "__name__" → PE X (.Call (.Name b p) (e1 :: ps) [] pos) (B C W (.bi b es)) := fun hv hc hn =>
    pe_imp (pe_callB hc hG hm hv h hn hd (star_cons hst.1) (star_none hst.2)) fun σ H Q q => bi_go hz q
  rcases biOf_cases hz with ⟨rfl, rfl⟩ | ⟨rfl, rfl⟩ | ⟨rfl, rfl⟩ | ⟨rfl, rfl⟩ | ⟨rfl, rfl⟩ | ⟨rfl, rfl⟩ | ⟨rfl, rfl⟩
  · exact bn boot_len1 (bi_len A.K) (by decide)
  · exact bn boot_abs1 bi_abs (by decide)
  · exact bn boot_max (bi_max A.calm) (by decide)
  · exact ty boot_int bi_int (by decide)
  · exact ty boot_list (bi_list A.K) (by decide)
  · exact bn boot_all (bi_all A.calm A.K) (by decide)
  · exact ty boot_tuple (bi_tuple A.K) (by decide)

/-! ### methods -/
theorem mtOf_cases {b : Str} {z : Mt} (h : mtOf b = some z) : (b = "append" ∧ z = .append) ∨ (b = "join" ∧ z = .join) ∨ (b = "count" ∧ z = .count) ∨ (b = "rfind" ∧ z = .rfind) := by
  unfold mtOf at h
  repeat' split at h
  all_goals first | (cases h; done) | skip
  all_goals cases h
  all_goals simp_all
def Mt.ty : Mt → String
  | .append => "list"
  | _ => "str"
theorem recv_ty (hK : X.K = C.T.K) {m m' : Mt} {w : Wd} {d : D} {v : V} (g : Good C.T w) (rv : Rep C.T w d v) (h : recvB w.st m d = some m') : m' = m ∧ tyV X.K m.ty v w.H := by
  have txt : ∀ {m : Mt}, (asStr d).map (fun _ => m) = some m' → m' = m ∧ tyV X.K "str" v w.H := fun {m} h => by
    rw [Option.map_eq_some_iff] at h
    obtain ⟨s, h0, rfl⟩ := h
    cases asStr_inv h0
    cases rv
    exact ⟨rfl, rfl⟩
  cases m with
  | append =>
    have h : (lsOf w.st d).map (fun _ => Mt.append) = some m' := h
    rw [Option.map_eq_some_iff] at h
    obtain ⟨xs, h0, rfl⟩ := h
    obtain ⟨a, vs, rfl, r1, q1⟩ := sq_ls g h0 rv
    exact ⟨rfl, .inl ⟨rfl, vs, hK ▸ r1⟩⟩
  | join => exact txt h
  | count => exact txt h
  | rfind => exact txt h
theorem after.ofS {α : Type} {T : Tb} {σ : L2.St} {w : Wd} {o : Option (α × Store)} {k : Wd → α → Prop} (h : after T W σ w (R.ofS o) k) : ∃ a st, o = some (a, st) ∧ ∀ w', Fut w w' → Good T w' → w'.st = st → k w' a := by
  cases o with
  | none => exact h.elim
  | some p => exact ⟨p.1, p.2, rfl, h⟩
theorem mt_go {z : Mt} {m : Str} {o : E} {es : List E} (A : At C N sc fn W X) (hz : mtOf m = some z) {σ : L2.St} {H : Hp} {Q : VK} (q : B C W (.met m o es) σ H Q) : tBM X.K z.ty (rMt C.T z) (V1 C W o) (rdEs C.T C.Φ W es) σ H Q := by
  obtain ⟨w, ρ, rfl, g, re, q⟩ := q
  show V1 C W o σ w.H (fun x H1 => tyV X.K z.ty x H1 ∧ rdEs C.T C.Φ W es σ H1 (fun xs H2 => rMt C.T z x xs H2 Q))
  refine goE g re (after.bind (show after C.T W σ w ((((ev C.Φ o).b ρ w.st).d).bind fun x st => (R.of ((mtOf m).bind fun m => recvB st m x) st).bind fun m st => (evs C.Φ es ρ st).bind fun ds st => R.ofS (metB st m x ds)) _ from q)) fun w1 d v f1 g1 k rv => ?_
  rw [hz] at k
  obtain ⟨m', hm, k1⟩ := after.of g1 k.bind
  obtain ⟨rfl, ty⟩ := recv_ty A.K g1 rv hm
  refine ⟨ty, goEs g1 (re.mono f1) (k1 w1 Fut.refl g1 rfl).bind fun w2 ds vs f2 g2 k2 rvs => ?_⟩
  obtain ⟨r, st', hr, k3⟩ := after.ofS k2
  exact ⟨w2, d, ds, r, st', rfl, g2, rv.mono f2, rvs, hr, k3⟩
theorem s_met (A : At C N sc fn W X) {m : Str} {z : Mt} {o : E} {po : PySem.Expr} {apos cpos : Pos} {ps : List PySem.Expr} {e1 : PySem.Expr} {es : List E} (hz : mtOf m = some z) (hb : plainBase po = true) (hl : apos.endLine = cpos.line) (hn : (e1 :: ps).length < 29)
    (hst : (e1 :: ps).any isStar = false) (ho : PE X po (B C W o)) (h : PA X (e1 :: ps) (rdEs C.T C.Φ W es)) : PE X (.Call (.Attribute po m apos) (e1 :: ps) [] cpos) (B C W (.met m o es)) := by
  have hall := star_all (env := X.env) (pos := cpos) hst
  simp only [List.any_cons, Bool.or_eq_false_iff] at hst
  have hfew : ((backTo cpos (starEach (e1 :: ps) X.env)).all (fun x => !x.1) && (backToKw cpos (keywordEach [] X.env)).all (fun x => x.1.isSome)
      && decide ((e1 :: ps).length + ([] : List Keyword).length + (if ([] : List Keyword).isEmpty then 0 else 1) < 30)) = true := by
    rw [hall]
    have : decide ((e1 :: ps).length + ([] : List Keyword).length + (if ([] : List Keyword).isEmpty then 0 else 1) < 30) = true := decide_eq_true (by simp at hn ⊢; omega)
    rw [this]; rfl
  have hline : (apos.endLine == cpos.line) = true := by rw [hl]; simp
  have go : ∀ {T id : String} (pa : PlainAttrs T) (slot : Slot T m id) (hty : typeOf (.builtin id) = pure (.type "method_descriptor")) (hm : MtR X id (rMt C.T z)) (ht : z.ty = T), PE X (.Call (.Attribute po m apos) (e1 :: ps) [] cpos) (B C W (.met m o es)) := fun pa slot hty hm ht =>
    pe_imp (pe_bm pa slot hty hm (pe_ofB ho) h (base_of hb) hfew hline (star_cons hst.1) (star_none hst.2)) fun σ H Q q => ht ▸ mt_go A hz q
  rcases mtOf_cases hz with ⟨rfl, rfl⟩ | ⟨rfl, rfl⟩ | ⟨rfl, rfl⟩ | ⟨rfl, rfl⟩
  · exact go PySem.F.plainAttrs_list PySem.F.slot_list_append PySem.F.type_list_append mt_appendB rfl
  · exact go PySem.F.plainAttrs_str PySem.F.slot_str_join PySem.F.type_str_join (mt_joinB A.K) rfl
  · exact go PySem.F.plainAttrs_str PySem.F.slot_str_count PySem.F.type_str_count mt_countB rfl
  · exact go PySem.F.plainAttrs_str PySem.F.slot_str_rfind PySem.F.type_str_rfind mt_rfindB rfl

/-! ### isinstance -/
theorem boot_ty {t : Ty} (h : t ≠ .non) : bootBuiltins (Str.ofString t.name) = some (.type t.name) := by
  cases t
  · exact absurd rfl h
  · exact boot_bool
  · exact boot_int
  · exact boot_str
  · exact boot_tuple
  · exact boot_list
theorem s_isi (O : C.Ok) (A : At C N sc fn W X) {t : Ty} {a : E} {p : PySem.Expr} {p1 p2 pos : Pos} (ht : t ≠ .non) (hg : glB sc "isinstance" = true) (hf : Str.ofString "isinstance" ∈ C.free) (hgu : glB sc (Str.ofString t.name) = true) (hfu : Str.ofString t.name ∈ C.free)
    (hs : isStar p = false) (ha : PE X p (B C W a)) : PE X (.Call (.Name "isinstance" p1) [p, .Name (Str.ofString t.name) p2] [] pos) (B C W (.isi a t)) := by
  have hu : PE X (.Name (Str.ofString t.name) p2) (tC (.ty t.name)) := pe_bltn (A.gl hgu) (by rw [A.mg]; exact O.fr _ hfu) (boot_ty ht) rfl (by cases t <;> decide) (glB_dbg hgu)
  refine pe_imp (pe_callB call_isi (A.gl hg) (by rw [A.mg]; exact O.fr _ hf) boot_isinstance (pa_cons (pe_ofB ha) (pa_cons hu pa_nil) (star_cons hs)) (by decide) (glB_dbg hg) (star_cons hs) rfl) fun σ H Q q => ?_
  obtain ⟨w, ρ, rfl, g, re, q⟩ := q
  show V1 C W a σ w.H (fun x H1 => rIsi X.K [x, .ty t.name] H1 Q)
  refine goE g re (after.bind (show after C.T W σ w ((((ev C.Φ a).b ρ w.st).d).bind fun x st => (R.of (tyB st x) st).bind fun u st => .ok (Bv.val (.bl (u.is t))) st) _ from q)) fun w1 d v f1 g1 k rv => ?_
  obtain ⟨u, hu, k⟩ := after.of g1 k.bind
  exact ⟨v, _, _, _, _, rfl, .ty _, ty_of A.K g1 rv hu, kit_of_ty _ u t, (after.ok g1 (k w1 Fut.refl g1 rfl)).val g1 rfl⟩
end
end Ip

set_option Elab.async false
set_option linter.all false
set_option maxRecDepth 100000
set_option autoImplicit false
/-! Targets, walks, comprehensions; expressions at large. -/
namespace Ip
open PySem PySem.Spec PyProof.Rows L2

section
variable {C : Cfg} {N : List Str} {sc : Scope} {fn : Str → Bool} {W : WX} {X : Cx}

/-! ### targets -/
theorem EnvRep.set {T : Tb} {w : Wd} {ρ : Env} {σ : L2.St} {d : D} {v : V} (h : EnvRep T w ρ σ) (r : Rep T w d v) (i : Nat) : EnvRep T w (ρ.set i (some d)) (σ.set i (some v)) := by
  refine ⟨by simp [h.1], fun j e hj => ?_⟩
  by_cases e1 : i = j
  · subst e1
    have hl : i < ρ.length := by simpa using (List.getElem?_eq_some_iff.mp hj).1
    rw [List.getElem?_set_self hl] at hj
    cases hj
    exact ⟨v, List.getElem?_set_self (by rw [← h.1]; exact hl), r⟩
  · rw [List.getElem?_set_ne e1] at hj ⊢
    exact h.2 j e hj
theorem EnvRep.none {T : Tb} {w : Wd} {ρ : Env} {σ : L2.St} (h : EnvRep T w ρ σ) (i : Nat) (o : Option V) : EnvRep T w (ρ.set i none) (σ.set i o) := by
  refine ⟨by simp [h.1], fun j e hj => ?_⟩
  by_cases e1 : i = j
  · subst e1
    have hl : i < ρ.length := by simpa using (List.getElem?_eq_some_iff.mp hj).1
    rw [List.getElem?_set_self hl] at hj
    cases hj
  · rw [List.getElem?_set_ne e1] at hj ⊢
    exact h.2 j e hj
/-- the slots but these are as they were -/
def Apart (σ σ' : L2.St) (l : List Nat) : Prop := σ'.length = σ.length ∧ ∀ i, i ∉ l → σ'[i]? = σ[i]?
theorem Apart.trans {a b c : L2.St} {l l' : List Nat} (h : Apart a b l) (k : Apart b c l') : Apart a c (l ++ l') := ⟨k.1.trans h.1, fun i hi => (k.2 i fun z => hi (List.mem_append_right _ z)).trans (h.2 i fun z => hi (List.mem_append_left _ z))⟩
theorem apart_set (σ : L2.St) (i : Nat) (o : Option V) : Apart σ (σ.set i o) [i] := ⟨by simp, fun j hj => List.getElem?_set_ne (fun e => hj (by simp [e]))⟩
/-- what a target asks, and what it stores -/
def gT (T : Tb) (t : Tg) : TG := fun v σ H Q => ∃ w d ρ ρ', w.H = H ∧ Good T w ∧ EnvRep T w ρ σ ∧ Rep T w d v ∧ bindT w.st t d ρ = some ρ' ∧ ∀ σ', EnvRep T w ρ' σ' → Apart σ σ' t.slots → Q σ' H
def gTs (T : Tb) (ts : List Tg) : TGs := fun vs σ H Q => ∃ w ds ρ ρ', w.H = H ∧ Good T w ∧ EnvRep T w ρ σ ∧ Reps T w ds vs ∧ bindTs w.st ts ds ρ = some ρ' ∧ ∀ σ', EnvRep T w ρ' σ' → Apart σ σ' (slotsAll ts) → Q σ' H
theorem pg_imp {e : Expr} {t t' : TG} (h : PG X e t) (k : ∀ v σ H Q, t' v σ H Q → t v σ H Q) : PG X e t' := ⟨fun pins s σ H v u Q I r q => h.run pins s σ H v u Q I r (k _ _ _ _ q)⟩
theorem pgs_imp {e : List Expr} {t t' : TGs} (h : PGs X e t) (k : ∀ v σ H Q, t' v σ H Q → t v σ H Q) : PGs X e t' := ⟨fun pins s σ H v u Q I r q => h.run pins s σ H v u Q I r (k _ _ _ _ q)⟩
theorem pg_or {e : Expr} {t t' : TG} (h : PG X e t) (h' : PG X e t') : PG X e (fun v σ H Q => t v σ H Q ∨ t' v σ H Q) := ⟨fun pins s σ H v u Q I r q => q.elim (fun q => h.run pins s σ H v u Q I r q) fun q => h'.run pins s σ H v u Q I r q⟩
theorem assignEach_cons {p : PySem.Expr} {ps : List PySem.Expr} {env : PySem.Env} (h : isStar p = false) : assignEach (p :: ps) env = (false, assign p env) :: assignEach ps env := by
  cases p <;> first | rfl | (cases h; done)
theorem okTs_len {ts : List Tg} {ps : List PySem.Expr} (h : okTs sc fn N ts ps = true) : ts.length = ps.length := by
  induction ts generalizing ps with
  | nil => cases ps with
    | nil => rfl
    | cons _ _ => simp [okTs] at h
  | cons t ts ih => cases ps with
    | nil => simp [okTs] at h
    | cons p ps =>
      simp only [okTs, Bool.and_eq_true] at h
      simp [ih h.2.2]
theorem okTs_assign {ts : List Tg} {ps : List PySem.Expr} {env : PySem.Env} (h : okTs sc fn N ts ps = true) : (assignEach ps env).length = ts.length ∧ (assignEach ps env).findIdx? (·.1) = Option.none := by
  induction ts generalizing ps with
  | nil => cases ps with
    | nil => exact ⟨rfl, rfl⟩
    | cons _ _ => simp [okTs] at h
  | cons t ts ih => cases ps with
    | nil => simp [okTs] at h
    | cons p ps =>
      simp only [okTs, Bool.and_eq_true, Bool.not_eq_true'] at h
      obtain ⟨h1, h2⟩ := ih h.2.2
      rw [assignEach_cons h.2.1]
      refine ⟨by simp [h1], ?_⟩
      rw [List.findIdx?_cons]
      simp [h2]
theorem bindTs_len {st : Store} : ∀ {ts : List Tg} {ds : List D} {ρ ρ' : Env}, bindTs st ts ds ρ = some ρ' → ts.length = ds.length
  | [], [], _, _, _ => rfl
  | [], _ :: _, _, _, h => by simp [bindTs] at h
  | _ :: _, [], _, _, h => by simp [bindTs] at h
  | t :: ts, d :: ds, ρ, ρ', h => by
    simp only [bindTs] at h
    split at h
    · simp [bindTs_len h]
    · cases h
mutual
theorem s_tg (A : At C N sc fn W X) : ∀ {t : Tg} {p : PySem.Expr}, okT sc fn N t p = true → PG X p (gT C.T t)
  | .name i, p, h => by
    cases p <;> first | (simp [okT] at h; done) | skip
    rename_i x pos
    simp only [okT, Bool.and_eq_true, Bool.or_eq_true, decide_eq_true_eq] at h
    obtain ⟨h1, h2⟩ := h
    have hl : Loc X.env.scope x := by
      rw [A.sc]
      rcases h2 with z | z
      · exact .inl z
      · exact .inr z.1
    have hf : X.fn x = true ∨ X.env.scope.names.lookup x = some .local := by
      rw [A.sc, A.fn]
      rcases h2 with z | z
      · exact .inr z
      · exact .inl z.2
    refine pg_imp (pg_name (i := i) A.nd (by rw [A.N]; exact h1) hl hf) fun v σ H Q q => ?_
    obtain ⟨w, d, ρ, ρ', rfl, g, re, r, hb, q⟩ := q
    simp only [bindT, Option.some.injEq] at hb
    subst hb
    exact q _ (re.set r i) (apart_set _ _ _)
  | .tup ts, p, h => by
    cases p <;> first | (simp [okT] at h; done) | skip
    rename_i ps k pos
    have h : okTs sc fn N ts ps = true := by simpa only [okT] using h
    obtain ⟨a1, a2⟩ := okTs_assign (env := X.env) h
    refine pg_imp (pg_or (pg_tup A.calm (s_tgs A h) a1 a2) (pg_lst A.calm (s_tgs A h) a1 a2)) fun v σ H Q q => ?_
    obtain ⟨w, d, ρ, ρ', rfl, g, re, r, hb, q⟩ := q
    simp only [bindT] at hb
    split at hb
    · rename_i xs hx
      have hlen := bindTs_len hb
      obtain ⟨a, vs, rfl, r1, rs⟩ := sq_sq g hx r
      have go : gTs C.T ts vs σ w.H Q := ⟨w, xs, ρ, ρ', rfl, g, re, rs, hb, q⟩
      rcases r1 with r1 | r1
      · exact .inr ⟨a, vs, rfl, A.K ▸ r1, by rw [← rs.length, hlen], go⟩
      · exact .inl ⟨a, vs, rfl, A.K ▸ r1, by rw [← rs.length, hlen], go⟩
    · cases hb
theorem s_tgs (A : At C N sc fn W X) : ∀ {ts : List Tg} {ps : List PySem.Expr}, okTs sc fn N ts ps = true → PGs X ps (gTs C.T ts)
  | [], ps, h => by
    cases ps with
    | cons _ _ => simp [okTs] at h
    | nil =>
      refine pgs_imp pgs_nil fun vs σ H Q q => ?_
      obtain ⟨w, ds, ρ, ρ', rfl, g, re, r, hb, q⟩ := q
      cases ds with
      | cons _ _ => simp [bindTs] at hb
      | nil =>
        simp only [bindTs, Option.some.injEq] at hb
        subst hb
        exact ⟨r, q _ re ⟨rfl, fun _ _ => rfl⟩⟩
  | t :: ts, ps, h => by
    cases ps with
    | nil => simp [okTs] at h
    | cons p ps =>
      simp only [okTs, Bool.and_eq_true, Bool.not_eq_true'] at h
      refine pgs_imp (pgs_cons (s_tg A h.1) (s_tgs A h.2.2) (by rw [assignEach_cons h.2.1]; rfl)) fun vs σ H Q q => ?_
      obtain ⟨w, ds, ρ, ρ', rfl, g, re, r, hb, q⟩ := q
      cases ds with
      | nil => simp [bindTs] at hb
      | cons d ds =>
        obtain ⟨v, vs, rfl, r1, r2⟩ := r
        simp only [bindTs] at hb
        split at hb
        · rename_i ρ1 h1
          exact ⟨v, vs, rfl, w, d, ρ, ρ1, rfl, g, re, r1, h1, fun σ1 re1 ap1 => ⟨w, ds, ρ1, ρ', rfl, g, re1, r2, hb, fun σ2 re2 ap2 => q σ2 re2 (ap1.trans ap2)⟩⟩
        · cases hb
end

/-! ### walks -/
structure WalkOK (T : Tb) (J : L2.It) (w0 : Wd) (t : Its) : Prop where
  turn : ∀ (w : Wd) (i : Nat) (d : D), Le w0 w → Good T w → t.ok w.st = true → t.items[i]? = some d → J.go i w.H ∧ ∀ x H', J.yld i w.H x H' → (∃ u p, H' = upd w.H p u ∧ w.H p = none ∧ Rep T { w with H := H' } d x) ∨ (H' = w.H ∧ Rep T w d x)
  done : ∀ w, Le w0 w → Good T w → t.ok w.st = true → J.stop t.items.length w.H
def rdI (T : Tb) (Φ : Fn) (W : WX) (it : It) : TI := fun σ H R => ∃ w ρ, w.H = H ∧ Good T w ∧ EnvRep T w ρ σ ∧ after T W σ w (evI Φ it ρ w.st) fun w' t => ∀ J, WalkOK T J w' t → R J w'.H
theorem pi_imp {tg e : Expr} {t t' : TI} (h : PI X tg e t) (k : ∀ σ H Q, t' σ H Q → t σ H Q) : PI X tg e t' := ⟨fun pins s σ H Q I q => h.run pins s σ H Q I (k _ _ _ q)⟩
/-- over a value that is a list, a tuple or a text -/
def iAny (K : PySem.W.Frag) (te : TE) : TI := fun σ H R => te σ H fun x H1 =>
  (∃ a, x = .ref a ∧ (∃ xs, SqL K H1 a xs) ∧ R (Itl K a) H1) ∨ (∃ a, x = .ref a ∧ (∃ xs, SqT K H1 a xs) ∧ R (Itt K a) H1) ∨ (∃ z, x = .str z ∧ R (L2.Its z) H1)
theorem pi_any {tg l : Expr} {tl : TE} (hl : PE X l tl) : PI X tg l (iAny X.K tl) := by
  refine ⟨fun pins s σ H R I h => ?_⟩
  refine thn (hl.run pins s σ H _ I h) fun v s1 ⟨x, H1, I1, r1, q1⟩ => ?_
  rcases q1 with ⟨a, e, ⟨xs, hq⟩, q⟩ | ⟨a, e, ⟨xs, hq⟩, q⟩ | ⟨z, e, q⟩
  · subst e
    cases r1
    obtain ⟨its, rv, p, hz⟩ := I1.list hq
    refine wpAny_pyIter_list p.isList ?_
    refine ⟨s1.heap.objs.size, [s1.heap.objs.size], _, _, H1, rfl, I1.kept (t' := s1.toks) fun b o e => Heap.get?_push_of_some _ e, turn_list a _, ⟨_, Heap.get?_push_size _ rfl, rfl, rfl⟩, fun b hb => ?_, q⟩
    have e : b = s1.heap.objs.size := by simpa using hb
    subst e
    exact I1.fpOk (Nat.le_refl _) (I1.hok.fresh (Nat.le_refl _))
  · subst e
    cases r1
    obtain ⟨its, rv, p, hz⟩ := I1.tuple hq
    refine wpAny_pyIter_tuple (show s1.heap.IsTuple a its.toArray from p) ?_
    refine ⟨s1.heap.objs.size, [s1.heap.objs.size], _, _, H1, rfl, I1.kept (t' := s1.toks) fun b o e => Heap.get?_push_of_some _ e, turn_tuple a _, ⟨_, Heap.get?_push_size _ rfl, rfl, rfl⟩, fun b hb => ?_, q⟩
    have e : b = s1.heap.objs.size := by simpa using hb
    subst e
    exact I1.fpOk (Nat.le_refl _) (I1.hok.fresh (Nat.le_refl _))
  · subst e
    obtain ⟨t, rfl⟩ := r1
    cases ha : z.cps.all (· < 128)
    · exact wpAny_pyIter_wide ha (pi_one (tk := s1.toks) I1 _ (turn_str _ z t "str_iterator" (.inr rfl)) ⟨_, Heap.get?_push_size _ rfl, rfl, rfl⟩ q)
    · exact wpAny_pyIter_ascii ha (pi_one (tk := s1.toks) I1 _ (turn_str _ z t "str_ascii_iterator" (.inl rfl)) ⟨_, Heap.get?_push_size _ rfl, rfl, rfl⟩ q)

theorem Its.okOf {t : Its} {st : Store} {i : Nat} {xs : List D} (h : t.ok st = true) (hm : (i, xs) ∈ t.watch) : st[i]? = some (.lst xs) := of_decide_eq_true (List.all_eq_true.mp h _ hm)
/-- where a list is read, now and later -/
theorem ls_stays {T : Tb} {w0 : Wd} (g0 : Good T w0) {d : D} {v : V} {t : Its} (hd : isLs d = true) (hi : itsOf w0.st d = some t) (r : Rep T w0 d v) :
    ∃ a, v = .ref a ∧ (∃ vs, Rd w0.H a (.lst vs)) ∧ ∀ w, Le w0 w → Good T w → t.ok w.st = true → ∃ vs, Rd w.H a (.lst vs) ∧ Reps T w t.items vs := by
  cases d <;> first | (cases hd; done) | skip
  · rename_i xs
    cases hi
    obtain ⟨a, vs, rfl, z, rs⟩ := r
    exact ⟨a, rfl, ⟨vs, z.1⟩, fun w f g _ => ⟨vs, (f.fz _ _ z).1, Reps.leR f rs⟩⟩
  · rename_i i
    simp only [itsOf] at hi
    split at hi
    · rename_i xs hx
      cases hi
      obtain ⟨a, ea, rfl, vs, hH, rs⟩ := g0.stOf hx (fun z => nomatch z) r
      refine ⟨a, rfl, ⟨vs, .inl hH⟩, fun w f g k => ?_⟩
      have hx' := Its.okOf (i := i) (xs := xs) k (by simp)
      obtain ⟨a', ea'⟩ := g.alive i _ hx' (fun z => nomatch z)
      rcases f.eta i _ ea with z | z
      · rw [ea'] at z
        cases z
        obtain ⟨o, ho, r'⟩ := g.at_ i a ea'
        rw [hx'] at ho
        cases ho
        obtain ⟨vs', h1, h2⟩ := r'
        exact ⟨vs', .inl h1, h2⟩
      · rw [ea'] at z; cases z
    · cases hi
theorem walk_ls {T : Tb} {w0 : Wd} {a : Addr} {t : Its} (h : ∀ w, Le w0 w → Good T w → t.ok w.st = true → ∃ vs, Rd w.H a (.lst vs) ∧ Reps T w t.items vs) : WalkOK T (Itl T.K a) w0 t where
  turn := fun w i d f g k e => by
    obtain ⟨vs, h1, h2⟩ := h w f g k
    obtain ⟨v, h3, h4⟩ := h2.get e
    have W := walk_list (K := T.K) (a := a) (xs := vs)
    have hi : i < vs.length := (List.getElem?_eq_some_iff.mp h3).1
    refine ⟨W.goes i w.H hi (.inl h1), fun x H' y => .inr ?_⟩
    obtain ⟨e1, e2⟩ := W.yields i w.H x H' hi (.inl h1) y
    rw [h3] at e2
    cases e2
    exact ⟨e1, h4⟩
  done := fun w f g k => by
    obtain ⟨vs, h1, h2⟩ := h w f g k
    have W := walk_list (K := T.K) (a := a) (xs := vs)
    have := W.stops w.H (.inl h1)
    rw [← h2.length] at this
    exact this
theorem walk_tp {T : Tb} {w0 : Wd} {a : Addr} {xs : List D} {vs : List V} (h : w0.Fz a (.tup vs) ∨ KTup T.K a vs) (r : Reps T w0 xs vs) : WalkOK T (Itt T.K a) w0 ⟨xs, []⟩ where
  turn := fun w i d f g k e => by
    have sq : SqT T.K w.H a vs := by
      rcases h with h | h
      · exact .inl (f.fz _ _ h).1
      · exact .inr h
    obtain ⟨v, h3, h4⟩ := (Reps.leR f r).get e
    have W := walk_tup (K := T.K) (a := a) (xs := vs)
    have hi : i < vs.length := (List.getElem?_eq_some_iff.mp h3).1
    refine ⟨W.goes i w.H hi sq, fun x H' y => .inr ?_⟩
    obtain ⟨e1, e2⟩ := W.yields i w.H x H' hi sq y
    rw [h3] at e2
    cases e2
    exact ⟨e1, h4⟩
  done := fun w f g k => by
    have sq : SqT T.K w.H a vs := by
      rcases h with h | h
      · exact .inl (f.fz _ _ h).1
      · exact .inr h
    have := (walk_tup (K := T.K) (a := a) (xs := vs)).stops w.H sq
    rw [← r.length] at this
    exact this
theorem walk_st {T : Tb} {w0 : Wd} {z : Str} : WalkOK T (L2.Its z) w0 ⟨signs z, []⟩ where
  turn := fun w i d f g k e => by
    have e : (z.cps.toList.map fun c => D.str ⟨#[c]⟩)[i]? = some d := e
    rw [List.getElem?_map, Option.map_eq_some_iff] at e
    obtain ⟨c, h1, h2⟩ := e
    have hi : i < z.cps.size := by simpa using (List.getElem?_eq_some_iff.mp h1).1
    refine ⟨(walk_str (z := z)).goes i w.H hi trivial, fun x H' y => .inr ?_⟩
    obtain ⟨e1, c', e2, e3⟩ := (walk_str (z := z)).yields i w.H x H' hi trivial y
    have h1' : z.cps[i]? = some c := by simpa using h1
    rw [h1'] at e2
    cases e2
    subst h2
    exact ⟨e1, e3⟩
  done := fun w f g k => by
    have := (walk_str (z := z)).stops w.H trivial
    simpa [signs] using this
theorem upto_get : ∀ {n i : Nat} {lo : Int} {d : D}, (upto lo n)[i]? = some d → i < n ∧ d = .int (lo + i)
  | 0, _, _, _, h => by simp [upto] at h
  | n + 1, 0, lo, d, h => by simp [upto] at h; exact ⟨by omega, by rw [← h]; simp⟩
  | n + 1, i + 1, lo, d, h => by
    have h : (upto (lo + 1) n)[i]? = some d := by simpa [upto] using h
    obtain ⟨h1, h2⟩ := upto_get h
    exact ⟨by omega, by rw [h2]; congr 1; omega⟩
theorem upto_len : ∀ {n : Nat} {lo : Int}, (upto lo n).length = n
  | 0, _ => rfl
  | n + 1, lo => by simp [upto, upto_len]
theorem walk_rg {T : Tb} {w0 : Wd} {lo : Int} {n : Nat} : WalkOK T (Itr lo n) w0 ⟨upto lo n, []⟩ where
  turn := fun w i d f g k e => by
    obtain ⟨h1, h2⟩ := upto_get e
    refine ⟨(walk_range (lo := lo) (n := n)).goes i w.H h1 trivial, fun x H' y => .inr ?_⟩
    obtain ⟨e1, e2⟩ := (walk_range (lo := lo) (n := n)).yields i w.H x H' h1 trivial y
    subst h2
    exact ⟨e1, e2⟩
  done := fun w f g k => by
    have := (walk_range (lo := lo) (n := n)).stops w.H trivial
    show (Itr lo n).stop (upto lo n).length w.H
    rw [upto_len]; exact this
theorem numbered_get : ∀ {xs : List D} {k i : Nat} {d : D}, (numbered k xs)[i]? = some d → ∃ x, xs[i]? = some x ∧ d = .tup [.int (k + i : Nat), x]
  | [], _, _, _, h => by simp [numbered] at h
  | x :: xs, k, 0, d, h => by simp [numbered] at h; exact ⟨x, rfl, by rw [← h]; simp⟩
  | x :: xs, k, i + 1, d, h => by
    have h : (numbered (k + 1) xs)[i]? = some d := by simpa [numbered] using h
    obtain ⟨y, h1, h2⟩ := numbered_get h
    exact ⟨y, by simpa using h1, by rw [h2]; congr 3; omega⟩
theorem numbered_len : ∀ {xs : List D} {k : Nat}, (numbered k xs).length = xs.length
  | [], _ => rfl
  | x :: xs, k => by simp [numbered, numbered_len]
/-- a new pair -/
theorem pair_new {T : Tb} {w : Wd} (g : Good T w) {p : Addr} {x y : V} {d e : D} (hp : w.H p = Option.none) (r1 : Rep T w d x) (r2 : Rep T w e y) : Rep T { w with H := upd w.H p (.tup [x, y]) } (.tup [d, e]) (.ref p) :=
  Rep.tup_new g hp (Reps.cons r1 (Reps.cons r2 Reps.nil))
theorem walk_en {T : Tb} {w0 : Wd} {a : Addr} {t : Its} (h : ∀ w, Le w0 w → Good T w → t.ok w.st = true → ∃ vs, Rd w.H a (.lst vs) ∧ Reps T w t.items vs) : WalkOK T (Ite T.K a) w0 ⟨numbered 0 t.items, t.watch⟩ where
  turn := fun w i d f g k e => by
    obtain ⟨vs, h1, h2⟩ := h w f g k
    obtain ⟨z, ez, rfl⟩ := numbered_get e
    obtain ⟨v, h3, h4⟩ := h2.get ez
    have W := walk_enum (K := T.K) (a := a) (xs := vs)
    have hi : i < vs.length := (List.getElem?_eq_some_iff.mp h3).1
    refine ⟨W.goes i w.H hi (.inl h1), fun x H' y => .inl ?_⟩
    obtain ⟨p, x1, y1, rfl, hp, rfl, e1, e2⟩ := W.yields i w.H x H' hi (.inl h1) y
    have e2 : vs[i]? = some y1 := e2
    rw [h3] at e2
    cases e2
    cases e1
    refine ⟨_, p, rfl, hp, ?_⟩
    exact pair_new g hp (show Rep T w (.int ((0 + i : Nat) : Int)) (.int (i : Nat)) by rw [Nat.zero_add]; exact rfl) h4
  done := fun w f g k => by
    obtain ⟨vs, h1, h2⟩ := h w f g k
    have := (walk_enum (K := T.K) (a := a) (xs := vs)).stops w.H (.inl h1)
    show (Ite T.K a).stop (numbered 0 t.items).length w.H
    rw [numbered_len, h2.length]
    exact this
theorem pairs_get : ∀ {xs ys : List D} {i : Nat} {d : D}, (pairs xs ys)[i]? = some d → ∃ x y, xs[i]? = some x ∧ ys[i]? = some y ∧ d = .tup [x, y]
  | [], _, _, _, h => by simp [pairs] at h
  | _ :: _, [], _, _, h => by simp [pairs] at h
  | x :: xs, y :: ys, 0, d, h => by simp [pairs] at h; exact ⟨x, y, rfl, rfl, h.symm⟩
  | x :: xs, y :: ys, i + 1, d, h => by
    have h : (pairs xs ys)[i]? = some d := by simpa [pairs] using h
    obtain ⟨a, b, h1, h2, h3⟩ := pairs_get h
    exact ⟨a, b, by simpa using h1, by simpa using h2, h3⟩
theorem pairs_len : ∀ {xs ys : List D}, (pairs xs ys).length = min xs.length ys.length
  | [], _ => by simp [pairs]
  | _ :: _, [] => by simp [pairs]
  | x :: xs, y :: ys => by simp only [pairs, List.length_cons, pairs_len]; omega
theorem ok_left {t u : Its} {xs : List D} {st : Store} (h : (Its.mk xs (t.watch ++ u.watch)).ok st = true) : t.ok st = true ∧ u.ok st = true := by
  unfold Its.ok at h ⊢
  rw [List.all_append, Bool.and_eq_true] at h
  exact h
theorem walk_zp {T : Tb} {w0 : Wd} {a b : Addr} {t u : Its} (h : ∀ w, Le w0 w → Good T w → t.ok w.st = true → ∃ vs, Rd w.H a (.lst vs) ∧ Reps T w t.items vs)
    (h' : ∀ w, Le w0 w → Good T w → u.ok w.st = true → ∃ vs, Rd w.H b (.lst vs) ∧ Reps T w u.items vs) : WalkOK T (Itz T.K a b) w0 ⟨pairs t.items u.items, t.watch ++ u.watch⟩ where
  turn := fun w i d f g k e => by
    obtain ⟨k1, k2⟩ := ok_left k
    obtain ⟨vs, h1, h2⟩ := h w f g k1
    obtain ⟨us, h1', h2'⟩ := h' w f g k2
    obtain ⟨z, z', ez, ez', rfl⟩ := pairs_get e
    obtain ⟨v, h3, h4⟩ := h2.get ez
    obtain ⟨v', h3', h4'⟩ := h2'.get ez'
    have W := walk_zip (K := T.K) (a := a) (b := b) (xs := vs) (ys := us) (n := min vs.length us.length) rfl
    have hi : i < vs.length := (List.getElem?_eq_some_iff.mp h3).1
    have hi' : i < us.length := (List.getElem?_eq_some_iff.mp h3').1
    have sq : SqL T.K w.H a vs ∧ SqL T.K w.H b us := ⟨.inl h1, .inl h1'⟩
    refine ⟨W.goes i w.H (by omega) sq, fun x H' y => .inl ?_⟩
    obtain ⟨p, x1, y1, rfl, hp, rfl, e1, e2⟩ := W.yields i w.H x H' (by omega) sq y
    have e1 : vs[i]? = some x1 := e1
    have e2 : us[i]? = some y1 := e2
    rw [h3] at e1
    rw [h3'] at e2
    cases e1
    cases e2
    exact ⟨_, p, rfl, hp, pair_new g hp h4 h4'⟩
  done := fun w f g k => by
    obtain ⟨k1, k2⟩ := ok_left k
    obtain ⟨vs, h1, h2⟩ := h w f g k1
    obtain ⟨us, h1', h2'⟩ := h' w f g k2
    have := (walk_zip (K := T.K) (a := a) (b := b) (xs := vs) (ys := us) (n := min vs.length us.length) rfl).stops w.H ⟨.inl h1, .inl h1'⟩
    show (Itz T.K a b).stop (pairs t.items u.items).length w.H
    rw [pairs_len, h2.length, h2'.length]
    exact this
theorem i_seq {tg p : PySem.Expr} {e : E} (A : At C N sc fn W X) (h : PE X p (B C W e)) : PI X tg p (rdI C.T C.Φ W (.seq e)) := by
  refine pi_imp (pi_any (pe_ofB h)) fun σ H J2 q => ?_
  obtain ⟨w, ρ, rfl, g, re, q⟩ := q
  refine goE g re (after.bind (show after C.T W σ w ((((ev C.Φ e).b ρ w.st).d).bind fun d st => R.of (itsOf st d) st) _ from q)) fun w1 d v f1 g1 k rv => ?_
  obtain ⟨t, ht, k⟩ := after.of g1 k
  have k := k w1 Fut.refl g1 rfl
  have ls : isLs d = true → (∃ a, v = .ref a ∧ (∃ xs, SqL X.K w1.H a xs) ∧ J2 (Itl X.K a) w1.H) := fun hd => by
    obtain ⟨a, rfl, ⟨vs, hv⟩, hw⟩ := ls_stays g1 hd ht rv
    refine ⟨a, rfl, ⟨vs, .inl hv⟩, ?_⟩
    rw [A.K]
    exact k _ (walk_ls hw)
  cases d with
  | lst xs => exact .inl (ls rfl)
  | ref i => exact .inl (ls rfl)
  | tup xs =>
    cases ht
    obtain ⟨a, vs, rfl, z, rs⟩ := rv
    obtain ⟨_, _, e1, sq, _⟩ := sq_tup (T := C.T) (xs := xs) (v := .ref a) ⟨a, vs, rfl, z, rs⟩
    cases e1
    refine .inr (.inl ⟨a, rfl, ⟨_, A.K ▸ sq⟩, ?_⟩)
    rw [A.K]
    exact k _ (walk_tp z rs)
  | str s =>
    cases ht
    exact .inr (.inr ⟨s, rv, k _ walk_st⟩)
  | _ => cases ht
theorem small_of {i : Int} (h : smallI i = true) : -(2 ^ 62) ≤ i ∧ i < 2 ^ 62 := of_decide_eq_true h
theorem i_rng1 {tg p : PySem.Expr} {p1 pos : Pos} {e : E} (O : C.Ok) (A : At C N sc fn W X) (hg : glB sc "range" = true) (hf : Str.ofString "range" ∈ C.free) (hs : isStar p = false) (h : PE X p (B C W e)) : PI X tg (.Call (.Name "range" p1) [p] [] pos) (rdI C.T C.Φ W (.rng1 e)) := by
  refine pi_imp (pi_range1 (A.gl hg) (by rw [A.mg]; exact O.fr _ hf) (pa_cons (pe_ofB h) pa_nil (star_cons hs)) (star_cons hs)) fun σ H J2 q => ?_
  obtain ⟨w, ρ, rfl, g, re, q⟩ := q
  have q : after C.T W σ w ((((ev C.Φ e).b ρ w.st).d).bind fun d st => (R.of (rngOf [d]) st).bind fun xs st => .ok (Ip.Its.mk xs []) st) fun w' t => ∀ (J : L2.It), WalkOK C.T J w' t → J2 J w'.H := q
  refine goE g re q.bind fun w1 d v f1 g1 k rv => ?_
  obtain ⟨xs, hx, k⟩ := after.of g1 k.bind
  have k := after.ok g1 (k w1 Fut.refl g1 rfl)
  cases d with
  | int j =>
    obtain ⟨h1, h2⟩ := if_some (show (if smallI j then some (upto 0 j.toNat) else none) = some xs from hx)
    subst h2
    exact ⟨j, by rw [show v = V.int j from rv], (small_of h1).1, (small_of h1).2, k _ walk_rg⟩
  | _ => cases hx
theorem i_rng2 {tg p p' : PySem.Expr} {p1 pos : Pos} {e e' : E} (O : C.Ok) (A : At C N sc fn W X) (hg : glB sc "range" = true) (hf : Str.ofString "range" ∈ C.free) (hs : isStar p = false) (hs' : isStar p' = false) (h : PE X p (B C W e)) (h' : PE X p' (B C W e')) :
    PI X tg (.Call (.Name "range" p1) [p, p'] [] pos) (rdI C.T C.Φ W (.rng2 e e')) := by
  refine pi_imp (pi_range2 (A.gl hg) (by rw [A.mg]; exact O.fr _ hf) (pa_cons (pe_ofB h) (pa_cons (pe_ofB h') pa_nil (star_cons hs')) (star_cons hs)) (by rw [star_cons hs, star_cons hs']; rfl) (star_cons hs')) fun σ H J2 q => ?_
  obtain ⟨w, ρ, rfl, g, re, q⟩ := q
  have q : after C.T W σ w ((((ev C.Φ e).b ρ w.st).d).bind fun d st => (((ev C.Φ e').b ρ st).d).bind fun d' st => (R.of (rngOf [d, d']) st).bind fun xs st => .ok (Ip.Its.mk xs []) st) fun w' t => ∀ (J : L2.It), WalkOK C.T J w' t → J2 J w'.H := q
  show rdE C.T C.Φ W e σ w.H (fun x H1 => rdE C.T C.Φ W e' σ H1 (fun y H2 => ∃ i j : Int, [x, y] = [V.int i, V.int j] ∧ (-(2 ^ 62) ≤ i ∧ i < 2 ^ 62 ∧ -(2 ^ 62) ≤ j ∧ j < 2 ^ 62) ∧ J2 (Itr i (j - i).toNat) H2))
  refine goE g re q.bind fun w1 d v f1 g1 k rv => ?_
  refine goE g1 (re.mono f1) k.bind fun w2 d' v' f2 g2 k rv' => ?_
  obtain ⟨xs, hx, k⟩ := after.of g2 k.bind
  have k := after.ok g2 (k w2 Fut.refl g2 rfl)
  cases d with
  | int i =>
    cases d' with
    | int j =>
      obtain ⟨h1, h2⟩ := if_some (show (if smallI i && smallI j then some (upto i (j - i).toNat) else none) = some xs from hx)
      subst h2
      obtain ⟨h1, h3⟩ := band h1
      exact ⟨i, j, by rw [show v = V.int i from rv, show v' = V.int j from rv'], ⟨(small_of h1).1, (small_of h1).2, (small_of h3).1, (small_of h3).2⟩, k _ walk_rg⟩
    | _ => cases hx
  | _ => cases d' <;> cases hx
theorem i_enum {p : PySem.Expr} {p1 pos tpos : Pos} {elts : List PySem.Expr} {kk : Nat} {e : E} (O : C.Ok) (A : At C N sc fn W X) (hg : glB sc "enumerate" = true) (hf : Str.ofString "enumerate" ∈ C.free) (hs : isStar p = false) (h : PE X p (B C W e)) :
    PI X (.Tuple elts kk tpos) (.Call (.Name "enumerate" p1) [p] [] pos) (rdI C.T C.Φ W (.enum e)) := by
  refine pi_imp (pi_enum (A.gl hg) (by rw [A.mg]; exact O.fr _ hf) (pa_cons (pe_ofB h) pa_nil (star_cons hs)) (star_cons hs)) fun σ H J2 q => ?_
  obtain ⟨w, ρ, rfl, g, re, q⟩ := q
  refine goE g re (after.bind (show after C.T W σ w ((((ev C.Φ e).b ρ w.st).d).bind fun d st => R.of (enumOf st d) st) _ from q)) fun w1 d v f1 g1 k rv => ?_
  obtain ⟨t, ht, k⟩ := after.of g1 k
  have k := k w1 Fut.refl g1 rfl
  unfold enumOf at ht
  split at ht
  · rename_i hd
    rw [Option.map_eq_some_iff] at ht
    obtain ⟨t, ht, rfl⟩ := ht
    obtain ⟨a, rfl, ⟨vs, hv⟩, hw⟩ := ls_stays g1 hd ht rv
    refine ⟨a, vs, rfl, .inl hv, ?_⟩
    rw [A.K]
    exact k _ (walk_en hw)
  · cases ht
theorem i_zip {p p' : PySem.Expr} {p1 pos tpos : Pos} {elts : List PySem.Expr} {kk : Nat} {e e' : E} (O : C.Ok) (A : At C N sc fn W X) (hg : glB sc "zip" = true) (hf : Str.ofString "zip" ∈ C.free) (hs : isStar p = false) (hs' : isStar p' = false) (h : PE X p (B C W e)) (h' : PE X p' (B C W e')) :
    PI X (.Tuple elts kk tpos) (.Call (.Name "zip" p1) [p, p'] [] pos) (rdI C.T C.Φ W (.zip e e')) := by
  refine pi_imp (pi_zip (A.gl hg) (by rw [A.mg]; exact O.fr _ hf) (pa_cons (pe_ofB h) (pa_cons (pe_ofB h') pa_nil (star_cons hs')) (star_cons hs)) (star_cons hs) (star_none (by simp [hs']))) fun σ H J2 q => ?_
  obtain ⟨w, ρ, rfl, g, re, q⟩ := q
  show rdE C.T C.Φ W e σ w.H (fun x H1 => rdE C.T C.Φ W e' σ H1 (fun y H2 => ∃ a b xs ys, [x, y] = [V.ref a, V.ref b] ∧ SqL X.K H2 a xs ∧ SqL X.K H2 b ys ∧ J2 (Itz X.K a b) H2))
  refine goE g re (after.bind (show after C.T W σ w ((((ev C.Φ e).b ρ w.st).d).bind fun x st => (((ev C.Φ e').b ρ st).d).bind fun y st => R.of (zipOf st x y) st) _ from q)) fun w1 d v f1 g1 k rv => ?_
  refine goE g1 (re.mono f1) k.bind fun w2 d' v' f2 g2 k rv' => ?_
  obtain ⟨t, ht, k⟩ := after.of g2 k
  have k := k w2 Fut.refl g2 rfl
  unfold zipOf at ht
  split at ht
  · rename_i hd
    obtain ⟨hd, hd'⟩ := band hd
    split at ht
    · rename_i t1 t2 h1 h2
      cases ht
      obtain ⟨a, rfl, ⟨vs, hv⟩, hw⟩ := ls_stays g2 hd h1 (rv.mono f2)
      obtain ⟨a', rfl, ⟨vs', hv'⟩, hw'⟩ := ls_stays g2 hd' h2 rv'
      refine ⟨a, a', vs, vs', rfl, .inl hv, .inl hv', ?_⟩
      rw [A.K]
      exact k _ (walk_zp hw hw')
    · cases ht
  · cases ht
end
end Ip

set_option Elab.async false
set_option linter.all false
set_option maxRecDepth 100000
set_option autoImplicit false
/-! Comprehensions; expressions at large. -/
namespace Ip
open PySem PySem.Spec PyProof.Rows L2

/-- the object that is being made, let go of -/
def Wd.drop (w : Wd) (p : Addr) (l : List Addr) : Wd := ⟨w.eta, w.st, fun b => if b = p then none else w.H b, l⟩
theorem Pre.drop {T : Tb} {w w1 : Wd} {p : Addr} (g1 : Good T w1) (h : Pre w w1 p) (hn : w.H p = none) : Good T (w1.drop p w.prv) ∧ Fut w (w1.drop p w.prv) ∧ Le w1 (w1.drop p w.prv) := by
  have sub : ∀ a, a ∈ w.prv → a ∈ w1.prv := fun a ha => by rw [h.pe]; exact List.mem_cons_of_mem _ ha
  have pin : p ∈ w1.prv := by rw [h.pe]; exact List.mem_cons_self
  have hH : ∀ {b}, b ≠ p → (w1.drop p w.prv).H b = w1.H b := fun hb => if_neg hb
  have l1 : Le w1 (w1.drop p w.prv) := ⟨fun a u ⟨r, l⟩ => ⟨by
    have ne : a ≠ p := fun z => l.2 (z ▸ pin)
    rcases r with r | ⟨ob, r⟩
    · exact .inl ((hH ne).trans r)
    · exact .inr ⟨ob, (hH ne).trans r⟩, l.1, fun z => l.2 (sub a z)⟩, fun _ _ e => .inl e⟩
  have pne : ∀ a, a ∈ w.prv → a ≠ p := fun a ha e => h.np (mem_of_eq ha e)
  refine ⟨⟨g1.len, fun i a e => ?_, g1.inj, g1.alive, fun a z y => g1.pout a z (sub a y), fun a ha => ?_⟩, ⟨h.le.trans l1, rfl, fun a ha o e => (hH (pne a ha)).trans (h.pk a ha o e)⟩, l1⟩
  · obtain ⟨o, h1, h2⟩ := g1.at_ i a e
    exact ⟨o, h1, h2.leR l1 (hH fun z => g1.pout a (List.mem_of_getElem? e) (z ▸ pin))⟩
  · rw [hH (pne a ha)]; exact g1.psome a (sub a ha)
theorem drop_upd {w1 : Wd} {p : Addr} {l : List Addr} {u : HO} (e : w1.H p = some u) : upd (w1.drop p l).H p u = w1.H := by
  funext b
  by_cases hb : b = p
  · rw [hb, upd_same, e]
  · rw [upd_ne hb]; exact if_neg hb

theorem wipe_at {σ : L2.St} {i : Nat} : ∀ {vs : List Nat}, i ∉ vs → (wipe σ vs)[i]? = σ[i]?
  | [], _ => rfl
  | v :: vs, h => by
    unfold wipe
    rw [List.getElem?_set_ne (fun e => h (by simp [e]))]
    exact wipe_at fun z => h (List.mem_cons_of_mem _ z)
theorem wipe_in {σ : L2.St} {i : Nat} : ∀ {vs : List Nat}, i ∈ vs → i < σ.length → (wipe σ vs)[i]? = some none
  | [], h, _ => by simp at h
  | v :: vs, h, hl => by
    unfold wipe
    by_cases e : v = i
    · subst e
      rw [List.getElem?_set_self (by rw [wipe_length]; exact hl)]
    · rw [List.getElem?_set_ne e]
      rcases List.mem_cons.mp h with z | z
      · exact absurd z.symm e
      · exact wipe_in z hl
theorem wipe_ext {σ σ' : L2.St} {vs : List Nat} (hl : σ'.length = σ.length) (h : ∀ i, i ∉ vs → σ'[i]? = σ[i]?) : wipe σ' vs = wipe σ vs := by
  apply List.ext_getElem?
  intro i
  by_cases hi : i ∈ vs
  · by_cases hlt : i < σ.length
    · rw [wipe_in hi hlt, wipe_in hi (by omega)]
    · rw [List.getElem?_eq_none (by rw [wipe_length]; omega), List.getElem?_eq_none (by rw [wipe_length]; omega)]
  · rw [wipe_at hi, wipe_at hi, h i hi]
theorem env_wipe {T : Tb} {w : Wd} {ρ : Env} {σ : L2.St} (h : EnvRep T w ρ σ) : ∀ own : List (Str × Nat), EnvRep T w (wipeD ρ own) (wipe σ (own.map (·.2)))
  | [] => h
  | v :: vs => (env_wipe h vs).none v.2 none

section
variable {C : Cfg} {N : List Str} {sc : Scope} {fn : Str → Bool} {W : WX} {X : Cx}
abbrev W0 : WX := fun _ _ _ _ => False
theorem At.blk (A : At C N sc fn W X) (s : Shared) (H : Hp) (scope : Scope) (Ca : Addr) (cl : List (Str × Addr)) (fp : List Addr) :
    At C N (relS scope sc) (fun x => scope.names.lookup x == some .cell) W0 (X.blk s H scope (compEnvC scope cl Ca X.env) fp) :=
  ⟨A.K, A.P, A.w, A.mg, A.base, A.N, A.nd, by show relS scope X.env.scope = _; rw [A.sc], rfl, A.calm, A.room, fun u s' h => by
    obtain ⟨_, _, _, _, _, _, _, _, _, _, _, _, _, _, _, _, w⟩ := h
    exact w.elim⟩
theorem pts_imp {X : Cx} {e : List Expr} {t t' : TT} (h : PTs X e t) (k : ∀ σ H Q, t' σ H Q → t σ H Q) : PTs X e t' := ⟨fun pins s σ H Q I q => h.run pins s σ H Q I (k _ _ _ q)⟩
theorem pts_no {X : Cx} : PTs X [] (T1 C W0 .no) := pts_imp pts_nil fun σ H Q q => by
  obtain ⟨w, ρ, rfl, g, re, q⟩ := q
  exact after.ok g (show after C.T W0 σ w (.ok true w.st) _ from q)
theorem EnvRep.leR {T : Tb} {ρ : Env} {σ : L2.St} {w w' : Wd} (h : EnvRep T w ρ σ) (f : Le w w') : EnvRep T w' ρ σ := ⟨h.1, fun i d e => let ⟨v, a, b⟩ := h.2 i d e; ⟨v, a, Rep.leR f b⟩⟩
theorem lcF_nox {t : Its} {f : D → Store → R (Option D)} : ∀ {ds acc : List D} {st st' : Store} {c : Str} {fs : XF}, lcF t f ds acc st ≠ .exc c fs st'
  | [], acc, st, st', c, fs, h => by
    unfold lcF at h
    split at h <;> cases h
  | d :: ds, acc, st, st', c, fs, h => by
    unfold lcF at h
    split at h
    · split at h
      · split at h
        · exact lcF_nox h
        · cases h
      · exact lcF_nox h
      · cases h
    · cases h
/-- one turn of a comprehension -/
def lcOne (Φ : Fn) (own : List (Str × Nat)) (tg : Tg) (ts el : E) (ρ : Env) : D → Store → R (Option D) := fun d st => match bindT st tg d (wipeD ρ own) with
  | some ρ1 => ((ev Φ ts).t ρ1 st).bind fun c st => if c then (((ev Φ el).b ρ1 st).d).bind fun y st => .ok (some y) st else .ok none st
  | none => .stuck
theorem s_lc {own : List (Str × Nat)} {tg : Tg} {it : It} {ts el : E} {pel ptg pit : PySem.Expr} {pifs : List PySem.Expr} {scope : Scope} (A : At C N sc fn W X) (hb : blkC N sc scope own = true) (hsl : ∀ i ∈ tg.slots, i ∈ own.map (·.2))
    (hi : PI X ptg pit (rdI C.T C.Φ W it))
    (hg : ∀ (s : Shared) (H : Hp) (Ca : Addr) (cl : List (Str × Addr)) (fp : List Addr), PG (X.blk s H scope (compEnvC scope cl Ca X.env) fp) ptg (gT C.T tg))
    (ht : ∀ (s : Shared) (H : Hp) (Ca : Addr) (cl : List (Str × Addr)) (fp : List Addr), PTs (X.blk s H scope (compEnvC scope cl Ca X.env) fp) pifs (T1 C W0 ts))
    (he : ∀ (s : Shared) (H : Hp) (Ca : Addr) (cl : List (Str × Addr)) (fp : List Addr), PE (X.blk s H scope (compEnvC scope cl Ca X.env) fp) pel (B C W0 el)) (hs : ∀ x, foldedSetIterable pit X.env x = pure x) :
    ∀ σ H Q, B C W (.lc own tg it ts el) σ H Q → tLc (rdI C.T C.Φ W it) (gT C.T tg) (T1 C W0 ts) (V1 C W0 el) (own.map (·.2)) σ H Q := by
  intro σ H Q q
  obtain ⟨w, ρ, rfl, g, re, q⟩ := q
  have q : after C.T W σ w ((evI C.Φ it ρ w.st).bind fun t st => (lcF t (lcOne C.Φ own tg ts el ρ) t.items [] st).bind fun ys st => .ok (Bv.new (.lst ys)) st) (fun w' b => bpost C.T w' b Q) := q
  refine ⟨w, ρ, rfl, g, re, q.bind.imp fun w1 t f1 g1 k J wk D hD => ?_⟩
  have re1 := re.mono f1
  -- the loop's answer
  cases hr : lcF t (lcOne C.Φ own tg ts el ρ) t.items [] w1.st with
  | exc c fs st => exact absurd hr lcF_nox
  | stuck => rw [hr] at k; exact k.elim
  | ok ys st =>
    rw [hr] at k
    have k : ∀ w', Fut w1 w' → Good C.T w' → w'.st = st → bpost C.T w' (.new (.lst ys)) Q := k
    refine ⟨fun i m H2 => m = t.items.length - i ∧ i ≤ t.items.length ∧ ∃ w2 acc accV, w2.H = H2 ∧ Good C.T w2 ∧ Pre w1 w2 D ∧ H2 D = some (.lst accV) ∧ Reps C.T w2 acc accV ∧ lcF t (lcOne C.Φ own tg ts el ρ) (t.items.drop i) acc w2.st = .ok ys st, ?_, ?_⟩
    · obtain ⟨g2, p2⟩ := g1.open_ (u := .lst []) hD
      exact ⟨_, rfl, Nat.zero_le _, _, [], [], rfl, g2, p2, upd_same, rfl, hr⟩
    · rintro i m H2 ⟨rfl, hle, w2, acc, accV, rfl, g2, p2, hDa, ra, hl⟩
      by_cases hlt : i < t.items.length
      · have hd : t.items.drop i = t.items[i] :: t.items.drop (i + 1) := List.drop_eq_getElem_cons hlt
        rw [hd] at hl
        unfold lcF at hl
        split at hl
        · rename_i hok
          obtain ⟨go, yl⟩ := wk.turn w2 i t.items[i] p2.le g2 hok (List.getElem?_eq_getElem hlt)
          refine .inr ⟨go, fun H' => ∃ w3 acc' accV', w3.H = H' ∧ Good C.T w3 ∧ Pre w1 w3 D ∧ H' D = some (.lst accV') ∧ Reps C.T w3 acc' accV' ∧ lcF t (lcOne C.Φ own tg ts el ρ) (t.items.drop (i + 1)) acc' w3.st = .ok ys st,
            fun H' nx => ⟨t.items.length - (i + 1), by omega, rfl, hlt, nx⟩, fun x H' y => ?_⟩
          -- the item's world
          obtain ⟨w3, e3, f3, g3, s3, r3⟩ : ∃ w3 : Wd, w3.H = H' ∧ Fut w2 w3 ∧ Good C.T w3 ∧ w3.st = w2.st ∧ Rep C.T w3 t.items[i] x := by
            rcases yl x H' y with ⟨u, p, rfl, hp, r⟩ | ⟨rfl, r⟩
            · exact ⟨_, rfl, fut_new hp, g2.new hp, rfl, r⟩
            · exact ⟨w2, rfl, .refl, g2, rfl, r⟩
          subst e3
          cases ho : lcOne C.Φ own tg ts el ρ t.items[i] w2.st with
          | stuck => rw [ho] at hl; cases hl
          | exc _ _ _ => rw [ho] at hl; cases hl
          | ok o st' =>
            rw [ho] at hl
            unfold lcOne at ho
            split at ho
            · rename_i ρ1 hb1
              refine ⟨w3, t.items[i], wipeD ρ own, ρ1, rfl, g3, env_wipe ((re1.leR p2.le).mono f3) own, r3, by rw [s3]; exact hb1, fun σ2 re2 ap => ⟨?_, ?_⟩⟩
              · rw [wipe_ext ap.1 fun j hj => ap.2 j fun z => hj (hsl j z)]
                exact wipe_ext (wipe_length _ _) fun j hj => wipe_at hj
              · have hA : after C.T W0 σ2 w3 (((ev C.Φ ts).t ρ1 w3.st).bind fun c st => if c then (((ev C.Φ el).b ρ1 st).d).bind fun y st => .ok (some y) st else .ok none st) (fun w' o' => o' = o ∧ w'.st = st') := by
                  rw [s3, ho]
                  exact fun w' _ _ e => ⟨rfl, e⟩
                show T1 C W0 ts σ2 w3.H _
                refine goT g3 re2 hA.bind fun w4 b f4 g4 k4 => ?_
                cases b with
                | true =>
                  rw [if_pos rfl]
                  refine goE g4 (re2.mono f4) (after.bind (show after C.T W0 σ2 w4 ((((ev C.Φ el).b ρ1 w4.st).d).bind fun y st => .ok (some y) st) _ from k4)) fun w5 yd v f5 g5 k5 rv => ?_
                  obtain ⟨rfl, hst⟩ := after.ok g5 k5
                  have f25 := (f3.trans f4).trans f5
                  have p5 := p2.later f25
                  have hD5 : w5.H D = some (.lst accV) := f25.pk D (by rw [p2.pe]; exact List.mem_cons_self) _ hDa
                  have hDp : D ∈ w5.prv := by rw [p5.pe]; exact List.mem_cons_self
                  simp only at hl
                  split at hl
                  · rename_i hz
                    have ra5 := ra.mono f25
                    obtain ⟨g6, l6⟩ := g5.more (u := .lst (accV ++ [v])) hDp
                    refine ⟨accV, hD5, by rw [← ra.length, ← maxLen_eq]; exact hz, w5.more D (.lst (accV ++ [v])), acc ++ [yd], accV ++ [v], rfl, g6, p5.more l6, upd_same, ?_, ?_⟩
                    · exact (Reps.leR l6 ra5).append (Reps.cons (Rep.leR l6 rv) Reps.nil)
                    · rw [show (w5.more D (.lst (accV ++ [v]))).st = st' from hst]; exact hl
                  · cases hl
                | false =>
                  obtain ⟨rfl, hst⟩ := after.ok g4 (show after C.T W0 σ2 w4 (.ok none w4.st) _ from k4)
                  have f24 := f3.trans f4
                  rw [if_neg Bool.false_ne_true]
                  exact ⟨w4, acc, accV, rfl, g4, p2.later f24, f24.pk D (by rw [p2.pe]; exact List.mem_cons_self) _ hDa, ra.mono f24, by rw [hst]; exact hl⟩
            · cases ho
        · cases hl
      · have e : i = t.items.length := by omega
        subst e
        rw [List.drop_length] at hl
        unfold lcF at hl
        split at hl
        · rename_i hok
          cases hl
          refine .inl ⟨wk.done w2 p2.le g2 hok, ?_⟩
          obtain ⟨g3, f3, l3⟩ := p2.drop g2 hD
          have := k _ f3 g3 rfl (w2.drop D w1.prv) D accV .refl g3 rfl (if_pos rfl) (Reps.leR l3 ra)
          rw [drop_upd hDa] at this
          exact this
        · cases hl
end
end Ip

set_option Elab.async false
set_option linter.all false
set_option maxRecDepth 100000
set_option autoImplicit false
/-! Expressions at large. -/
namespace Ip
open PySem PySem.Spec PyProof.Rows L2
section
variable {C : Cfg} {N : List Str} {sc : Scope} {fn : Str → Bool} {W : WX} {X : Cx}
/-- the three ways to look at an expression -/
structure Snd (C : Cfg) (W : WX) (X : Cx) (e : E) (pe : PySem.Expr) : Prop where
  b : PE X pe (B C W e)
  t : PT X pe (T1 C W e)
  w : ∀ op vs pos, pe = .BoolOp op vs pos → PW X pe (T1 C W e)
theorem Snd.dflt {e : E} {pe : PySem.Expr} (A : At C N sc fn W X) (h : PE X pe (B C W e)) (hp : plainT pe = true) (ht : (ev C.Φ e).t = fun ρ st => (((ev C.Φ e).b ρ st).d).bind fun d st => R.of (truB st d) st) : Snd C W X e pe :=
  ⟨h, pt_dflt A hp h ht, fun op vs pos q => by rw [q] at hp; cases hp⟩
theorem pw_last_and {q : PySem.Expr} {pos : Pos} {b : E} (h : Snd C W X b q) : PE X (.BoolOp .And [q] pos) (B C W b) ∧ PW X (.BoolOp .And [q] pos) (T1 C W b) := ⟨pe_one h.b, pw_and1 h.t⟩
theorem pw_last_or {q : PySem.Expr} {pos : Pos} {b : E} (h : Snd C W X b q) : PE X (.BoolOp .Or [q] pos) (B C W b) ∧ PW X (.BoolOp .Or [q] pos) (T1 C W b) := ⟨pe_one h.b, pw_or1 h.t⟩
theorem okEs_star : ∀ {es : List E} {ps : List PySem.Expr}, okEs C N sc es ps = true → ps.any isStar = false
  | [], [], _ => rfl
  | [], _ :: _, h => by simp [okEs] at h
  | _ :: _, [], h => by simp [okEs] at h
  | e :: es, p :: ps, h => by
    simp only [okEs, Bool.and_eq_true, Bool.not_eq_true'] at h
    simp [h.2.1, okEs_star h.2.2]
theorem fold_of {pit ptg : PySem.Expr} {it : It} (h : okI C N sc it pit ptg = true) {env : PySem.Env} : ∀ x, foldedSetIterable pit env x = pure x := by
  intro x
  cases it with
  | seq e => cases pit <;> first | rfl | (simp only [okI] at h; cases e <;> simp [okE, plainT] at h)
  | rng1 e =>
    simp only [okI] at h
    split at h
    · rename_i hc
      obtain ⟨_, _, rfl⟩ := callOf_eq hc
      rfl
    · cases h
  | rng2 e e' =>
    simp only [okI] at h
    split at h
    · rename_i hc
      obtain ⟨_, _, rfl⟩ := callOf_eq hc
      rfl
    · cases h
  | enum e =>
    simp only [okI] at h
    split at h
    · rename_i hc
      obtain ⟨_, _, rfl⟩ := callOf_eq hc
      rfl
    · cases h
  | zip a b =>
    simp only [okI] at h
    split at h
    · rename_i hc
      obtain ⟨_, _, rfl⟩ := callOf_eq hc
      rfl
    · cases h
theorem po_of {o : Option PySem.Expr} {e : E} (h : (match o with
    | none => isNo e
    | some q => okE C N sc e q) = true) (k : ∀ q, o = some q → okE C N sc e q = true → Snd C W X e q) : PO X o (rdP C.T C.Φ W e) := by
  cases o with
  | none =>
    cases e <;> first | (cases h; done) | exact s_noP
  | some q =>
    have h : okE C N sc e q = true := h
    refine s_P (k q rfl h).b (p_of ?_ C.Φ)
    cases e <;> first | rfl | (simp [okE] at h; done)
mutual
theorem soundE (O : C.Ok) : ∀ (e : E) (pe : PySem.Expr) {sc : Scope} {fn : Str → Bool} {W : WX} {X : Cx}, At C N sc fn W X → okE C N sc e pe = true → Snd C W X e pe
  | .no, pe, sc, fn, W, X, A, h => by simp [okE] at h
  | .var i, pe, sc, fn, W, X, A, h => by
    cases pe <;> first | (simp [okE] at h; done) | exact .dflt A (s_var A h) rfl rfl
  | .con d, pe, sc, fn, W, X, A, h => by
    cases pe <;> first | (simp [okE] at h; done) | exact .dflt A (s_con h) rfl rfl
  | .glob x d, pe, sc, fn, W, X, A, h => by
    cases pe <;> first | (simp [okE] at h; done) | exact .dflt A (s_glob O A h) rfl rfl
  | .mt e, pe, sc, fn, W, X, A, h => by
    have h : (plainT pe && okE C N sc e pe) = true := by simpa only [okE] using h
    exact .dflt A (s_mt (soundE O e pe A (band h).2).b) (band h).1 rfl
  | .tup es, pe, sc, fn, W, X, A, h => by
    cases pe <;> first | (simp [okE] at h; done) | exact .dflt A (s_tup (soundEs O es _ A (by simpa only [okE] using h))) rfl rfl
  | .lst es, pe, sc, fn, W, X, A, h => by
    cases pe <;> first | (simp [okE] at h; done) | exact .dflt A (s_lst (soundEs O es _ A (by simpa only [okE] using h))) rfl rfl
  | .and_ a b, pe, sc, fn, W, X, A, h => by
    cases pe <;> first | (simp [okE] at h; done) | skip
    rename_i op vs pos
    rcases op with _ | _
    · rcases vs with _ | ⟨p, _ | ⟨q, r⟩⟩ <;> first | (simp [okE] at h; done) | skip
      simp only [okE] at h
      obtain ⟨h1, h2⟩ := band h
      have ha := soundE O a p A h1
      have hb : PE X (.BoolOp .And (q :: r) pos) (B C W b) ∧ PW X (.BoolOp .And (q :: r) pos) (T1 C W b) := by
        cases r with
        | nil => exact pw_last_and (soundE O b q A h2)
        | cons q2 r2 =>
          have hb := soundE O b (.BoolOp .And (q :: q2 :: r2) pos) A h2
          exact ⟨hb.b, hb.w _ _ _ rfl⟩
      have hw := t_and ha.t hb.2
      exact ⟨s_and A ha.b hb.1, hw.pt, fun op vs pos' e => by cases e; exact hw⟩
    · rcases vs with _ | ⟨p, _ | ⟨q, r⟩⟩ <;> simp [okE] at h
  | .or_ a b, pe, sc, fn, W, X, A, h => by
    cases pe <;> first | (simp [okE] at h; done) | skip
    rename_i op vs pos
    rcases op with _ | _
    · rcases vs with _ | ⟨p, _ | ⟨q, r⟩⟩ <;> simp [okE] at h
    · rcases vs with _ | ⟨p, _ | ⟨q, r⟩⟩ <;> first | (simp [okE] at h; done) | skip
      simp only [okE] at h
      obtain ⟨h1, h2⟩ := band h
      have ha := soundE O a p A h1
      have hb : PE X (.BoolOp .Or (q :: r) pos) (B C W b) ∧ PW X (.BoolOp .Or (q :: r) pos) (T1 C W b) := by
        cases r with
        | nil => exact pw_last_or (soundE O b q A h2)
        | cons q2 r2 =>
          have hb := soundE O b (.BoolOp .Or (q :: q2 :: r2) pos) A h2
          exact ⟨hb.b, hb.w _ _ _ rfl⟩
      have hw := t_or ha.t hb.2
      exact ⟨s_or A ha.b hb.1, hw.pt, fun op vs pos' e => by cases e; exact hw⟩
  | .not_ a, pe, sc, fn, W, X, A, h => by
    cases pe <;> first | (simp [okE] at h; done) | skip
    rename_i op p pos
    cases op <;> first | (simp [okE] at h; done) | skip
    have ha := soundE O a p A (by simpa only [okE] using h)
    exact ⟨s_not A ha.b, t_not ha.t, fun _ _ _ e => by cases e⟩
  | .ite c a b, pe, sc, fn, W, X, A, h => by
    cases pe <;> first | (simp [okE] at h; done) | skip
    rename_i pc pa pb pos
    have h : (okE C N sc c pc && (okE C N sc a pa && okE C N sc b pb)) = true := by simpa only [okE] using h
    obtain ⟨h1, h⟩ := band h
    obtain ⟨h2, h3⟩ := band h
    have hc := soundE O c pc A h1
    have ha := soundE O a pa A h2
    have hb := soundE O b pb A h3
    exact ⟨s_ite hc.t ha.b hb.b, t_ite hc.t ha.t hb.t, fun _ _ _ e => by cases e⟩
  | .cmp op a b, pe, sc, fn, W, X, A, h => by
    cases pe <;> first | (simp [okE] at h; done) | skip
    rename_i p ops qs pos
    rcases ops with _ | ⟨op', _ | ⟨_, _⟩⟩ <;> first | (simp [okE] at h; done) | skip
    rcases qs with _ | ⟨q, _ | ⟨_, _⟩⟩ <;> first | (simp [okE] at h; done) | skip
    have h : (decide (op = op') && (okE C N sc a p && (okE C N sc b q && !behindInMarks op q))) = true := by simpa only [okE] using h
    obtain ⟨h1, h⟩ := band h
    obtain ⟨h2, h⟩ := band h
    obtain ⟨h3, h4⟩ := band h
    cases of_decide_eq_true h1
    have ha := soundE O a p A h2
    have hb := soundE O b q A h3
    have hm : behindInMarks op q = false := by simpa using h4
    exact ⟨s_cmp A hm ha.b hb.b, t_cmp A hm ha.b hb.b, fun _ _ _ e => by cases e⟩
  | .bin op a b, pe, sc, fn, W, X, A, h => by
    cases pe <;> first | (simp [okE] at h; done) | skip
    rename_i p op' q pos
    have h : (decide (op = op') && (okE C N sc a p && okE C N sc b q)) = true := by simpa only [okE] using h
    obtain ⟨h1, h⟩ := band h
    obtain ⟨h2, h3⟩ := band h
    cases of_decide_eq_true h1
    exact .dflt A (s_bin A (soundE O a p A h2).b (soundE O b q A h3).b) rfl rfl
  | .neg a, pe, sc, fn, W, X, A, h => by
    cases pe <;> first | (simp [okE] at h; done) | skip
    rename_i op p pos
    cases op <;> first | (simp [okE] at h; done) | skip
    exact .dflt A (s_neg A (soundE O a p A (by simpa only [okE] using h)).b) rfl rfl
  | .idx a i, pe, sc, fn, W, X, A, h => by
    cases pe <;> first | (simp [okE] at h; done) | skip
    rename_i p q pos
    have h : (okE C N sc a p && (okE C N sc i q && !isSliceE q)) = true := by simpa only [okE] using h
    obtain ⟨h1, h⟩ := band h
    obtain ⟨h2, h3⟩ := band h
    exact .dflt A (s_idx A (by simpa using h3) (soundE O a p A h1).b (soundE O i q A h2).b) rfl rfl
  | .slc a lo hi, pe, sc, fn, W, X, A, h => by
    cases pe <;> first | (simp [okE] at h; done) | skip
    rename_i p q pos
    cases q <;> first | (simp [okE] at h; done) | skip
    rename_i pl ph ps p2
    cases ps <;> first | (simp [okE] at h; done) | skip
    simp only [okE] at h
    obtain ⟨h1, h⟩ := band h
    obtain ⟨h2, h3⟩ := band h
    exact .dflt A (s_slc A (soundE O a p A h1).b (po_of h2 fun q _ hq => soundE O lo q A hq) (po_of h3 fun q _ hq => soundE O hi q A hq)) rfl rfl
  | .fld a f, pe, sc, fn, W, X, A, h => by simp [okE] at h
  | .call f es, pe, sc, fn, W, X, A, h => by
    cases pe <;> first | (simp [okE] at h; done) | skip
    rename_i pf ps kw pos
    cases pf <;> first | (simp [okE] at h; done) | skip
    rename_i g p1
    cases kw <;> first | (simp [okE] at h; done) | skip
    have h : (decide (f = g) && (glB sc f && (decide (f ∈ C.fns) && okEs C N sc es ps))) = true := by simpa only [okE] using h
    obtain ⟨h1, h⟩ := band h
    obtain ⟨h2, h⟩ := band h
    obtain ⟨h3, h4⟩ := band h
    cases of_decide_eq_true h1
    cases ps with
    | nil =>
      cases es with
      | nil => exact .dflt A (s_call0 O A (of_decide_eq_true h3) h2) rfl rfl
      | cons _ _ => simp [okEs] at h4
    | cons p ps => exact .dflt A (s_call O A (of_decide_eq_true h3) h2 (okEs_star h4) (soundEs O es _ A h4)) rfl rfl
  | .bi b es, pe, sc, fn, W, X, A, h => by
    cases pe <;> first | (simp [okE] at h; done) | skip
    rename_i pf ps kw pos
    cases pf <;> first | (simp [okE] at h; done) | skip
    rename_i g p1
    cases kw <;> first | (simp [okE] at h; done) | skip
    have h : (decide (b = g) && (glB sc b && (decide (b ∈ C.free) && ((biOf b).isSome && (!ps.isEmpty && okEs C N sc es ps))))) = true := by simpa only [okE] using h
    obtain ⟨h1, h⟩ := band h
    obtain ⟨h2, h⟩ := band h
    obtain ⟨h3, h⟩ := band h
    obtain ⟨h4, h⟩ := band h
    obtain ⟨h5, h6⟩ := band h
    cases of_decide_eq_true h1
    obtain ⟨z, hz⟩ := Option.isSome_iff_exists.mp h4
    cases ps with
    | nil => cases h5
    | cons p ps => exact .dflt A (s_bi O A hz (of_decide_eq_true h3) h2 (okEs_star h6) (soundEs O es _ A h6)) rfl rfl
  | .met m o es, pe, sc, fn, W, X, A, h => by
    cases pe <;> first | (simp [okE] at h; done) | skip
    rename_i pf ps kw pos
    cases pf <;> first | (simp [okE] at h; done) | skip
    rename_i po g apos
    cases kw <;> first | (simp [okE] at h; done) | skip
    have h : (decide (m = g) && ((mtOf m).isSome && (plainBase po && (decide (apos.endLine = pos.line) && (!ps.isEmpty && (decide (ps.length < 29) && (okE C N sc o po && okEs C N sc es ps))))))) = true := by simpa only [okE] using h
    obtain ⟨h1, h⟩ := band h
    obtain ⟨h2, h⟩ := band h
    obtain ⟨h3, h⟩ := band h
    obtain ⟨h4, h⟩ := band h
    obtain ⟨h5, h⟩ := band h
    obtain ⟨h6, h⟩ := band h
    obtain ⟨h7, h8⟩ := band h
    cases of_decide_eq_true h1
    obtain ⟨z, hz⟩ := Option.isSome_iff_exists.mp h2
    cases ps with
    | nil => cases h5
    | cons p ps => exact .dflt A (s_met A hz h3 (of_decide_eq_true h4) (of_decide_eq_true h6) (okEs_star h8) (soundE O o po A h7).b (soundEs O es _ A h8)) rfl rfl
  | .isi a t, pe, sc, fn, W, X, A, h => by
    cases pe <;> first | (simp [okE] at h; done) | skip
    rename_i pf ps kw pos
    cases pf <;> first | (simp [okE] at h; done) | skip
    rename_i g p1
    cases kw <;> first | (simp [okE] at h; done) | skip
    rcases ps with _ | ⟨p, _ | ⟨q, _ | ⟨_, _⟩⟩⟩ <;> first | (simp [okE] at h; done) | skip
    cases q <;> first | (simp [okE] at h; done) | skip
    rename_i u p2
    have h : (decide (g = "isinstance") && (glB sc "isinstance" && (decide (Str.ofString "isinstance" ∈ C.free) && (decide (t ≠ .non) && (decide (u = Str.ofString t.name) && (glB sc u && (decide (u ∈ C.free) && (okE C N sc a p && !isStar p)))))))) = true := by simpa only [okE] using h
    obtain ⟨h1, h⟩ := band h
    obtain ⟨h2, h⟩ := band h
    obtain ⟨h3, h⟩ := band h
    obtain ⟨h4, h⟩ := band h
    obtain ⟨h5, h⟩ := band h
    obtain ⟨h6, h⟩ := band h
    obtain ⟨h7, h⟩ := band h
    obtain ⟨h8, h9⟩ := band h
    cases of_decide_eq_true h1
    cases of_decide_eq_true h5
    exact .dflt A (s_isi O A (of_decide_eq_true h4) h2 (of_decide_eq_true h3) h6 (of_decide_eq_true h7) (by simpa using h9) (soundE O a p A h8).b) rfl rfl
  | .lc own tg it ts el, pe, sc, fn, W, X, A, h => by
    cases pe <;> first | (simp [okE] at h; done) | skip
    rename_i pel gs scope pos
    rcases gs with _ | ⟨⟨ptg, pit, pifs, asy⟩, _ | ⟨_, _⟩⟩ <;> first | (simp [okE] at h; done) | skip
    simp only [okE] at h
    obtain ⟨ha, hh⟩ := band h
    clear h
    cases of_decide_eq_true ha
    obtain ⟨hb, h⟩ := band hh
    obtain ⟨h1, h⟩ := band h
    obtain ⟨h2, h⟩ := band h
    obtain ⟨h3, h⟩ := band h
    obtain ⟨h4, h5⟩ := band h
    have hi := soundI O it pit ptg A h1
    have hg : ∀ (s : Shared) (H : Hp) (Ca : Addr) (cl : List (Str × Addr)) (fp : List Addr), PG (X.blk s H scope (compEnvC scope cl Ca X.env) fp) ptg (gT C.T tg) := fun s H Ca cl fp => s_tg (A.blk s H scope Ca cl fp) h2
    have ht : ∀ (s : Shared) (H : Hp) (Ca : Addr) (cl : List (Str × Addr)) (fp : List Addr), PTs (X.blk s H scope (compEnvC scope cl Ca X.env) fp) pifs (T1 C W0 ts) := fun s H Ca cl fp => by
      rcases pifs with _ | ⟨q, _ | ⟨_, _⟩⟩
      · cases ts <;> first | exact pts_no | (cases h4; done)
      · exact pts_one (soundE O ts q (A.blk s H scope Ca cl fp) h4).t
      · cases h4
    have he : ∀ (s : Shared) (H : Hp) (Ca : Addr) (cl : List (Str × Addr)) (fp : List Addr), PE (X.blk s H scope (compEnvC scope cl Ca X.env) fp) pel (B C W0 el) := fun s H Ca cl fp => (soundE O el pel (A.blk s H scope Ca cl fp) h5).b
    have hs := fold_of (env := X.env) h1
    have hsl : ∀ i ∈ tg.slots, i ∈ own.map (·.2) := fun i hi => by simpa using List.all_eq_true.mp h3 i hi
    exact .dflt A (pe_imp (pe_lc A.calm A.nd hi (blkOk_by (by rw [A.N, A.sc]; exact hb)) hg ht (fun s H Ca cl fp => pe_ofB (he s H Ca cl fp)) hs) (s_lc A hb hsl hi hg ht he hs)) rfl rfl
theorem soundEs (O : C.Ok) : ∀ (es : List E) (ps : List PySem.Expr) {sc : Scope} {fn : Str → Bool} {W : WX} {X : Cx}, At C N sc fn W X → okEs C N sc es ps = true → PA X ps (rdEs C.T C.Φ W es)
  | [], [], _, _, _, _, _, _ => s_nil
  | [], _ :: _, _, _, _, _, _, h => by simp [okEs] at h
  | _ :: _, [], _, _, _, _, _, h => by simp [okEs] at h
  | e :: es, p :: ps, sc, fn, W, X, A, h => by
    have h : (okE C N sc e p && (!isStar p && okEs C N sc es ps)) = true := by simpa only [okEs] using h
    obtain ⟨h1, h⟩ := band h
    obtain ⟨h2, h3⟩ := band h
    exact s_cons (by simpa using h2) (soundE O e p A h1).b (soundEs O es ps A h3)
theorem soundI (O : C.Ok) : ∀ (it : It) (pit ptg : PySem.Expr) {sc : Scope} {fn : Str → Bool} {W : WX} {X : Cx}, At C N sc fn W X → okI C N sc it pit ptg = true → PI X ptg pit (rdI C.T C.Φ W it)
  | .seq e, pit, ptg, sc, fn, W, X, A, h => i_seq A (soundE O e pit A (by simpa only [okI] using h)).b
  | .rng1 e, pit, ptg, sc, fn, W, X, A, h => by
    simp only [okI] at h
    split at h
    · rename_i g p hc
      obtain ⟨_, _, rfl⟩ := callOf_eq hc
      obtain ⟨h1, h⟩ := band h
      obtain ⟨h2, h⟩ := band h
      obtain ⟨h3, h⟩ := band h
      obtain ⟨h5, h6⟩ := band h
      cases of_decide_eq_true h1
      exact i_rng1 O A h2 (of_decide_eq_true h3) (by simpa using h6) (soundE O e p A h5).b
    · cases h
  | .rng2 e e', pit, ptg, sc, fn, W, X, A, h => by
    simp only [okI] at h
    split at h
    · rename_i g p q hc
      obtain ⟨_, _, rfl⟩ := callOf_eq hc
      obtain ⟨h1, h⟩ := band h
      obtain ⟨h2, h⟩ := band h
      obtain ⟨h3, h⟩ := band h
      obtain ⟨h5, h⟩ := band h
      obtain ⟨h6, h⟩ := band h
      obtain ⟨h7, h8⟩ := band h
      cases of_decide_eq_true h1
      exact i_rng2 O A h2 (of_decide_eq_true h3) (by simpa using h6) (by simpa using h8) (soundE O e p A h5).b (soundE O e' q A h7).b
    · cases h
  | .enum e, pit, ptg, sc, fn, W, X, A, h => by
    simp only [okI] at h
    split at h
    · rename_i g p hc
      obtain ⟨_, _, rfl⟩ := callOf_eq hc
      obtain ⟨h1, h⟩ := band h
      obtain ⟨h2, h⟩ := band h
      obtain ⟨h3, h⟩ := band h
      obtain ⟨h4, h⟩ := band h
      obtain ⟨h5, h6⟩ := band h
      cases of_decide_eq_true h1
      cases ptg <;> first | (cases h4; done) | skip
      exact i_enum O A h2 (of_decide_eq_true h3) (by simpa using h6) (soundE O e p A h5).b
    · cases h
  | .zip a b, pit, ptg, sc, fn, W, X, A, h => by
    simp only [okI] at h
    split at h
    · rename_i g p q hc
      obtain ⟨_, _, rfl⟩ := callOf_eq hc
      obtain ⟨h1, h⟩ := band h
      obtain ⟨h2, h⟩ := band h
      obtain ⟨h3, h⟩ := band h
      obtain ⟨h4, h⟩ := band h
      obtain ⟨h5, h⟩ := band h
      obtain ⟨h6, h⟩ := band h
      obtain ⟨h7, h8⟩ := band h
      cases of_decide_eq_true h1
      cases ptg <;> first | (cases h4; done) | skip
      exact i_zip O A h2 (of_decide_eq_true h3) (by simpa using h6) (by simpa using h8) (soundE O a p A h5).b (soundE O b q A h7).b
    · cases h
end
end
end Ip

set_option Elab.async false
set_option linter.all false
set_option maxRecDepth 100000
set_option autoImplicit false
/-! Statements. -/
namespace Ip
open PySem PySem.Spec PyProof.Rows L2

def afterS (T : Tb) (W : WX) (D : Ends) (w : Wd) (r : RS) : Prop :=
  match r with
  | .next ρ st => ∀ w' σ', Fut w w' → Good T w' → w'.st = st → EnvRep T w' ρ σ' → D.nx σ' w'.H
  | .brk ρ st => ∀ w' σ', Fut w w' → Good T w' → w'.st = st → EnvRep T w' ρ σ' → D.bk σ' w'.H
  | .cont ρ st => ∀ w' σ', Fut w w' → Good T w' → w'.st = st → EnvRep T w' ρ σ' → D.ct σ' w'.H
  | .ret d st => ∀ w' v, Fut w w' → Good T w' → w'.st = st → Rep T w' d v → D.rt v w'.H
  | .exc c fs ρ st => ∀ w' σ' cls dx, Fut w w' → Good T w' → w'.st = st → EnvRep T w' ρ σ' → XRep T w' c fs cls dx → W cls dx σ' w'.H
  | .stuck => False
def rdS (T : Tb) (Φ : Fn) (xc : XC) (W : WX) (s : S) : TS := fun D σ H => ∃ w ρ, w.H = H ∧ Good T w ∧ EnvRep T w ρ σ ∧ afterS T W D w (ex Φ xc s ρ w.st)
def rdSs (T : Tb) (Φ : Fn) (xc : XC) (W : WX) (s : List S) : TS := fun D σ H => ∃ w ρ, w.H = H ∧ Good T w ∧ EnvRep T w ρ σ ∧ afterS T W D w (exs Φ xc s ρ w.st)
theorem ps_imp {X : Cx} {e : Stmt} {t t' : TS} (h : PS X e t) (k : ∀ D σ H, t' D σ H → t D σ H) : PS X e t' := ⟨fun pins s σ H D I q => h.run pins s σ H D I (k _ _ _ q)⟩
theorem pss_imp {X : Cx} {e : List Stmt} {t t' : TS} (h : PSs X e t) (k : ∀ D σ H, t' D σ H → t D σ H) : PSs X e t' := ⟨fun pins s σ H D I q => h.run pins s σ H D I (k _ _ _ q)⟩

section
variable {T : Tb} {W : WX} {D : Ends} {w : Wd} {α : Type}
theorem afterS.later {r : RS} {w' : Wd} (h : afterS T W D w r) (f : Fut w w') : afterS T W D w' r := by
  cases r with
  | next ρ st => exact fun w2 σ f2 => h w2 σ (f.trans f2)
  | brk ρ st => exact fun w2 σ f2 => h w2 σ (f.trans f2)
  | cont ρ st => exact fun w2 σ f2 => h w2 σ (f.trans f2)
  | ret d st => exact fun w2 v f2 => h w2 v (f.trans f2)
  | exc c fs ρ st => exact fun w2 σ cls dx f2 => h w2 σ cls dx (f.trans f2)
  | stuck => exact h
theorem afterS.then_ {r : R α} {ρ : Env} {σ : L2.St} {f : α → Store → RS} (re : EnvRep T w ρ σ) (h : afterS T W D w (r.then_ ρ f)) : after T W σ w r fun w1 a => afterS T W D w1 (f a w1.st) := by
  cases r with
  | ok a st =>
    intro w1 f1 g1 e1
    have h : afterS T W D w (f a st) := h
    rw [e1]
    exact h.later f1
  | exc c fs st => exact fun w1 cls dx f1 g1 e1 x => h w1 σ cls dx f1 g1 e1 (re.mono f1) x
  | stuck => exact h
theorem afterS.next {ρ : Env} {σ : L2.St} (h : afterS T W D w (.next ρ w.st)) (g : Good T w) (re : EnvRep T w ρ σ) : D.nx σ w.H := h w σ .refl g rfl re
theorem afterS.seq {r : RS} {k : Env → Store → RS} {N : L2.St → Hp → Prop} (h : afterS T W D w (r.seq k)) (q : ∀ w' σ' ρ', Good T w' → EnvRep T w' ρ' σ' → afterS T W D w' (k ρ' w'.st) → N σ' w'.H) : afterS T W { D with nx := N } w r := by
  cases r with
  | next ρ st =>
    intro w' σ' f g e re
    refine q w' σ' ρ g re ?_
    rw [e]
    exact afterS.later (show afterS T W D w (k ρ st) from h) f
  | brk ρ st => exact h
  | cont ρ st => exact h
  | ret d st => exact h
  | exc c fs ρ st => exact h
  | stuck => exact h
theorem afterS.loop {r : RS} {k : Env → Store → RS} {N : L2.St → Hp → Prop} (h : afterS T W D w (r.loop k)) (q : ∀ w' σ' ρ', Fut w w' → Good T w' → EnvRep T w' ρ' σ' → afterS T W D w' (k ρ' w'.st) → N σ' w'.H) : afterS T W { D with nx := N, ct := N, bk := D.nx } w r := by
  cases r with
  | next ρ st =>
    intro w' σ' f g e re
    refine q w' σ' ρ f g re ?_
    rw [e]
    exact afterS.later (show afterS T W D w (k ρ st) from h) f
  | cont ρ st =>
    intro w' σ' f g e re
    refine q w' σ' ρ f g re ?_
    rw [e]
    exact afterS.later (show afterS T W D w (k ρ st) from h) f
  | brk ρ st => exact h
  | ret d st => exact h
  | exc c fs ρ st => exact h
  | stuck => exact h
end

/-! ### exceptions of own classes -/
/-- what __init__ of an own exception class leaves: the arguments under their names -/
def spI (K : PySem.W.Frag) (C : Addr) (fs : List Str) : Sp := fun vs H Q _ => ∃ (a : Addr) (xs : List V), vs = .ref a :: xs ∧ xs.length = fs.length ∧ xs.length ≤ 900 ∧ H a = some (exo a C none) ∧
  ∀ (H2 : Hp) (d : Addr) (fv : List (Str × V)), H d = none → d ≠ a → H2 a = some (exo a C (some d)) → H2 d = some (exd d fv) → (∀ f v, (fs.zip xs).lookup f = some v → fv.lookup f = some v) → (∀ b, b ≠ a → b ≠ d → H2 b = H b) → Q .non H2
structure ExOk (C : Cfg) (c : Str) (fs : List Str) : Prop where
  mg : C.mg c = some (.ref (C.T.cad c))
  ox : OexC C.T.K (C.T.cad c)
  ini : ∃ (f : Addr) (fd : FuncData) (ps : List Str), PySem.W.findIn C.T.K (.ref (C.T.cad c)) "__init__" = some (some (.ref f)) ∧ PySem.W.typeIn C.T.K (.ref f) = some (.type "function") ∧ FnOk C.P C.w C.T.K C.mg C.base (CX C.P C.w) 1 f fd ps (spI C.T.K (C.T.cad c) fs) ∧ Binds C.T.K fd ps []
  xf : XfC C.T.K (C.T.cad c)
  no : ∀ f ∈ fs, PySem.W.findIn C.T.K (.ref (C.T.cad c)) f = some none
  em : PySem.W.exmOne C.T.K (.ref (C.T.cad c)) (.ref (C.T.cad c)) = some true
structure ExsOk (C : Cfg) (xs : List (Str × List Str)) : Prop where
  ex : ∀ c fs, xs.lookup c = some fs → ExOk C c fs
  lev : 2 ≤ C.lev

structure AtS (C : Cfg) (N : List Str) (sc : Scope) (W : WX) (X : Cx) : Prop extends At C N sc (fun _ => true) W X where
  po : PassesOwn (model X.prog X.w) X.A X.env X.xe
  hs : X.stack = X.env :: X.outer
  hf : X.env.frame = some X.env.locals

/-! ### the text is the statement -/
def isLcE : PySem.Expr → Bool
  | .ListComp _ _ _ _ => true
  | .SetComp _ _ _ _ => true
  | .DictComp _ _ _ _ _ => true
  | _ => false
/-- name = [..] on one line, the name a local of ours alone -/
def lcLocal (sc : Scope) : Tg → PySem.Expr → PySem.Expr → Bool
  | .name _, .Name y py, .ListComp _ _ scope pos => decide (sc.names.lookup y = some .local) && ((py.line == pos.line) && !(scope.names.any fun (n, k) => n == y && (k == .local || k == .cell)))
  | _, _, _ => false
def isNameE : PySem.Expr → Bool
  | .Name _ _ => true
  | _ => false
def subOf : PySem.Expr → Option (PySem.Expr × PySem.Expr)
  | .Subscript po pi _ => some (po, pi)
  | _ => none
def retOf : List Stmt → Option PySem.Expr
  | [p] => (match p with
    | .Return (some pe) _ => some pe
    | _ => none)
  | _ => none
def hand1 : ExceptHandler → Option (Str × Str × PySem.Expr)
  | .ExceptHandler (some (.Name x _)) (some n) b _ => (retOf b).map fun pe => (x, n, pe)
  | _ => none
def handOf : List ExceptHandler → Option (Str × Str × PySem.Expr)
  | [h] => hand1 h
  | _ => none
theorem retOf_eq {b : List Stmt} {pe : PySem.Expr} (h : retOf b = some pe) : ∃ rp, b = [.Return (some pe) rp] := by
  rcases b with _ | ⟨p, _ | ⟨_, _⟩⟩ <;> first | (cases h; done) | skip
  cases p <;> first | (cases h; done) | skip
  rename_i o rp
  cases o <;> first | (cases h; done) | skip
  cases h
  exact ⟨_, rfl⟩
theorem handOf_eq {hs : List ExceptHandler} {x n : Str} {pe : PySem.Expr} (h : handOf hs = some (x, n, pe)) : ∃ px rp p', hs = [.ExceptHandler (some (.Name x px)) (some n) [.Return (some pe) rp] p'] := by
  rcases hs with _ | ⟨⟨pt, pn, ph, hp⟩, _ | ⟨_, _⟩⟩ <;> first | (cases h; done) | skip
  rcases pt with _ | pt <;> first | (cases h; done) | skip
  cases pt <;> first | (cases h; done) | skip
  rcases pn with _ | n <;> first | (cases h; done) | skip
  have h : (retOf ph).map (fun pe => (_, n, pe)) = some _ := h
  obtain ⟨pe', h1, h2⟩ := Option.map_eq_some_iff.mp h
  cases h2
  obtain ⟨rp, rfl⟩ := retOf_eq h1
  exact ⟨_, _, _, rfl⟩
def lcTop : E → Bool
  | .lc _ _ _ _ _ => true
  | .mt (.lc _ _ _ _ _) => true
  | _ => false
mutual
def okSu (N : List Str) (sc : Scope) (i : Nat) (fs : List Str) : Su → PySem.Expr → Bool
  | .fld f, .Attribute (.Name x _) g _ => decide (N[i]? = some x) && (visB sc x && (decide (x ≠ "__debug__") && (decide (x ≠ "__classdict__") && (decide (f = g) && fs.contains f))))
  | .con d, .Constant c _ _ => constB d c
  | .tup es, .Tuple ps _ _ => decide (es.length ≤ 900) && okSus N sc i fs es ps
  | .lst es, .List ps _ => decide (es.length ≤ 900) && okSus N sc i fs es ps
  | _, _ => false
def okSus (N : List Str) (sc : Scope) (i : Nat) (fs : List Str) : List Su → List PySem.Expr → Bool
  | [], [] => true
  | e :: es, p :: ps => okSu N sc i fs e p && (!isStar p && okSus N sc i fs es ps)
  | _, _ => false
end
mutual
def okS (C : Cfg) (xs : List (Str × List Str)) (N : List Str) (sc : Scope) : S → Stmt → Bool
  | .asg t e, .Assign [tg] pe _ => okE C N sc e pe && (okT sc (fun _ => true) N t tg && ((!isLcE pe && (!isTupleE pe || isNameE tg)) || (lcLocal sc t tg pe && lcTop e)))
  | .put o i e, .Assign [tg] pe _ => (match subOf tg with
    | some (po, pi) => okE C N sc e pe && (okE C N sc o po && (okE C N sc i pi && (!isSliceE pi && !isLcE pe)))
    | none => false)
  | .ex e, .Expr pe _ => okE C N sc e pe && !isLcE pe
  | .ret e, .Return (some pe) _ => okE C N sc e pe
  | .retN, .Return none _ => true
  | .ifs c a b, .If pc pa pb _ => okE C N sc c pc && (okSs C xs N sc a pa && okSs C xs N sc b pb)
  | .for_ t it b, .For tg pit pb [] _ => okI C N sc it pit tg && (okT sc (fun _ => true) N t tg && okSs C xs N sc b pb)
  | .while_ c b, .While pc pb [] _ => okE C N sc c pc && okSs C xs N sc b pb
  | .brk, .Break _ => true
  | .cont, .Continue _ => true
  | .pass, .Pass _ => true
  | .raise c es, .Raise (some (.Call (.Name g _) ps [] _)) none _ => decide (c = g) && (glB sc c && ((xs.lookup c).isSome && (!ps.isEmpty && okEs C N sc es ps)))
  | .try_ b c i su, .Try pb hs [] [] _ => (match handOf hs with
    | some (x, n, pe) => decide (c = x) && (glB sc c && (decide (N[i]? = some n) && (decide (sc.names.lookup n = some .local) && (okSs C xs N sc b pb && (match xs.lookup c with
      | some fs => okSu N sc i fs su pe
      | none => false)))))
    | none => false)
  | _, _ => false
def okSs (C : Cfg) (xs : List (Str × List Str)) (N : List Str) (sc : Scope) : List S → List Stmt → Bool
  | [], [] => true
  | s :: ss, p :: ps => okS C xs N sc s p && okSs C xs N sc ss ps
  | _, _ => false
end

section
variable {C : Cfg} {N : List Str} {sc : Scope} {W : WX} {X : Cx} {xs : List (Str × List Str)}
abbrev xcOf (xs : List (Str × List Str)) : XC := fun c => xs.lookup c
abbrev S1 (C : Cfg) (xs : List (Str × List Str)) (W : WX) (s : S) : TS := rdS C.T C.Φ (xcOf xs) W s
abbrev Ss1 (C : Cfg) (xs : List (Str × List Str)) (W : WX) (s : List S) : TS := rdSs C.T C.Φ (xcOf xs) W s
theorem AtS.gl' (A : AtS C N sc W X) {x : Str} (h : glB sc x = true) : Gl X x := A.toAt.gl h
theorem swF {e : PySem.Expr} {t : Option PySem.Expr} {l : Nat} {env : PySem.Env} (h : isLcE e = false) : swapsWith e t l env = pure false := by
  cases e <;> first | rfl | (cases h; done)
theorem swS {tg e : PySem.Expr} {l : Nat} {env : PySem.Env} (h : isLcE e = false) : swapsWithSole [tg] e l env = pure false := swF h
theorem swSt {tg e : PySem.Expr} {env : PySem.Env} (h : isTupleE e = false ∨ isNameE tg = true) : swappedStores [tg] e env = pure none := by
  rcases h with h | h
  · cases e <;> first | (cases h; done) | (cases tg <;> rfl)
  · cases tg <;> first | (cases h; done) | (cases e <;> rfl)
theorem swSub {po pi e : PySem.Expr} {p : Pos} {env : PySem.Env} : swappedStores [.Subscript po pi p] e env = pure none := by
  cases e <;> rfl
theorem swSt' {y : Str} {py : Pos} {e : PySem.Expr} {env : PySem.Env} : swappedStores [.Name y py] e env = pure none := by
  cases e <;> rfl
theorem ss_nil : PSs X [] (Ss1 C xs W []) := pss_imp pss_nil fun D σ H ⟨w, ρ, e, g, re, q⟩ => by
  subst e
  exact afterS.next (show afterS C.T W D w (.next ρ w.st) from q) g re
theorem ss_cons {s : S} {ss : List S} {p : Stmt} {ps : List Stmt} (h1 : PS X p (S1 C xs W s)) (h2 : PSs X ps (Ss1 C xs W ss)) : PSs X (p :: ps) (Ss1 C xs W (s :: ss)) := pss_imp (pss_cons h1 h2) fun D σ H ⟨w, ρ, e, g, re, q⟩ => by
  subst e
  have q : afterS C.T W D w ((ex C.Φ (xcOf xs) s ρ w.st).seq (exs C.Φ (xcOf xs) ss)) := by simpa only [exs] using q
  exact ⟨w, ρ, rfl, g, re, q.seq fun w' σ' ρ' g' re' k => ⟨w', ρ', rfl, g', re', k⟩⟩
theorem ss_asg {t : Tg} {e : E} {tg pe : PySem.Expr} {pos : Pos} (A : AtS C N sc W X) (he : PE X pe (B C W e)) (hg : PG X tg (gT C.T t)) (h : isLcE pe = false) (h2 : isTupleE pe = false ∨ isNameE tg = true) (hst : isStar tg = false) : PS X (.Assign [tg] pe pos) (S1 C xs W (.asg t e)) :=
  ps_imp (ps_asg (pe_ofB he) hg (swS h) (swSt h2) (by rw [assignEach_cons hst]; rfl)) fun D σ H ⟨w, ρ, e', g, re, q⟩ => by
    subst e'
    simp only [ex] at q
    refine goE g re (q.then_ re) fun w1 d v f1 g1 k rv => ?_
    split at k
    · rename_i ρ' hb
      exact ⟨w1, d, ρ, ρ', rfl, g1, re.mono f1, rv, hb, fun σ' re' _ => afterS.next (show afterS C.T W D w1 (.next ρ' w1.st) from k) g1 re'⟩
    · exact k.elim
theorem ss_put {o i e : E} {po pi pe : PySem.Expr} {p pos : Pos} (A : AtS C N sc W X) (he : PE X pe (B C W e)) (ho : PE X po (B C W o)) (hi : PE X pi (B C W i)) (h : isLcE pe = false) (hs : isSliceE pi = false) : PS X (.Assign [.Subscript po pi p] pe pos) (S1 C xs W (.put o i e)) :=
  ps_imp (ps_asg (pe_ofB he) (pg_sub (pe_ofB ho) (pe_ofB hi) (set_of (T := C.T)) (by intro v; cases pi <;> first | rfl | (cases hs; done))) (swS h) swSub (by rw [assignEach_cons rfl]; rfl)) fun D σ H ⟨w, ρ, e', g, re, q⟩ => by
    subst e'
    simp only [ex] at q
    refine goE g re (q.then_ re) fun w1 v vv f1 g1 k rv => ?_
    have re1 := re.mono f1
    refine goE g1 re1 (k.then_ re1) fun w2 x xv f2 g2 k rx => ?_
    have re2 := re1.mono f2
    refine goE g2 re2 (k.then_ re2) fun w3 y yv f3 g3 k ry => ?_
    split at k
    · rename_i st' hp
      exact ⟨w3, x, y, v, st', rfl, g3, rx.mono f3, ry, rv.mono (f2.trans f3), hp, fun w' f g' e => k w' σ f g' e ((re2.mono f3).mono f)⟩
    · exact k.elim
theorem ss_ex {e : E} {pe : PySem.Expr} {pos : Pos} (he : PE X pe (B C W e)) (h : isLcE pe = false) : PS X (.Expr pe pos) (S1 C xs W (.ex e)) :=
  ps_imp (ps_expr (pe_ofB he) (swF h)) fun D σ H ⟨w, ρ, e', g, re, q⟩ => by
    subst e'
    simp only [ex] at q
    exact goE g re (q.then_ re) fun w1 d v f1 g1 k rv => afterS.next (show afterS C.T W D w1 (.next ρ w1.st) from k) g1 (re.mono f1)
theorem ss_ret {e : E} {pe : PySem.Expr} {pos : Pos} (he : PE X pe (B C W e)) : PS X (.Return (some pe) pos) (S1 C xs W (.ret e)) :=
  ps_imp (ps_ret (pe_ofB he)) fun D σ H ⟨w, ρ, e', g, re, q⟩ => by
    subst e'
    simp only [ex] at q
    exact goE g re (q.then_ re) fun w1 d v f1 g1 k rv => k w1 v .refl g1 rfl rv
theorem ss_retN {pos : Pos} : PS X (.Return none pos) (S1 C xs W .retN) :=
  ps_imp ps_retN fun D σ H ⟨w, ρ, e', g, re, q⟩ => by
    subst e'
    simp only [ex] at q
    exact q w .non .refl g rfl rfl
theorem ss_if {c : E} {a b : List S} {pc : PySem.Expr} {pa pb : List Stmt} {pos : Pos} (hc : PT X pc (T1 C W c)) (ha : PSs X pa (Ss1 C xs W a)) (hb : PSs X pb (Ss1 C xs W b)) : PS X (.If pc pa pb pos) (S1 C xs W (.ifs c a b)) :=
  ps_imp (ps_if hc ha hb) fun D σ H ⟨w, ρ, e', g, re, q⟩ => by
    subst e'
    simp only [ex] at q
    show T1 C W c σ w.H (fun d H1 => if d = true then Ss1 C xs W a D σ H1 else Ss1 C xs W b D σ H1)
    refine goT g re (q.then_ re) fun w1 d f1 g1 k => ?_
    have re1 := re.mono f1
    cases d with
    | true => exact ⟨w1, ρ, rfl, g1, re1, k⟩
    | false => exact ⟨w1, ρ, rfl, g1, re1, k⟩
theorem ss_pass {pos : Pos} : PS X (.Pass pos) (S1 C xs W .pass) := ps_imp ps_pass fun D σ H ⟨w, ρ, e', g, re, q⟩ => by
  subst e'
  simp only [ex] at q
  exact afterS.next q g re
theorem ss_brk {pos : Pos} : PS X (.Break pos) (S1 C xs W .brk) := ps_imp ps_break fun D σ H ⟨w, ρ, e', g, re, q⟩ => by
  subst e'
  simp only [ex] at q
  exact q w σ .refl g rfl re
theorem ss_cont {pos : Pos} : PS X (.Continue pos) (S1 C xs W .cont) := ps_imp ps_continue fun D σ H ⟨w, ρ, e', g, re, q⟩ => by
  subst e'
  simp only [ex] at q
  exact q w σ .refl g rfl re
theorem ss_while {c : E} {b : List S} {pc : PySem.Expr} {pb : List Stmt} {pos : Pos} (A : AtS C N sc W X) (hc : PT X pc (T1 C W c)) (hb : PSs X pb (Ss1 C xs W b)) : PS X (.While pc pb [] pos) (S1 C xs W (.while_ c b)) :=
  ps_imp (ps_while A.po hc hb) fun D σ H ⟨w, ρ, e', g, re, q⟩ => by
    subst e'
    simp only [ex] at q
    refine ⟨fun m σ H => ∃ w ρ, w.H = H ∧ Good C.T w ∧ EnvRep C.T w ρ σ ∧ afterS C.T W D w (whileF (ev C.Φ c).t (exs C.Φ (xcOf xs) b) m ρ w.st), ⟨turns, w, ρ, rfl, g, re, q⟩, ?_⟩
    rintro m σ H ⟨w, ρ, rfl, g, re, q⟩
    cases m with
    | zero => exact q.elim
    | succ m =>
      simp only [whileF] at q
      refine goT g re (q.then_ re) fun w1 d f1 g1 k => ?_
      have re1 := re.mono f1
      cases d with
      | true =>
        rw [if_pos rfl] at k ⊢
        exact ⟨fun σ' H' => ∃ w ρ, w.H = H' ∧ Good C.T w ∧ EnvRep C.T w ρ σ' ∧ afterS C.T W D w (whileF (ev C.Φ c).t (exs C.Φ (xcOf xs) b) m ρ w.st), fun σ' H' h => ⟨m, Nat.lt_succ_self _, h⟩,
          w1, ρ, rfl, g1, re1, k.loop fun w' σ' ρ' _ g' re' k => ⟨w', ρ', rfl, g', re', k⟩⟩
      | false =>
        rw [if_neg Bool.false_ne_true] at k ⊢
        exact k.next g1 re1
theorem ss_for {t : Tg} {it : Ip.It} {b : List S} {tg pit : PySem.Expr} {pb : List Stmt} {pos : Pos} (A : AtS C N sc W X) (hi : PI X tg pit (rdI C.T C.Φ W it)) (hg : PG X tg (gT C.T t)) (hb : PSs X pb (Ss1 C xs W b)) (hs : ∀ x, foldedSetIterable pit X.env x = pure x) : PS X (.For tg pit pb [] pos) (S1 C xs W (.for_ t it b)) :=
  ps_imp (ps_for A.po A.calm hi hg hb hs) fun D σ H ⟨w, ρ, e', g, re, q⟩ => by
    subst e'
    simp only [ex] at q
    refine ⟨w, ρ, rfl, g, re, (q.then_ re).imp fun w1 its f1 g1 k J wk => ?_⟩
    have re1 := re.mono f1
    generalize hf : (fun (d : Ip.D) (ρ : Ip.Env) (st : Store) => match bindT st t d ρ with
      | some ρ' => exs C.Φ (xcOf xs) b ρ' st
      | none => .stuck) = f at k
    refine ⟨fun i m σ2 H2 => m = its.items.length - i ∧ i ≤ its.items.length ∧ ∃ w2 ρ2, w2.H = H2 ∧ Good C.T w2 ∧ Fut w1 w2 ∧ EnvRep C.T w2 ρ2 σ2 ∧ afterS C.T W D w2 (forF its f (its.items.drop i) ρ2 w2.st), ⟨_, rfl, Nat.zero_le _, w1, ρ, rfl, g1, .refl, re1, k⟩, ?_⟩
    rintro i m σ2 H2 ⟨rfl, hle, w2, ρ2, rfl, g2, f2, re2, k⟩
    by_cases hlt : i < its.items.length
    · have hd : its.items.drop i = its.items[i] :: its.items.drop (i + 1) := List.drop_eq_getElem_cons hlt
      rw [hd] at k
      simp only [forF] at k
      split at k
      · rename_i hok
        obtain ⟨go, yl⟩ := wk.turn w2 i its.items[i] f2.le g2 hok (List.getElem?_eq_getElem hlt)
        refine .inr ⟨go, fun σ' H' => ∃ w3 ρ3, w3.H = H' ∧ Good C.T w3 ∧ Fut w1 w3 ∧ EnvRep C.T w3 ρ3 σ' ∧ afterS C.T W D w3 (forF its f (its.items.drop (i + 1)) ρ3 w3.st), fun σ' H' nx => ⟨its.items.length - (i + 1), by omega, rfl, hlt, nx⟩, fun x H' y => ?_⟩
        obtain ⟨w3, e3, f3, g3, s3, r3⟩ : ∃ w3 : Wd, w3.H = H' ∧ Fut w2 w3 ∧ Good C.T w3 ∧ w3.st = w2.st ∧ Rep C.T w3 its.items[i] x := by
          rcases yl x H' y with ⟨u, p, rfl, hp, r⟩ | ⟨rfl, r⟩
          · exact ⟨_, rfl, fut_new hp, g2.new hp, rfl, r⟩
          · exact ⟨w2, rfl, .refl, g2, rfl, r⟩
        subst e3
        have k := k.later f3
        rw [← s3] at k
        have k := k.loop (N := fun σ' H' => ∃ w3 ρ3, w3.H = H' ∧ Good C.T w3 ∧ Fut w1 w3 ∧ EnvRep C.T w3 ρ3 σ' ∧ afterS C.T W D w3 (forF its f (its.items.drop (i + 1)) ρ3 w3.st)) fun w' σ' ρ' f' g' re' k => ⟨w', ρ', rfl, g', (f2.trans f3).trans f', re', k⟩
        rw [← hf] at k
        simp only at k
        split at k
        · rename_i ρ' hb'
          refine ⟨w3, its.items[i], ρ2, ρ', rfl, g3, re2.mono f3, r3, hb', fun σ' re' _ => ?_⟩
          rw [← hf]
          exact ⟨w3, ρ', rfl, g3, re', k⟩
        · exact k.elim
      · exact k.elim
    · have e : i = its.items.length := by omega
      subst e
      rw [List.drop_length] at k
      simp only [forF] at k
      split at k
      · rename_i hok
        exact .inl ⟨wk.done w2 f2.le g2 hok, k.next g2 re2⟩
      · exact k.elim
/-- name = [..] on one line -/
theorem ss_asgLc {e : E} {i : Nat} {y : Str} {py : Pos} {own : List (Str × Nat)} {tg : Tg} {it : Ip.It} {ts el : E} {pel ptg pit : PySem.Expr} {pifs : List PySem.Expr} {scope : Scope} {pos spos : Pos} (A : AtS C N sc W X) (hN : N[i]? = some y) (hyl : sc.names.lookup y = some .local)
    (hl : (py.line == pos.line) = true) (ha : (scope.names.any fun (n, k) => n == y && (k == .local || k == .cell)) = false)
    (hb : blkC N sc scope own = true) (hsl : ∀ i ∈ tg.slots, i ∈ own.map (·.2))
    (hi : PI X ptg pit (rdI C.T C.Φ W it))
    (hg : ∀ (s : Shared) (H : Hp) (Ca : Addr) (cl : List (Str × Addr)) (fp : List Addr), PG (X.blk s H scope (compEnvC scope cl Ca X.env) fp) ptg (gT C.T tg))
    (ht : ∀ (s : Shared) (H : Hp) (Ca : Addr) (cl : List (Str × Addr)) (fp : List Addr), PTs (X.blk s H scope (compEnvC scope cl Ca X.env) fp) pifs (T1 C W0 ts))
    (he : ∀ (s : Shared) (H : Hp) (Ca : Addr) (cl : List (Str × Addr)) (fp : List Addr), PE (X.blk s H scope (compEnvC scope cl Ca X.env) fp) pel (B C W0 el)) (hs : ∀ x, foldedSetIterable pit X.env x = pure x)
    (hk : X.env.scope.kind = .function) (himp : ∀ σ H Q, B C W e σ H Q → B C W (.lc own tg it ts el) σ H Q) :
    PS X (.Assign [.Name y py] (.ListComp pel [⟨ptg, pit, pifs, 0⟩] scope pos) spos) (S1 C xs W (.asg (.name i) e)) :=
  ps_imp (ps_setLc A.calm A.nd (by rw [A.N]; exact hN) (by rw [A.sc]; exact hyl) (sw_true hk (by rw [A.sc]; exact hyl) hl ha) hi (blkOk_by (by rw [A.N, A.sc]; exact hb)) hg ht (fun s H Ca cl fp => pe_ofB (he s H Ca cl fp)) hs) fun D σ H ⟨w, ρ, e', g, re, q⟩ => by
    subst e'
    simp only [ex] at q
    refine s_lc A.toAt hb hsl hi hg ht he hs σ w.H _ (himp _ _ _ ⟨w, ρ, rfl, g, re, dpost ((q.then_ re).imp fun w1 d f1 g1 k v rv => ?_)⟩)
    simp only [bindT] at k
    exact k w1 _ .refl g1 rfl ((re.mono f1).set rv i)
/-- raise C(..) -/
theorem ss_raise {c : Str} {es : List E} {fs : List Str} {p pos pos' : Pos} {e1 : PySem.Expr} {ps : List PySem.Expr} (A : AtS C N sc W X) (hx : xs.lookup c = some fs) (O : ExOk C c fs) (hlev : 2 ≤ C.lev) (hg : glB sc c = true) (hst : (e1 :: ps).any isStar = false) (h : PA X (e1 :: ps) (rdEs C.T C.Φ W es)) :
    PS X (.Raise (some (.Call (.Name c p) (e1 :: ps) [] pos)) none pos') (S1 C xs W (.raise c es)) := by
  obtain ⟨f, fd, pn, h1, h2, h3, h4⟩ := O.ini
  have ox := O.ox
  have hmg := O.mg
  rw [← A.K, ← A.P, ← A.w, ← A.mg, ← A.base] at h3
  rw [← A.K] at h1 h2 h4 ox
  rw [← A.mg] at hmg
  simp only [List.any_cons, Bool.or_eq_false_iff] at hst
  refine ps_imp (ps_raise A.calm A.tk (pmk_oex ox h1 h2 h3 (A.room.mono hlev) h4 Paired.nil (fun pins σ H s e s' I c => by exact passL pins σ H s e s' I c) (A.gl' hg) hmg h (glB_dbg hg) (star_cons hst.1) (star_none hst.2))) fun D σ H ⟨w, ρ, e', g, re, q⟩ => ?_
  subst e'
  simp only [ex] at q
  refine goEs g re (q.then_ re) fun w1 ds vs f1 g1 k rv => ?_
  have hx' : xcOf xs c = some fs := hx
  rw [hx'] at k
  simp only at k
  split at k
  · rename_i hc
    obtain ⟨hl, hn⟩ := hc
    have hlv : vs.length = ds.length := rv.length.symm
    refine ⟨by omega, fun a ha => ⟨a, vs ++ [], rfl, by simp; omega, by simp; omega, upd_same, fun H2 d fv hd hda e1 e2 hf hb => ⟨rfl, d, fv, e1, e2, ?_, ?_⟩⟩⟩
    · rw [upd_ne hda] at hd; exact hd
    · have hd : w1.H d = none := by rw [upd_ne hda] at hd; exact hd
      have eH : upd (del H2 a) d (.xd fv) = upd w1.H d (.xd fv) := by
        funext b
        by_cases h1 : b = d
        · subst h1; rw [upd_same, upd_same]
        · rw [upd_ne h1, upd_ne h1]
          by_cases h2 : b = a
          · subst h2
            rw [del_same]; exact ha.symm
          · rw [del_ne h2, hb b h2 h1, upd_ne h2]
      rw [eH]
      refine k _ σ _ _ (fut_new hd) (g1.new hd) rfl ((re.mono f1).mono (fut_new hd)) ⟨by rfl, d, fv, rfl, fz_new g1 hd, fun f dd hl' => ?_⟩
      have key : ∀ (fs : List Str) (ds : List Ip.D) (vs : List V), Reps C.T w1 ds vs → (fs.zip ds).lookup f = some dd → ∃ v, (fs.zip vs).lookup f = some v ∧ Rep C.T w1 dd v := by
        intro fs
        induction fs with
        | nil => intro ds vs _ h; simp at h
        | cons f0 fs ih =>
          intro ds vs r h
          cases ds with
          | nil => simp at h
          | cons d0 ds =>
            obtain ⟨v0, vs', rfl, r0, r'⟩ := r
            simp only [List.zip_cons_cons, List.lookup] at h ⊢
            split at h
            · cases h; exact ⟨v0, rfl, r0⟩
            · exact ih ds vs' r' h
      obtain ⟨v, hv, rv'⟩ := key fs ds vs rv hl'
      exact ⟨v, hf f v (by rw [List.append_nil]; exact hv), rv'.mono (fut_new hd)⟩
  · exact k.elim
end
end Ip

set_option Elab.async false
set_option linter.all false
set_option maxRecDepth 100000
set_option autoImplicit false
/-! try; statements at large. -/
namespace Ip
open PySem PySem.Spec PyProof.Rows L2
section
variable {C : Cfg} {N : List Str} {sc : Scope} {W : WX} {X : Cx} {xs : List (Str × List Str)}

/-- err.f in an except suite, whether or not the dict is frozen -/
def tXf' (a : Addr) (cls : Value) (d : Option Addr) (C : Addr) (f : Str) (te : TE) : TE := fun σ H Q => te σ H fun x H1 => x = .ref a ∧ cls = .ref C ∧ ∃ (dd : Addr) (fs : List (Str × V)) (v : V), d = some dd ∧ Rd H1 dd (.xd fs) ∧ fs.lookup f = some v ∧ Q v H1
theorem pe_xf' {X : Cx} {a C : Addr} {oe : Obj} {cls : Value} {d : Option Addr} {pn : List (Addr × Obj)} {e : Expr} {te : TE} {pos : Pos} {n : Str} (T : XfC X.K C) (hno : PySem.W.findIn X.K (.ref C) n = some none)
    (hz : Zc cls d oe) (hf : ∃ vs, oe.data = .fields vs) (he : PE (X.suite a ((a, oe) :: pn)) e te) (hb : attributeBase e n X.env (eval e X.env) = eval e X.env) :
    PE (X.suite a ((a, oe) :: pn)) (.Attribute e n pos) (tXf' a cls d C n te) := by
  refine ⟨fun pins s σ H Q I h => ?_⟩
  refine attr_of hb (thn (he.run pins s σ H _ I h) fun u s1 hh => ?_)
  obtain ⟨x, H1, I1, rx, rfl, rfl, dd, fs, v, rfl, ea, l, q⟩ := hh
  obtain rfl : u = Value.ref a := rx
  obtain ⟨ha, _⟩ := I1.pin (a, oe) (List.mem_append_left _ List.mem_cons_self)
  obtain ⟨vs, hd⟩ := hf
  have hx : ObjOk X.prog X.w H1 s1.heap dd (.xd fs) := ea.ok I1.hok
  obtain ⟨mA, hns, hr⟩ := hx
  obtain ⟨od, ho, hl⟩ := lookIn_ns hns
  obtain ⟨u, hu, ru⟩ := RelO.some_of (v := v) (o := mA n) (by rw [← l]; exact hr n)
  have J : PySem.W.InstAt s1.heap a oe C (some od) := ⟨ha, hz.1, by unfold PySem.W.notCls; rw [hd] <;> rfl, by rw [hz.2]; exact ho⟩
  exact HandSPX.exc_get I1.kIn J T.ga T.gg T.exC (PySem.W.findObj_own T.hdC hno rfl (by rw [hl, hu])) (handed_of ru) ⟨v, H1, I1.tok _, ru, q⟩

/-- in the suite -/
def SuAt (T : Tb) (c : Str) (i : Nat) (a : Addr) (cls : Value) (d : Option Addr) (w : Wd) (σ : L2.St) (fs : XF) : Prop := σ[i]? = some (some (.ref a)) ∧ XRep T w c fs cls d
theorem XRep.mono {T : Tb} {w w' : Wd} {c : Str} {fs : XF} {cls : Value} {d : Option Addr} (h : XRep T w c fs cls d) (f : Fut w w') : XRep T w' c fs cls d := by
  obtain ⟨h1, a, fs', h2, h3, h4⟩ := h
  exact ⟨h1, a, fs', h2, f.le.fz _ _ h3, fun g dd e => let ⟨v, x, y⟩ := h4 g dd e; ⟨v, x, y.mono f⟩⟩
def rdSu (T : Tb) (c : Str) (i : Nat) (a : Addr) (cls : Value) (d : Option Addr) (su : Su) : TE := fun σ H Q => ∃ w fs r, w.H = H ∧ Good T w ∧ SuAt T c i a cls d w σ fs ∧ evSu fs su = some r ∧ ∀ w' v, Fut w w' → Good T w' → w'.st = w.st → Rep T w' r v → Q v w'.H
def rdSus (T : Tb) (c : Str) (i : Nat) (a : Addr) (cls : Value) (d : Option Addr) (su : List Su) : TA := fun σ H Q => ∃ w fs r, w.H = H ∧ Good T w ∧ SuAt T c i a cls d w σ fs ∧ evSus fs su = some r ∧ ∀ w' v, Fut w w' → Good T w' → w'.st = w.st → Reps T w' r v → Q v w'.H
theorem evSus_len {fs : XF} : ∀ {es : List Su} {ds : List Ip.D}, evSus fs es = some ds → ds.length = es.length
  | [], ds, h => by simp only [evSus, Option.some.injEq] at h; subst h; rfl
  | e :: es, ds, h => by
    simp only [evSus] at h
    split at h
    · rename_i d ds' _ h2
      cases h
      simp [evSus_len h2]
    · cases h
mutual
theorem s_su {c : Str} {fs0 : List Str} {i : Nat} {a : Addr} {oe : Obj} {cls : Value} {d : Option Addr} {pn : List (Addr × Obj)} (hN : X.N = N) (hsc : X.env.scope = sc) (hx : N[i]? ≠ none → True) (T : XfC X.K (C.T.cad c)) (hno : ∀ f ∈ fs0, PySem.W.findIn X.K (.ref (C.T.cad c)) f = some none)
    (hz : Zc cls d oe) (hf : ∃ vs, oe.data = .fields vs) : ∀ (su : Su) (pe : PySem.Expr), okSu N sc i fs0 su pe = true → PE (X.suite a ((a, oe) :: pn)) pe (rdSu C.T c i a cls d su)
  | .fld f, pe, h => by
    cases pe <;> first | (simp [okSu] at h; done) | skip
    rename_i po g pos
    cases po <;> first | (simp [okSu] at h; done) | skip
    rename_i x p
    simp only [okSu, Bool.and_eq_true, decide_eq_true_eq] at h
    obtain ⟨h1, h2, h3, h4, rfl, h6⟩ := h
    have hv : Vis X.env.scope x := by
      rw [hsc]
      simp only [visB, Bool.or_eq_true, decide_eq_true_eq] at h2
      exact h2
    refine pe_imp (pe_xf' T (hno f (by simpa using h6)) hz hf (pe_var (X := X.suite a ((a, oe) :: pn)) (i := i) (by show X.N[i]? = _; rw [hN]; exact h1) hv (by simpa using h3) (by simpa using h4)) rfl) fun σ H Q q => ?_
    obtain ⟨w, fs, r, rfl, g, ⟨s1, s2, dx, fs', s3, s4, s5⟩, he, q⟩ := q
    obtain ⟨v, l, rv⟩ := s5 f r he
    exact ⟨.ref a, s1, rfl, s2, dx, fs', v, s3, s4.1, l, q w v .refl g rfl rv⟩
  | .con dd, pe, h => by
    cases pe <;> first | (simp [okSu] at h; done) | skip
    rename_i k kk pos
    have h : constB dd k = true := by simpa only [okSu] using h
    have fin : ∀ {v : V}, (∀ w, Rep C.T w dd v) → PE (X.suite a ((a, oe) :: pn)) (.Constant k kk pos) (tC v) → PE (X.suite a ((a, oe) :: pn)) (.Constant k kk pos) (rdSu C.T c i a cls d (.con dd)) := fun {v} rr p => pe_imp p fun σ H Q q => by
      obtain ⟨w, fs, r, rfl, g, sa, he, q⟩ := q
      simp only [evSu, Option.some.injEq] at he
      subst he
      exact q w v .refl g rfl (rr w)
    cases dd <;> cases k <;> first | (cases h; done) | skip
    · exact fin (v := .non) (fun _ => rfl) pe_non
    · cases (beq_iff_eq.mp (show (_ == _) = true from h))
      exact fin (v := .bl _) (fun _ => rfl) pe_bl
    · cases of_decide_eq_true h
      exact fin (v := .int _) (fun _ => rfl) pe_int
    · cases of_decide_eq_true h
      exact fin (v := .str _) (fun _ => rfl) pe_str
  | .tup es, pe, h => by
    cases pe <;> first | (simp [okSu] at h; done) | skip
    simp only [okSu, Bool.and_eq_true, decide_eq_true_eq] at h
    refine pe_imp (pe_tup (s_sus hN hsc hx T hno hz hf es _ h.2)) fun σ H Q q => ?_
    obtain ⟨w, fs, r, rfl, g, sa, he, q⟩ := q
    simp only [evSu, Option.map_eq_some_iff] at he
    obtain ⟨ds, he, rfl⟩ := he
    have hl := evSus_len he
    exact ⟨w, fs, ds, rfl, g, sa, he, fun w1 vs f1 g1 e1 rv => ⟨by rw [← rv.length, ← maxLen_eq, hl]; show _ ≤ 16777216; omega, fun p hp => q _ _ (f1.trans (fut_new hp)) (g1.new hp) e1 ⟨p, vs, rfl, .inl (fz_new g1 hp), rv.mono (fut_new hp)⟩⟩⟩
  | .lst es, pe, h => by
    cases pe <;> first | (simp [okSu] at h; done) | skip
    simp only [okSu, Bool.and_eq_true, decide_eq_true_eq] at h
    refine pe_imp (pe_lst (s_sus hN hsc hx T hno hz hf es _ h.2)) fun σ H Q q => ?_
    obtain ⟨w, fs, r, rfl, g, sa, he, q⟩ := q
    simp only [evSu, Option.map_eq_some_iff] at he
    obtain ⟨ds, he, rfl⟩ := he
    have hl := evSus_len he
    exact ⟨w, fs, ds, rfl, g, sa, he, fun w1 vs f1 g1 e1 rv => ⟨by rw [← rv.length, ← maxLen_eq, hl]; show _ ≤ 16777216; omega, fun p hp => q _ _ (f1.trans (fut_new hp)) (g1.new hp) e1 ⟨p, vs, rfl, fz_new g1 hp, rv.mono (fut_new hp)⟩⟩⟩
theorem s_sus {c : Str} {fs0 : List Str} {i : Nat} {a : Addr} {oe : Obj} {cls : Value} {d : Option Addr} {pn : List (Addr × Obj)} (hN : X.N = N) (hsc : X.env.scope = sc) (hx : N[i]? ≠ none → True) (T : XfC X.K (C.T.cad c)) (hno : ∀ f ∈ fs0, PySem.W.findIn X.K (.ref (C.T.cad c)) f = some none)
    (hz : Zc cls d oe) (hf : ∃ vs, oe.data = .fields vs) : ∀ (su : List Su) (pe : List PySem.Expr), okSus N sc i fs0 su pe = true → PA (X.suite a ((a, oe) :: pn)) pe (rdSus C.T c i a cls d su)
  | [], [], h => pa_imp pa_nil fun σ H Q q => by
    obtain ⟨w, fs, r, rfl, g, sa, he, q⟩ := q
    simp only [evSus, Option.some.injEq] at he
    subst he
    exact q w [] .refl g rfl rfl
  | [], _ :: _, h => by simp [okSus] at h
  | _ :: _, [], h => by simp [okSus] at h
  | e :: es, p :: ps, h => by
    simp only [okSus, Bool.and_eq_true, Bool.not_eq_true'] at h
    refine pa_imp (pa_cons (s_su hN hsc hx T hno hz hf e p h.1) (s_sus hN hsc hx T hno hz hf es ps h.2.2) (star_cons h.2.1)) fun σ H Q q => ?_
    obtain ⟨w, fs, r, rfl, g, sa, he, q⟩ := q
    simp only [evSus] at he
    split at he
    · rename_i d1 ds h1 h2
      cases he
      exact ⟨w, fs, d1, rfl, g, sa, h1, fun w1 v f1 g1 e1 rv => ⟨w1, fs, ds, rfl, g1, ⟨sa.1, sa.2.mono f1⟩, h2, fun w2 vs f2 g2 e2 rvs => q w2 (v :: vs) (f1.trans f2) g2 (e2.trans e1) (Reps.cons (rv.mono f2) rvs)⟩⟩
    · cases he
end
theorem AtS.tr (A : AtS C N sc W X) {W' : WX} {pn : List (Addr × Obj)} {xe : Value → Shared → Prop} (tk : Takes (X.tr pn xe) W') (hp : PassesOwn (model X.prog X.w) X.A X.env xe) : AtS C N sc W' (X.tr pn xe) :=
  { K := A.K, P := A.P, w := A.w, mg := A.mg, base := A.base, N := A.N, nd := A.nd, sc := A.sc, fn := A.fn, calm := A.calm, room := A.room, tk := tk, po := hp, hs := A.hs, hf := A.hf }
theorem ss_try {b : List S} {c : Str} {i : Nat} {su : Su} {pb : List Stmt} {n : Str} {pe : PySem.Expr} {np rp p' pos : Pos} {fs : List Str} (A : AtS C N sc W X) (hx : xs.lookup c = some fs) (O : ExOk C c fs) (hg : glB sc c = true) (hi : N[i]? = some n) (hn : sc.names.lookup n = some .local)
    (hb : ∀ (W' : WX) (X' : Cx), AtS C N sc W' X' → PSs X' pb (Ss1 C xs W' b)) (hsu : okSu N sc i fs su pe = true) :
    PS X (.Try pb [.ExceptHandler (some (.Name c np)) (some n) [.Return (some pe) rp] p'] [] [] pos) (S1 C xs W (.try_ b c i su)) := by
  have hN : X.N = N := A.N
  have hsc : X.env.scope = sc := A.sc
  refine ps_imp (ps_try_as (i := i) (c := .ref (C.T.cad c)) (tb := fun W' => Ss1 C xs W' b) (ts := fun a cls d => tRet (rdSu C.T c i a cls d su)) (Wout := W) A.hs A.hf A.nd (by rw [hN]; exact hi) (by show X.env.scope.names.lookup n = _; rw [hsc]; exact hn)
    ⟨A.gl' hg, glB_dbg hg, .inl (by rw [A.mg]; exact O.mg)⟩ A.tk (fun W' pn xe tk hp => hb W' _ (A.tr tk hp))
    (fun a oe cls d pn hz hf => pss_one (ps_ret (s_su hN hsc (fun _ => trivial) (by rw [A.K]; exact O.xf) (by rw [A.K]; exact O.no) hz hf su pe hsu)))) fun D σ H ⟨w, ρ, e', g, re, q⟩ => ?_
  subst e'
  simp only [ex] at q
  refine ⟨w, ρ, rfl, g, re, ?_⟩
  generalize hr : exs C.Φ (xcOf xs) b ρ w.st = r at q
  cases r with
  | next ρ' st => exact q
  | brk ρ' st => exact q
  | cont ρ' st => exact q
  | ret d st => exact q
  | stuck => exact q
  | exc c' fs' ρ' st =>
    intro w' σ' cls dx f' g' e' re' xr
    simp only at q
    split at q
    · rename_i hc
      obtain ⟨rfl, hl⟩ := hc
      split at q
      · rename_i d hd
        obtain ⟨rfl, x2⟩ := id xr
        refine ⟨true, by rw [A.K]; exact O.em, fun _ a ha => ?_, fun z => (Bool.noConfusion z)⟩
        exact ⟨w', fs', d, rfl, g', ⟨List.getElem?_set_self (by rw [← re'.1]; exact hl), xr⟩, hd, fun w2 v f2 g2 e2 rv => q w2 v (f'.trans f2) g2 (e2.trans e') rv⟩
      · exact q.elim
    · exact q.elim
theorem ss_asgLc2 (O : C.Ok) (A : AtS C N sc W X) (hk : sc.kind = .function) {e : E} {i : Nat} {y : Str} {py : Pos} {own : List (Str × Nat)} {tg : Tg} {it : Ip.It} {ts el : E} {pe : PySem.Expr} {pos : Pos} (himp : ∀ σ H Q, B C W e σ H Q → B C W (.lc own tg it ts el) σ H Q)
    (h1 : okE C N sc (.lc own tg it ts el) pe = true) (h2 : okT sc (fun _ => true) N (.name i) (.Name y py) = true) (h3 : lcLocal sc (.name i) (.Name y py) pe = true) : PS X (.Assign [.Name y py] pe pos) (S1 C xs W (.asg (.name i) e)) := by
  cases pe <;> first | (cases h3; done) | skip
  rename_i pel gs scope lpos
  simp only [lcLocal, Bool.and_eq_true, decide_eq_true_eq, Bool.not_eq_true'] at h3
  obtain ⟨h31, h32, h33⟩ := h3
  rcases gs with _ | ⟨⟨ptg, pit, pifs, asy⟩, _ | ⟨_, _⟩⟩ <;> first | (simp [okE] at h1; done) | skip
  simp only [okE] at h1
  obtain ⟨ha, hh⟩ := band h1
  clear h1
  cases of_decide_eq_true ha
  obtain ⟨hb, h⟩ := band hh
  obtain ⟨k1, h⟩ := band h
  obtain ⟨k2, h⟩ := band h
  obtain ⟨k3, h⟩ := band h
  obtain ⟨k4, k5⟩ := band h
  have A' := A.toAt
  have hi := soundI O it pit ptg A' k1
  have hg : ∀ (s : Shared) (H : Hp) (Ca : Addr) (cl : List (Str × Addr)) (fp : List Addr), PG (X.blk s H scope (compEnvC scope cl Ca X.env) fp) ptg (gT C.T tg) := fun s H Ca cl fp => s_tg (A'.blk s H scope Ca cl fp) k2
  have ht : ∀ (s : Shared) (H : Hp) (Ca : Addr) (cl : List (Str × Addr)) (fp : List Addr), PTs (X.blk s H scope (compEnvC scope cl Ca X.env) fp) pifs (T1 C W0 ts) := fun s H Ca cl fp => by
    rcases pifs with _ | ⟨q, _ | ⟨_, _⟩⟩
    · cases ts <;> first | exact pts_no | (cases k4; done)
    · exact pts_one (soundE O ts q (A'.blk s H scope Ca cl fp) k4).t
    · cases k4
  have he : ∀ (s : Shared) (H : Hp) (Ca : Addr) (cl : List (Str × Addr)) (fp : List Addr), PE (X.blk s H scope (compEnvC scope cl Ca X.env) fp) pel (B C W0 el) := fun s H Ca cl fp => (soundE O el pel (A'.blk s H scope Ca cl fp) k5).b
  have hs := fold_of (env := X.env) k1
  have hsl : ∀ i ∈ tg.slots, i ∈ own.map (·.2) := fun i hi => by simpa using List.all_eq_true.mp k3 i hi
  simp only [okT, Bool.and_eq_true, decide_eq_true_eq] at h2
  exact ss_asgLc A h2.1 h31 h32 h33 hb hsl hi hg ht he hs (by rw [A'.sc]; exact hk) himp
theorem lcTop_inv {e : E} (h : lcTop e = true) : (∃ own tg it ts el, e = .lc own tg it ts el) ∨ ∃ own tg it ts el, e = .mt (.lc own tg it ts el) := by
  cases e <;> first | (cases h; done) | skip
  · rename_i e
    cases e <;> first | (cases h; done) | skip
    exact .inr ⟨_, _, _, _, _, rfl⟩
  · exact .inl ⟨_, _, _, _, _, rfl⟩
theorem put_inv {o i e : E} {p : Stmt} (h : okS C xs N sc (.put o i e) p = true) : ∃ po pi p2 pe pos, p = .Assign [.Subscript po pi p2] pe pos := by
  cases p <;> first | (simp [okS] at h; done) | skip
  rename_i tgs pe pos
  rcases tgs with _ | ⟨tg, _ | ⟨tg2, r⟩⟩ <;> first | (simp [okS] at h; done) | skip
  cases tg <;> first | (simp [okS, subOf] at h; done) | skip
  exact ⟨_, _, _, _, _, rfl⟩
theorem try_inv {b : List S} {c : Str} {i : Nat} {su : Su} {p : Stmt} (h : okS C xs N sc (.try_ b c i su) p = true) : ∃ pb hs x n pe pos, p = .Try pb hs [] [] pos ∧ handOf hs = some (x, n, pe) := by
  cases p <;> first | (simp [okS] at h; done) | skip
  rename_i pb hs oe fin pos
  cases oe <;> first | (simp [okS] at h; done) | skip
  cases fin <;> first | (simp [okS] at h; done) | skip
  simp only [okS] at h
  split at h
  · rename_i e
    exact ⟨_, _, _, _, _, _, rfl, e⟩
  · cases h
theorem raise_inv {c : Str} {es : List E} {p : Stmt} (h : okS C xs N sc (.raise c es) p = true) : ∃ g gp ps cpos pos, p = .Raise (some (.Call (.Name g gp) ps [] cpos)) none pos := by
  cases p <;> first | (simp [okS] at h; done) | skip
  rename_i o cause pos
  rcases o with _ | pe <;> first | (simp [okS] at h; done) | skip
  cases pe <;> first | (simp [okS] at h; done) | skip
  rename_i pf ps kw cpos
  cases pf <;> first | (simp [okS] at h; done) | skip
  cases kw <;> first | (simp [okS] at h; done) | skip
  cases cause <;> first | (simp [okS] at h; done) | skip
  exact ⟨_, _, _, _, _, rfl⟩
theorem asg_inv {t : Tg} {e : E} {p : Stmt} (h : okS C xs N sc (.asg t e) p = true) : ∃ tg pe pos, p = .Assign [tg] pe pos := by
  cases p <;> first | (simp [okS] at h; done) | skip
  rename_i tgs pe pos
  rcases tgs with _ | ⟨tg, _ | ⟨_, _⟩⟩ <;> first | (simp [okS] at h; done) | skip
  exact ⟨_, _, _, rfl⟩
mutual
theorem soundS (O : C.Ok) (EO : ExsOk C xs) (hk : sc.kind = .function) : ∀ (s : S) (p : Stmt) {W : WX} {X : Cx}, AtS C N sc W X → okS C xs N sc s p = true → PS X p (S1 C xs W s)
  | .asg t e, p, W, X, A, h => by
    obtain ⟨tg, pe, pos, rfl⟩ := asg_inv h
    simp only [okS] at h
    obtain ⟨h1, h⟩ := band h
    obtain ⟨h2, h3⟩ := band h
    rcases Bool.or_eq_true_iff.mp h3 with h5 | h5
    · simp only [Bool.and_eq_true, Bool.not_eq_true', Bool.or_eq_true] at h5
      have hst : isStar tg = false := by
        cases tg <;> first | rfl | (cases t <;> simp [okT] at h2)
      exact ss_asg A (soundE O e pe A.toAt h1).b (s_tg A.toAt h2) h5.1 h5.2 hst
    · clear h3
      obtain ⟨h3, h4⟩ := band h5
      clear h5
      cases t <;> first | (cases h3; done) | skip
      cases tg <;> first | (cases h3; done) | skip
      rcases lcTop_inv h4 with ⟨a1, a2, a3, a4, a5, rfl⟩ | ⟨a1, a2, a3, a4, a5, rfl⟩
      · exact ss_asgLc2 O A hk (fun _ _ _ q => q) h1 h2 h3
      · exact ss_asgLc2 O A hk mt_imp (band (show (plainT pe && okE C N sc _ pe) = true by simpa only [okE] using h1)).2 h2 h3
  | .put o i e, p, W, X, A, h => by
    obtain ⟨po, pi, p2, pe, pos, rfl⟩ := put_inv h
    have h : (okE C N sc e pe && (okE C N sc o po && (okE C N sc i pi && (!isSliceE pi && !isLcE pe)))) = true := by simpa only [okS, subOf] using h
    obtain ⟨h1, h⟩ := band h
    obtain ⟨h2, h⟩ := band h
    obtain ⟨h3, h⟩ := band h
    obtain ⟨h4, h5⟩ := band h
    exact ss_put A (soundE O e pe A.toAt h1).b (soundE O o po A.toAt h2).b (soundE O i pi A.toAt h3).b (by simpa using h5) (by simpa using h4)
  | .putF o f e, p, W, X, A, h => by simp [okS] at h
  | .ex e, p, W, X, A, h => by
    cases p <;> first | (simp [okS] at h; done) | skip
    simp only [okS, Bool.and_eq_true, Bool.not_eq_true'] at h
    exact ss_ex (soundE O e _ A.toAt h.1).b h.2
  | .ret e, p, W, X, A, h => by
    cases p <;> first | (simp [okS] at h; done) | skip
    rename_i o pos
    cases o <;> first | (simp [okS] at h; done) | skip
    exact ss_ret (soundE O e _ A.toAt (by simpa only [okS] using h)).b
  | .retN, p, W, X, A, h => by
    cases p <;> first | (simp [okS] at h; done) | skip
    rename_i o pos
    cases o <;> first | (simp [okS] at h; done) | exact ss_retN
  | .ifs c a b, p, W, X, A, h => by
    cases p <;> first | (simp [okS] at h; done) | skip
    simp only [okS, Bool.and_eq_true] at h
    exact ss_if (soundE O c _ A.toAt h.1).t (soundSs O EO hk a _ A h.2.1) (soundSs O EO hk b _ A h.2.2)
  | .for_ t it b, p, W, X, A, h => by
    cases p <;> first | (simp [okS] at h; done) | skip
    rename_i tg pit pb oe pos
    cases oe <;> first | (simp [okS] at h; done) | skip
    simp only [okS, Bool.and_eq_true] at h
    exact ss_for A (soundI O it _ _ A.toAt h.1) (s_tg A.toAt h.2.1) (soundSs O EO hk b _ A h.2.2) (fold_of h.1)
  | .while_ c b, p, W, X, A, h => by
    cases p <;> first | (simp [okS] at h; done) | skip
    rename_i pc pb oe pos
    cases oe <;> first | (simp [okS] at h; done) | skip
    simp only [okS, Bool.and_eq_true] at h
    exact ss_while A (soundE O c _ A.toAt h.1).t (soundSs O EO hk b _ A h.2)
  | .brk, p, W, X, A, h => by cases p <;> first | (simp [okS] at h; done) | exact ss_brk
  | .cont, p, W, X, A, h => by cases p <;> first | (simp [okS] at h; done) | exact ss_cont
  | .pass, p, W, X, A, h => by cases p <;> first | (simp [okS] at h; done) | exact ss_pass
  | .raise c es, p, W, X, A, h => by
    obtain ⟨g, gp, ps, cpos, pos, rfl⟩ := raise_inv h
    simp only [okS, Bool.and_eq_true, decide_eq_true_eq, Bool.not_eq_true'] at h
    obtain ⟨rfl, h1, h2, h3, h4⟩ := h
    obtain ⟨fs, hx⟩ := Option.isSome_iff_exists.mp h2
    cases ps with
    | nil => cases h3
    | cons e1 ps => exact ss_raise A hx (EO.ex c fs hx) EO.lev h1 (okEs_star h4) (soundEs O es _ A.toAt h4)
  | .try_ b c i su, p, W, X, A, h => by
    obtain ⟨pb, hs, x, n, pe, pos, rfl, e⟩ := try_inv h
    simp only [okS, e] at h
    obtain ⟨px, rp, p', rfl⟩ := handOf_eq e
    obtain ⟨h1, h⟩ := band h
    obtain ⟨h2, h⟩ := band h
    obtain ⟨h3, h⟩ := band h
    obtain ⟨h4, h⟩ := band h
    obtain ⟨h5, h6⟩ := band h
    cases of_decide_eq_true h1
    split at h6
    · rename_i fs hx
      exact ss_try A hx (EO.ex c fs hx) h2 (of_decide_eq_true h3) (of_decide_eq_true h4) (fun W' X' A' => soundSs O EO hk b pb A' h5) h6
    · cases h6
  | .aug i op e, p, W, X, A, h => by simp [okS] at h
theorem soundSs (O : C.Ok) (EO : ExsOk C xs) (hk : sc.kind = .function) : ∀ (s : List S) (p : List Stmt) {W : WX} {X : Cx}, AtS C N sc W X → okSs C xs N sc s p = true → PSs X p (Ss1 C xs W s)
  | [], [], W, X, A, h => ss_nil
  | [], _ :: _, W, X, A, h => by simp [okSs] at h
  | _ :: _, [], W, X, A, h => by simp [okSs] at h
  | s :: ss, p :: ps, W, X, A, h => by
    simp only [okSs, Bool.and_eq_true] at h
    exact ss_cons (soundS O EO hk s p A h.1) (soundSs O EO hk ss ps A h.2)
end
end
end Ip

set_option Elab.async false
set_option linter.all false
set_option maxRecDepth 100000
set_option autoImplicit false
/-! Defs: the end of a call; the table. -/
namespace Ip
open PySem PySem.Spec PyProof.Rows L2
section
variable {T : Tb}
theorem fin_ref {w : Wd} {m i : Nat} {xs : List D} {v : V} (g : Good T w) (hr : Rep T w (.ref i) v) (hi : w.st[i]? = some (.lst xs)) (hm : ¬ i < m) : ∃ a vs, v = .ref a ∧ (w.cut m).Fz a (.lst vs) ∧ Reps T w xs vs := by
  obtain ⟨a, ea, rfl, vs, hH, rs⟩ := g.stOf hi (fun z => nomatch z) hr
  refine ⟨a, vs, rfl, ⟨.inl hH, fun y => ?_, g.pout a (List.mem_of_getElem? ea)⟩, rs⟩
  obtain ⟨j, hj⟩ := List.mem_iff_getElem?.mp (show some a ∈ w.eta.take m from y)
  have hjm : j < m := by
    have := (List.getElem?_eq_some_iff.mp hj).1
    rw [List.length_take] at this; omega
  rw [List.getElem?_take_of_lt hjm] at hj
  exact hm (g.inj i j a ea hj ▸ hjm)
theorem fin1_ok {w : Wd} {m : Nat} {d e : D} {v : V} (g : Good T w) (hr : Rep T w d v) (h : fin1 w.st m d = some e) : Rep T (w.cut m) e v := by
  unfold fin1 at h
  split at h
  · rename_i hk
    cases h
    exact hr.cut hk
  · rename_i hk
    split at h
    · rename_i i
      split at h
      · rename_i xs hi
        split at h
        · rename_i ho
          cases h
          obtain ⟨a, vs, rfl, z, rs⟩ := fin_ref (m := m) g hr hi (by simpa [D.okRef] using hk)
          exact ⟨a, vs, rfl, z, rs.cut ho⟩
        · cases h
      · cases h
    · cases h
theorem fins_ok {w : Wd} {m : Nat} (g : Good T w) : ∀ {ds es : List D} {vs : List V}, Reps T w ds vs → fins w.st m ds = some es → Reps T (w.cut m) es vs
  | [], es, vs, hr, h => by
    simp only [fins, Option.some.injEq] at h
    subst h
    exact hr
  | d :: ds, es, vs, hr, h => by
    simp only [fins] at h
    split at h
    · rename_i e es' h1 h2
      cases h
      obtain ⟨v, r, rfl, q1, q2⟩ := hr
      exact ⟨v, r, rfl, fin1_ok g q1 h1, fins_ok g q2 h2⟩
    · cases h
theorem fin_ok {w : Wd} {m : Nat} {d e : D} {v : V} (g : Good T w) (hr : Rep T w d v) (h : fin w.st m d = some e) : Rep T (w.cut m) e v := by
  unfold fin at h
  split at h
  · rename_i hk
    cases h
    exact hr.cut hk
  · rename_i hk
    split at h
    · rename_i i
      split at h
      · rename_i xs hi
        obtain ⟨es, he, rfl⟩ := Option.map_eq_some_iff.mp h
        obtain ⟨a, vs, rfl, z, rs⟩ := fin_ref (m := m) g hr hi (by simpa [D.okRef] using hk)
        exact ⟨a, vs, rfl, z, fins_ok g rs he⟩
      · cases h
    · obtain ⟨es, he, rfl⟩ := Option.map_eq_some_iff.mp h
      obtain ⟨a, vs, rfl, z, rs⟩ := hr
      refine ⟨a, vs, rfl, ?_, fins_ok g rs he⟩
      rcases z with z | z
      · exact .inl (fz_cut z)
      · exact .inr z
    · obtain ⟨es, he, rfl⟩ := Option.map_eq_some_iff.mp h
      obtain ⟨a, vs, rfl, z, rs⟩ := hr
      exact ⟨a, vs, rfl, fz_cut z, fins_ok g rs he⟩
    · cases h
theorem okRefs_mem {m : Nat} {d : D} : ∀ {ds : List D}, okRefs m ds = true → d ∈ ds → d.okRef m = true
  | [], _, h => by cases h
  | x :: xs, k, h => by
    simp only [okRefs, Bool.and_eq_true] at k
    rcases List.mem_cons.mp h with rfl | h
    · exact k.1
    · exact okRefs_mem k.2 h
theorem lookup_mem {f : Str} {d : D} : ∀ {fs : XF}, fs.lookup f = some d → d ∈ fs.map (·.2)
  | [], h => by cases h
  | (g, x) :: fs, h => by
    simp only [List.lookup] at h
    split at h
    · cases h; exact List.mem_cons_self
    · exact List.mem_cons_of_mem _ (lookup_mem h)
theorem oldOk_of {st st' : Store} (h : oldOk st st' = true) : st'.take st.length = st ∨ ∀ o ∈ st'.take st.length, o.okRef st.length = true := by
  unfold oldOk at h
  rcases Bool.or_eq_true_iff.mp h with h | h
  · exact .inl (of_decide_eq_true h)
  · exact .inr fun o ho => List.all_eq_true.mp h o ho
/-- a call's end, with a value -/
theorem close_ok {keep : Bool} {w w' : Wd} {d : D} {v : V} {Q : VK} {W : WX} {σ : L2.St} (g : Good T w) (f : Fut w w') (g' : Good T w') (h : after T W σ w (close keep w.st d w'.st) fun w' d => ∀ v, Rep T w' d v → Q v w'.H) (r : Rep T w' d v) : Q v w'.H := by
  unfold close at h
  split at h
  · exact h w' f g' rfl v r
  · split at h
    · rename_i ho
      split at h
      · rename_i e he
        obtain ⟨gc, fc⟩ := cut_good g g' f (oldOk_of ho)
        exact h _ fc gc rfl v (fin_ok g' r he)
      · exact h.elim
    · exact h.elim
theorem closeX_ok {w w' : Wd} {c : Str} {fs : XF} {cls : Value} {dx : Option Addr} {W : WX} {σ : L2.St} {k : Wd → D → Prop} (g : Good T w) (f : Fut w w') (g' : Good T w') (h : after T W σ w (closeX w.st c fs w'.st) k) (r : XRep T w' c fs cls dx) : W cls dx σ w'.H := by
  unfold closeX at h
  split at h
  · rename_i ho
    obtain ⟨ho, hf⟩ := Bool.and_eq_true_iff.mp ho
    obtain ⟨gc, fc⟩ := cut_good g g' f (oldOk_of ho)
    obtain ⟨h1, a, fs', h2, h3, h4⟩ := r
    exact h (w'.cut w.st.length) cls dx fc gc rfl ⟨h1, a, fs', h2, fz_cut h3, fun f d e => let ⟨v, x, y⟩ := h4 f d e; ⟨v, x, y.cut (okRefs_mem hf (lookup_mem e))⟩⟩
  · exact h.elim
theorem env_start {w : Wd} {ds : List D} {vs : List V} {N : List Str} (r : Reps T w ds vs) : EnvRep T w (ds.map some ++ List.replicate (N.length - ds.length) none) (L2.start N vs) := by
  have hl := r.length
  refine ⟨by simp [L2.start, hl], fun i d h => ?_⟩
  by_cases hi : i < ds.length
  · rw [List.getElem?_append_left (by simpa using hi)] at h
    rw [List.getElem?_map] at h
    cases e : ds[i]? with
    | none => rw [e] at h; cases h
    | some d' =>
      rw [e] at h
      have h : d' = d := by simpa using h
      subst h
      obtain ⟨v, hv, rv⟩ := r.get e
      refine ⟨v, ?_, rv⟩
      unfold L2.start
      rw [List.getElem?_append_left (by simpa [← hl] using hi), List.getElem?_map, hv]
      rfl
  · rw [List.getElem?_append_right (by simpa using hi)] at h
    have := List.mem_of_getElem? h
    rw [List.mem_replicate] at this
    cases this.2
end

/-! ### the table -/
structure DefOk (B : Cfg) (xs : List (Str × List Str)) (tab : Str → Option Df) (f : Str) : Prop where
  ex : ∃ (a : Addr) (fd : FuncData) (ps N : List Str) (pa : Arguments) (body : List Stmt) (scope : Scope) (d : Df), B.mg f = some (.ref a) ∧ L2.FunD B.T.K f f pa body scope [] [] a fd ∧ FnScope N ps scope ∧ Binds B.T.K fd ps [] ∧ tab f = some d ∧ d.np = ps.length ∧ d.nn = N.length ∧
    ∀ Φ lev, okSs { B with Φ := Φ, lev := lev } xs N scope d.body body = true
def lvl (B : Cfg) (xs : List (Str × List Str)) (tab : Str → Option Df) (n : Nat) : Cfg := { B with Φ := callF tab (xcOf xs) n, lev := n + 2 }
theorem run_ok {C : Cfg} {xs : List (Str × List Str)} (O : C.Ok) (EO : ExsOk C xs) {f : Str} {a : Addr} {fd : FuncData} {ps N : List Str} {pa : Arguments} {body : List Stmt} {scope : Scope} {d : Df} (F : L2.FunD C.T.K f f pa body scope [] [] a fd) (S : FnScope N ps scope) (h1 : d.np = ps.length) (h2 : d.nn = N.length)
    (hok : okSs C xs N scope d.body body = true) : FnOk C.P C.w C.T.K C.mg C.base (CX C.P C.w) (C.lev + 1) a fd ps (spF C.T (d.run C.Φ (xcOf xs))) := by
  refine F.ok S (fun vs H Q E h => ?_) fun cdv A outer s H vs Q E hr hsp => ⟨Ss1 C xs (fun cls dx _ H => E cls dx H) d.body, ?_, ?_⟩
  · obtain ⟨w, ds, _, _, r, h⟩ := h
    unfold Df.run at h
    split at h
    · rename_i hl
      rw [← r.length, hl, h1]
    · exact h.elim
  · refine soundSs O EO S.kind d.body body ?_ hok
    exact { K := rfl, P := rfl, w := rfl, mg := rfl, base := rfl, N := rfl, nd := S.nd, sc := rfl, fn := rfl, calm := rfl, room := hr, tk := takes_of rfl rfl rfl rfl, po := passes_of rfl, hs := rfl, hf := rfl }
  · obtain ⟨w, ds, rfl, g, r, h⟩ := hsp
    unfold Df.run at h
    split at h
    · rename_i hl
      refine ⟨w, ds.map some ++ List.replicate (d.nn - d.np) none, rfl, g, ?_, ?_⟩
      · have := env_start (N := N) r
        rw [h2, ← hl]
        exact this
      · generalize exs C.Φ (xcOf xs) d.body (ds.map some ++ List.replicate (d.nn - d.np) none) w.st = rs at h
        cases rs with
        | next ρ st' => exact fun w' σ' f g' e re => close_ok (d := .non) (v := .non) g f g' (by rw [e]; exact h) rfl
        | ret rd st' => exact fun w' v f g' e rv => close_ok g f g' (by rw [e]; exact h) rv
        | exc c fs ρ st' => exact fun w' σ' cls dx f g' e re xr => closeX_ok (W := fun cls dx _ H => E cls dx H) (σ := []) g f g' (by rw [e]; exact h) xr
        | brk ρ st' => exact h.elim
        | cont ρ st' => exact h.elim
        | stuck => exact h.elim
    · exact h.elim
theorem ExOk.at {B : Cfg} {c : Str} {fs : List Str} (h : ExOk B c fs) (Φ : Fn) (lev : Nat) : ExOk { B with Φ := Φ, lev := lev } c fs := ⟨h.mg, h.ox, h.ini, h.xf, h.no, h.em⟩
structure TabOk (B : Cfg) (xs : List (Str × List Str)) (tab : Str → Option Df) : Prop where
  fn : ∀ f ∈ B.fns, DefOk B xs tab f
  gl : ∀ x d, (x, d) ∈ B.globs → ∃ u v, B.mg x = some u ∧ RelV v u ∧ ∀ w, Rep B.T w d v
  fr : ∀ x ∈ B.free, B.mg x = none
  ex : ∀ c fs, xs.lookup c = some fs → ExOk B c fs
theorem lvl_ok {B : Cfg} {xs : List (Str × List Str)} {tab : Str → Option Df} (T : TabOk B xs tab) : ∀ n, (lvl B xs tab n).Ok ∧ ExsOk (lvl B xs tab n) xs
  | 0 => ⟨⟨fun f hf => by
      obtain ⟨a, fd, ps, N, pa, body, scope, d, h1, h2, h3, h4, h5⟩ := (T.fn f hf).ex
      refine ⟨a, fd, ps, h1, h2.kp, ⟨fun vs H Q E h => ?_, fun A outer s H args us vs Q E hr h0 hb hv h => ?_⟩, h4⟩
      · obtain ⟨w, ds, _, _, r, h⟩ := h
        exact h.elim
      · obtain ⟨w, ds, _, _, r, h⟩ := h
        exact h.elim, T.gl, T.fr⟩, ⟨fun c fs h => (T.ex c fs h).at _ _, Nat.le_refl _⟩⟩
  | n + 1 => ⟨⟨fun f hf => by
      obtain ⟨O, EO⟩ := lvl_ok T n
      obtain ⟨a, fd, ps, N, pa, body, scope, d, h1, h2, h3, h4, h5, h6, h7, h8⟩ := (T.fn f hf).ex
      refine ⟨a, fd, ps, h1, h2.kp, ?_, h4⟩
      refine (run_ok O EO h2 h3 h6 h7 (h8 _ _)).imp fun vs H Q E h => ?_
      have e : (lvl B xs tab (n + 1)).Φ f = d.run (callF tab (xcOf xs) n) (xcOf xs) := by
        funext ds st
        show callF tab (xcOf xs) (n + 1) f ds st = _
        simp only [callF, h5]
      rw [e] at h
      exact h, T.gl, T.fr⟩, ⟨fun c fs h => (T.ex c fs h).at _ _, by show 2 ≤ n + 1 + 2; omega⟩⟩
end Ip

set_option Elab.async false
set_option linter.all false
set_option maxRecDepth 100000
set_option autoImplicit false
/-! The head: facts of the written part. -/
namespace Ip
open PySem PySem.Spec PyProof.Rows L2

/-! ### __init__ of an own exception class -/
def okInit1 (N : List Str) (sc : Scope) (f : Str) (i : Nat) (p : Stmt) : Bool := match p with
  | .Assign [.Attribute (.Name s _) g _] (.Name x _) _ => decide (N[0]? = some s) && (decide (g = f) && (decide (N[i]? = some x) && (visB sc s && (visB sc x && (decide (s ≠ "__debug__") && (decide (s ≠ "__classdict__") && (decide (x ≠ "__debug__") && decide (x ≠ "__classdict__"))))))))
  | _ => false
def okInit (N : List Str) (sc : Scope) : List (Str × Nat) → List Stmt → Bool
  | [], [] => true
  | (f, i) :: l, p :: ps => okInit1 N sc f i p && okInit N sc l ps
  | _, _ => false
def tInit (K : PySem.W.Frag) : List (Str × Nat) → TS
  | [] => tNext
  | (f, i) :: r => tSeq (tOst K f (tVar 0) (tVar i)) (tInit K r)
theorem visOf {sc : Scope} {x : Str} (h : visB sc x = true) : Vis sc x := by
  simp only [visB, Bool.or_eq_true, decide_eq_true_eq] at h
  exact h
theorem init_pss {X : Cx} {N : List Str} {sc : Scope} (hN : X.N = N) (hsc : X.env.scope = sc) : ∀ {l : List (Str × Nat)} {ps : List Stmt}, okInit N sc l ps = true → PSs X ps (tInit X.K l)
  | [], [], h => pss_nil
  | [], _ :: _, h => by simp [okInit] at h
  | _ :: _, [], h => by simp [okInit] at h
  | (f, i) :: l, p :: ps, h => by
    have h : (okInit1 N sc f i p && okInit N sc l ps) = true := h
    obtain ⟨h1, h2⟩ := Bool.and_eq_true_iff.mp h
    unfold okInit1 at h1
    split at h1
    · rename_i s sp g gp x xp pos
      simp only [Bool.and_eq_true, decide_eq_true_eq] at h1
      obtain ⟨k1, rfl, k3, k4, k5, k6, k7, k8, k9⟩ := h1
      refine pss_cons (ps_ost (pe_var (i := 0) (by rw [hN]; exact k1) (by rw [hsc]; exact visOf k4) (by simpa using k6) (by simpa using k7)) (pe_var (i := i) (by rw [hN]; exact k3) (by rw [hsc]; exact visOf k5) (by simpa using k8) (by simpa using k9))) (init_pss hN hsc h2)
    · cases h1
theorem init_go {K : PySem.W.Frag} {C a : Addr} (ox : OexC K C) {σ : L2.St} (h0 : σ[0]? = some (some (.ref a))) {D : Ends} {d : Addr} (hda : d ≠ a) : ∀ (l : List (Str × Nat)) (xs : List V) (H : Hp) (fv pre : List (Str × V)),
    (∀ p ∈ l, PySem.W.findIn K (.ref C) p.1 = some none) → l.length = xs.length → (∀ (j : Nat) (p : Str × Nat) (x : V), l[j]? = some p → xs[j]? = some x → σ[p.2]? = some (some x)) → (pre.map (·.1) ++ l.map (·.1)).Nodup →
    H a = some (exo a C (some d)) → H d = some (exd d fv) → fv.length + l.length ≤ 901 → (∀ g v, pre.lookup g = some v → fv.lookup g = some v) →
    (∀ H2 fv2, H2 a = some (exo a C (some d)) → H2 d = some (exd d fv2) → (∀ g v, (pre ++ (l.map (·.1)).zip xs).lookup g = some v → fv2.lookup g = some v) → (∀ b, b ≠ a → b ≠ d → H2 b = H b) → D.nx σ H2) → tInit K l D σ H
  | [], xs, H, fv, pre, hno, hl, hs, hnd, ha, hd, hc, hp, k => k H fv ha hd (fun g v e => hp g v (by simpa using e)) fun _ _ _ => rfl
  | (f, i) :: l, [], H, fv, pre, hno, hl, hs, hnd, ha, hd, hc, hp, k => by simp at hl
  | (f, i) :: l, x :: xs, H, fv, pre, hno, hl, hs, hnd, ha, hd, hc, hp, k => by
    refine ⟨x, hs 0 (f, i) x rfl rfl, .ref a, h0, a, C, rfl, ox, hno (f, i) List.mem_cons_self, .inr ⟨d, fv, ha, hd, by simp at hc; omega, ?_⟩⟩
    have hnd' : (pre.map (·.1) ++ f :: l.map (·.1)).Nodup := hnd
    have hf : f ∉ pre.map (·.1) := fun z => by
      rw [List.nodup_append] at hnd'
      exact hnd'.2.2 f z f List.mem_cons_self rfl
    have hlk : pre.lookup f = none := by
      cases e : pre.lookup f with
      | none => rfl
      | some v =>
        exfalso
        have key : ∀ (pre : List (Str × V)), pre.lookup f = some v → f ∈ pre.map (·.1) := by
          intro pre
          induction pre with
          | nil => intro h; cases h
          | cons p r ih =>
            intro h
            simp only [List.lookup] at h
            split at h
            · rename_i e2; simp at e2; simp [e2]
            · simp [ih h]
        exact hf (key pre e)
    have hlook : ∀ g, (pre ++ [(f, x)]).lookup g = (pre.lookup g).or (if g = f then some x else none) := by
      intro g
      rw [List.lookup_append]
      congr 1
      by_cases e : g = f
      · subst e; simp [List.lookup]
      · have e' : (g == f) = false := by simpa using e
        simp [List.lookup, e, e']
    refine init_go ox h0 hda l xs _ ((f, x) :: fv) (pre ++ [(f, x)]) (fun p hp => hno p (List.mem_cons_of_mem _ hp)) (by simpa using hl) (fun j p y e1 e2 => hs (j + 1) p y e1 e2) (by simpa using hnd') ?_ upd_same (by simp at hc ⊢; omega) (fun g v e => ?_) fun H2 fv2 e1 e2 e3 e4 => k H2 fv2 e1 e2 (fun g v e => e3 g v (by simpa using e)) fun b hb hd' => (e4 b hb hd').trans (upd_ne hd')
    · rw [upd_ne (Ne.symm hda)]; exact ha
    · rw [hlook] at e
      rw [lookup_put]
      by_cases hg : g = f
      · subst hg
        rw [hlk] at e
        simpa using e
      · rw [if_neg hg] at e ⊢
        exact hp g v (by simpa using e)
theorem init_ok {P : Program} {w : World} {K : PySem.W.Frag} {mg : Str → Option Value} {base : Heap} {CX : CXT} {q : Str} {pa : Arguments} {body : List Stmt} {scope : Scope} {f : Addr} {fd : FuncData} {C : Addr} {s0 : Str} {fs : List Str} {l : List (Str × Nat)}
    (F : FunD K "__init__" q pa body scope [] [] f fd) (S : FnScope (s0 :: fs) (s0 :: fs) scope) (hok : okInit (s0 :: fs) scope l body = true) (ox : OexC K C) (hno : ∀ f ∈ fs, PySem.W.findIn K (.ref C) f = some none) (hl : l.map (·.1) = fs) (hi : ∀ (j : Nat) (p : Str × Nat), l[j]? = some p → p.2 = j + 1) (hne : fs ≠ []) (hfn : fs.Nodup) :
    FnOk P w K mg base CX 1 f fd (s0 :: fs) (spI K C fs) := by
  refine F.ok S (fun vs H Q E h => ?_) fun cdv A outer s H vs Q E hr hsp => ⟨tInit K l, init_pss rfl rfl hok, ?_⟩
  · obtain ⟨a, xs, rfl, h1, _⟩ := h
    simp [h1]
  · obtain ⟨a, xs, rfl, h1, h2, h3, h4⟩ := hsp
    have h0 : (L2.start (s0 :: fs) (.ref a :: xs))[0]? = some (some (.ref a)) := rfl
    have hsx : ∀ (j : Nat) (x : V), xs[j]? = some x → (L2.start (s0 :: fs) (.ref a :: xs))[j + 1]? = some (some x) := fun j x e => by
      show ((xs.map some) ++ _)[j]? = some (some x)
      have hj := (List.getElem?_eq_some_iff.mp e).1
      rw [List.getElem?_append_left (by simpa using hj), List.getElem?_map, e]
      rfl
    rcases l with _ | ⟨⟨f0, i0⟩, l⟩
    · exact absurd hl.symm hne
    rcases xs with _ | ⟨x, xs⟩
    · rw [← hl] at h1; simp at h1
    have hi0 : i0 = 1 := hi 0 (f0, i0) rfl
    subst hi0
    have hl' : f0 :: l.map (·.1) = fs := hl
    have hnf : ∀ p ∈ l, PySem.W.findIn K (.ref C) p.1 = some none := fun p hp => hno p.1 (by rw [← hl']; exact List.mem_cons_of_mem _ (List.mem_map_of_mem hp))
    refine ⟨x, hsx 0 x rfl, .ref a, h0, a, C, rfl, ox, hno f0 (by rw [← hl']; exact List.mem_cons_self), .inl ⟨h3, fun d hd hda => ?_⟩⟩
    refine init_go ox h0 hda l xs _ [(f0, x)] [(f0, x)] hnf ?_ (fun j p y e1 e2 => ?_) (by rw [← hl'] at hfn; simpa using hfn) upd_same (by rw [upd_ne hda, upd_same]) ?_ (fun g v e => e) fun H2 fv2 e1 e2 e3 e4 => h4 H2 d fv2 hd hda e1 e2 (fun g v e => e3 g v ?_) fun b hb hb' => ?_
    · rw [← hl] at h1; simp at h1; omega
    · have := hi (j + 1) p e1
      rw [this]
      exact hsx (j + 1) y e2
    · rw [← hl] at h1; simp at h1 h2; simp; omega
    · rw [← hl'] at e
      exact e
    · rw [e4 b hb hb', upd_ne hb, upd_ne hb']

/-! ### facts -/
def oexCls (K : PySem.W.Frag) (C : Addr) : Bool := match K.lookup C with
  | some ⟨.type "type", _, .cls cd, sl⟩ => (match cd.mro, sl.toList with
    | .ref C' :: bm, [_, _, _, _, some (.builtin n), _] => C' == C && (n == "ValueError.__new__" && (cd.hasDict && (!cd.hasDel && PySem.HandSPX.refsVE bm)))
    | _, _ => false)
  | _ => false
theorem oexCls_ok {K : PySem.W.Frag} {C : Addr} (q : oexCls K C = true) : ∃ nm q N bs bm sn sub ab col dd k0 k1 k2 k3 k5, K.lookup C = some (excClassObj nm q C N bs bm true sn sub ab col dd k0 k1 k2 k3 k5 "ValueError.__new__") ∧ PySem.HandSPX.refsVE bm = true := by
  unfold oexCls at q
  split at q
  · rename_i dd cd sl ho
    split at q
    · rename_i C' bm k0 k1 k2 k3 n k5 hm hs
      simp only [Bool.and_eq_true, beq_iff_eq, Bool.not_eq_true'] at q
      obtain ⟨rfl, rfl, hdict, hdel, ht⟩ := q
      obtain ⟨nm, bs, mro, ns, qn, hd, sn, sub, ab, col, del⟩ := cd
      dsimp only at hm hdel hdict
      subst hm hdel hdict
      have hsl : sl = #[k0, k1, k2, k3, some (.builtin "ValueError.__new__"), k5] := by
        obtain ⟨l⟩ := sl
        simp only at hs
        rw [hs]
      subst hsl
      exact ⟨nm, qn, ns, bs, bm, sn, sub, ab, col, dd, k0, k1, k2, k3, k5, ho, ht⟩
    · cases q
  · cases q
/-- an own exception class with these fields -/
def excB (x : Str) (fs : List Str) (K : PySem.W.Frag) : Bool :=
  (He.Fa.glo x).ok K && (oexCls K (He.ga K x) && (decide (PySem.W.findIn K (.ref (He.ga K x)) "__setattr__" = some (some (.builtin "object.__setattr__"))) && (decide (PySem.W.subIn K (.ref (He.ga K x)) (.type "BaseException") = some true) &&
  (decide (PySem.W.typeIn K (.ref (He.ga K x)) = some (.type "type")) && (PySem.W.keepIn K (.ref (He.ga K x)) && (decide (PySem.W.findIn K (.ref (He.ga K x)) "__init__" = some (some (.ref (He.ma K (He.ga K x) "__init__")))) && (decide (PySem.W.typeIn K (.ref (He.ma K (He.ga K x) "__init__")) = some (.type "function")) &&
  (xfB K (He.ga K x) && (fs.all (fun f => decide (PySem.W.findIn K (.ref (He.ga K x)) f = some none)) && decide (PySem.W.exmOne K (.ref (He.ga K x)) (.ref (He.ga K x)) = some true))))))))))
/-- a constant of the module -/
def dv1 : D → Option He.Dv
  | .non => some .non
  | .bl b => some (.bl b)
  | .int i => some (.int i)
  | .str s => some (.str s)
  | _ => none
def dvAll : List D → Option (List He.Dv)
  | [] => some []
  | d :: ds => match dv1 d, dvAll ds with
    | some v, some vs => some (v :: vs)
    | _, _ => none
def globB (x : Str) (d : D) (K : PySem.W.Frag) : Bool := match d with
  | .tup ds => (match dvAll ds with
    | some vs => (He.Fa.glo x).ok K && He.tupB K x vs
    | none => false)
  | .int i => (He.Fa.int x i).ok K
  | .str s => (He.Fa.str x s).ok K
  | _ => false
theorem dv1_rep {T : Tb} {w : Wd} {d : D} {v : He.Dv} (h : dv1 d = some v) : Rep T w d (v.v T.K) := by
  cases d <;> cases h <;> rfl
theorem dvAll_rep {T : Tb} {w : Wd} : ∀ {ds : List D} {vs : List He.Dv}, dvAll ds = some vs → Reps T w ds (vs.map (He.Dv.v T.K))
  | [], vs, h => by simp only [dvAll, Option.some.injEq] at h; subst h; rfl
  | d :: ds, vs, h => by
    simp only [dvAll] at h
    split at h
    · rename_i v vs' h1 h2
      cases h
      exact ⟨_, _, rfl, dv1_rep h1, dvAll_rep h2⟩
    · cases h
theorem globB_ok {T : Tb} {h : Heap} {mg : Str → Option Value} (X : T.K.In h) (G : h.Ns mainGlobals mg) {x : Str} {d : D} (c : globB x d T.K = true) : ∃ u v, mg x = some u ∧ RelV v u ∧ ∀ w, Rep T w d v := by
  unfold globB at c
  split at c
  · rename_i ds
    split at c
    · rename_i vs hv
      obtain ⟨c1, c2⟩ := He.ba c
      refine ⟨_, .ref (He.ga T.K x), He.glo_ok X G c1, rfl, fun w => ⟨_, _, rfl, .inr ?_, dvAll_rep hv⟩⟩
      rcases He.tupB_ok c2 (fun _ => none) with z | z
      · rcases z with z | ⟨o, z⟩ <;> cases z
      · exact z
    · cases c
  · rename_i i
    obtain ⟨t, e⟩ := He.int_ok X G c
    exact ⟨_, .int i, e, ⟨t, rfl⟩, fun w => rfl⟩
  · rename_i s
    obtain ⟨t, e⟩ := He.str_ok X G c
    exact ⟨_, .str s, e, ⟨t, rfl⟩, fun w => rfl⟩
  · cases c
/-! ### the Hook -/
abbrev Fact : Type := PySem.W.Frag → Bool
def obsI (fa : List Fact) (fn : List He.DefD) (K : PySem.W.Frag) : He.AlD := ((fa.all fun f => f K) && fn.all fun d => d.ok K, fn.map fun d => He.fnW K d.at_)
def SaysI (fa : List Fact) (fn : List He.DefD) (K : PySem.W.Frag) : Prop := obsI fa fn K = He.valD fn
def obsIG (n : Nat) (fa : List Fact) (fn : List He.DefD) (g : Addr → Option Obj) : He.AlD := obsI fa fn (He.frG g (He.asD g n))
def hookI (n : Nat) (fa : List Fact) (fn : List He.DefD) : PySem.W.Hook where
  α := He.AlD
  obs := fun s => obsIG n fa fn s.heap.get?
  val := fun _ => He.valD fn
  says := fun _ h => ∃ K : PySem.W.Frag, K.In h ∧ SaysI fa fn K
  of := fun _ _ e => ⟨_, He.frG_in, e⟩
  keeps := fun _ _ _ ⟨K, hK, c⟩ k => ⟨K, PySem.W.Frag.In.keeps hK k, c⟩
theorem obsIG_eq {n : Nat} {fa : List Fact} {fn : List He.DefD} {g : Addr → Option Obj} {s : Shared} (h : ∀ a, g a = s.heap.get? a) : obsIG n fa fn g = (hookI n fa fn).obs s := by
  have e : g = s.heap.get? := funext h
  rw [e] <;> rfl
section
variable {fa : List Fact} {fn : List He.DefD} {K : PySem.W.Frag}
theorem SaysI.fact (c : SaysI fa fn K) {f : Fact} (h : f ∈ fa) : f K = true := by
  have c1 := (He.ba (show ((fa.all fun f => f K) && fn.all fun d => d.ok K) = true from congrArg (fun z : He.AlD => z.1) c)).1
  exact List.all_eq_true.mp c1 f h
theorem SaysI.def_ (c : SaysI fa fn K) {d : He.DefD} (h : d ∈ fn) : ∃ fd, FunD K d.name d.qual d.params d.body d.scope (d.dvs K) (d.kws K) (He.fAd K d.at_) fd := by
  have c2 := (He.ba (show ((fa.all fun f => f K) && fn.all fun d => d.ok K) = true from congrArg (fun z : He.AlD => z.1) c)).2
  have e : fn.map (fun d => He.fnW K d.at_) = fn.map He.DefD.val := congrArg (fun z : He.AlD => z.2) c
  obtain ⟨i, hi⟩ := List.mem_iff_getElem?.mp h
  have e2 : (fn.map fun d => He.fnW K d.at_)[i]? = (fn.map He.DefD.val)[i]? := by rw [e]
  rw [List.getElem?_map, List.getElem?_map, hi] at e2
  exact He.DefD.funD (Option.some.inj e2) (List.all_eq_true.mp c2 d h)
end
end Ip

set_option Elab.async false
set_option linter.all false
set_option maxRecDepth 100000
set_option autoImplicit false
/-! A law's end. -/
namespace Ip
open PySem PySem.Spec PyProof.Rows L2
def faOf (fns free : List Str) (globs : List (Str × D)) (xs : List (Str × List Str)) : List Fact :=
  fns.map (fun f K => (He.Fa.glo f).ok K) ++ (free.map (fun f K => (He.Fa.free f).ok K) ++ (globs.map (fun p => globB p.1 p.2) ++ xs.map (fun p => excB p.1 p.2)))
section
variable {fns free : List Str} {globs : List (Str × D)} {xs : List (Str × List Str)} {fn : List He.DefD} {K : PySem.W.Frag} {h : Heap} {mg : Str → Option Value}
theorem says_glo (c : SaysI (faOf fns free globs xs) fn K) (X : K.In h) (G : h.Ns mainGlobals mg) {f : Str} (hf : f ∈ fns) : mg f = some (.ref (He.ga K f)) :=
  He.glo_ok X G (c.fact (f := fun K => (He.Fa.glo f).ok K) (List.mem_append_left _ (List.mem_map_of_mem (f := fun f K => (He.Fa.glo f).ok K) hf)))
theorem says_free (c : SaysI (faOf fns free globs xs) fn K) (X : K.In h) (G : h.Ns mainGlobals mg) {f : Str} (hf : f ∈ free) : mg f = none :=
  He.free_ok X G (c.fact (f := fun K => (He.Fa.free f).ok K) (List.mem_append_right _ (List.mem_append_left _ (List.mem_map_of_mem (f := fun f K => (He.Fa.free f).ok K) hf))))
theorem says_glb (c : SaysI (faOf fns free globs xs) fn K) {x : Str} {d : D} (hf : (x, d) ∈ globs) : globB x d K = true :=
  c.fact (f := globB x d) (List.mem_append_right _ (List.mem_append_right _ (List.mem_append_left _ (List.mem_map_of_mem (f := fun p : Str × D => globB p.1 p.2) hf))))
theorem mem_of_lookup' {c : Str} {fs : List Str} : ∀ {xs : List (Str × List Str)}, xs.lookup c = some fs → (c, fs) ∈ xs
  | [], h => by cases h
  | (d, gs) :: xs, h => by
    simp only [List.lookup] at h
    split at h
    · rename_i e
      cases h
      have e : c = d := by simpa using e
      rw [e]; exact List.mem_cons_self
    · exact List.mem_cons_of_mem _ (mem_of_lookup' h)
theorem says_exc (c : SaysI (faOf fns free globs xs) fn K) {x : Str} {fs : List Str} (hf : xs.lookup x = some fs) : excB x fs K = true :=
  c.fact (f := excB x fs) (List.mem_append_right _ (List.mem_append_right _ (List.mem_append_right _ (List.mem_map_of_mem (f := fun p : Str × List Str => excB p.1 p.2) (mem_of_lookup' hf)))))
end
/-- a def of the table, by the head's facts -/
theorem defOk_of {B : Cfg} {xs : List (Str × List Str)} {tab : Str → Option Df} {h : Heap} {fn : List He.DefD} {f : Str} {d : He.DefD} {df : Df} {N ps : List Str} (X : B.T.K.In h) (G : h.Ns mainGlobals B.mg) (c : SaysI (faOf B.fns B.free B.globs xs) fn B.T.K)
    (hd : d ∈ fn) (hf : f ∈ B.fns) (e : d = ⟨(f, none), f, f, d.params, d.body, d.scope, [], []⟩) (S : FnScope N ps d.scope)
    (bd : ∀ (kV doc pm : Value) (an : Option Addr) (cdv ct : Value) (us : List Value), us.length = ps.length → bindArgs (PySem.W.fnOf f f d.params d.body d.scope .none kV doc pm an cdv ct) ⟨us, []⟩ = pure (ps.zip us))
    (ht : tab f = some df) (h1 : df.np = ps.length) (h2 : df.nn = N.length) (ok : ∀ Φ lev, okSs { B with Φ := Φ, lev := lev } xs N d.scope df.body d.body = true) : DefOk B xs tab f := by
  obtain ⟨fd, F⟩ := c.def_ hd
  have F : FunD B.T.K f f d.params d.body d.scope [] [] (He.ga B.T.K f) fd := by
    rw [e] at F
    exact F
  exact ⟨⟨_, fd, ps, N, _, _, _, df, says_glo c X G hf, F, S, F.bindsN bd, ht, h1, h2, ok⟩⟩
theorem exOk_of {B : Cfg} {xs : List (Str × List Str)} {h : Heap} {fn : List He.DefD} {x q : Str} {fs : List Str} {d : He.DefD} {s0 : Str} {l : List (Str × Nat)} (hcad : ∀ c, B.T.cad c = He.ga B.T.K c) (X : B.T.K.In h) (G : h.Ns mainGlobals B.mg) (c : SaysI (faOf B.fns B.free B.globs xs) fn B.T.K)
    (hd : d ∈ fn) (hx : xs.lookup x = some fs) (e : d = ⟨(x, some "__init__"), "__init__", q, d.params, d.body, d.scope, [], []⟩) (S : FnScope (s0 :: fs) (s0 :: fs) d.scope)
    (bd : ∀ (kV doc pm : Value) (an : Option Addr) (cdv ct : Value) (us : List Value), us.length = (s0 :: fs).length → bindArgs (PySem.W.fnOf "__init__" q d.params d.body d.scope .none kV doc pm an cdv ct) ⟨us, []⟩ = pure ((s0 :: fs).zip us))
    (hok : okInit (s0 :: fs) d.scope l d.body = true) (hl : l.map (·.1) = fs) (hi : ∀ (j : Nat) (p : Str × Nat), l[j]? = some p → p.2 = j + 1) (hne : fs ≠ []) (hfn : fs.Nodup) : ExOk B x fs := by
  have b := says_exc c hx
  unfold excB at b
  obtain ⟨b1, b⟩ := He.ba b
  obtain ⟨b2, b⟩ := He.ba b
  obtain ⟨b3, b⟩ := He.ba b
  obtain ⟨b4, b⟩ := He.ba b
  obtain ⟨b5, b⟩ := He.ba b
  obtain ⟨b6, b⟩ := He.ba b
  obtain ⟨b7, b⟩ := He.ba b
  obtain ⟨b8, b⟩ := He.ba b
  obtain ⟨b9, b⟩ := He.ba b
  obtain ⟨b10, b11⟩ := He.ba b
  obtain ⟨fd, F⟩ := c.def_ hd
  have F : FunD B.T.K "__init__" q d.params d.body d.scope [] [] (He.ma B.T.K (He.ga B.T.K x) "__init__") fd := by
    rw [e] at F
    exact F
  have ox : OexC B.T.K (He.ga B.T.K x) := ⟨oexCls_ok b2, of_decide_eq_true b3, of_decide_eq_true b4, of_decide_eq_true b5, b6⟩
  have hno : ∀ f ∈ fs, PySem.W.findIn B.T.K (.ref (He.ga B.T.K x)) f = some none := fun f hf => of_decide_eq_true (List.all_eq_true.mp b10 f hf)
  have F1 := init_ok (P := B.P) (w := B.w) (mg := B.mg) (base := B.base) (CX := CX B.P B.w) F S hok ox hno hl hi hne hfn
  constructor
  · rw [hcad]; exact He.glo_ok X G b1
  · rw [hcad]; exact ox
  · rw [hcad]; exact ⟨_, fd, _, of_decide_eq_true b7, of_decide_eq_true b8, F1, F.bindsN bd⟩
  · rw [hcad]; exact xfB_ok b9
  · rw [hcad]; exact hno
  · rw [hcad]; exact of_decide_eq_true b11
/-- nothing leaves the law -/
theorem cx0_of {P : Program} {w : World} {K : PySem.W.Frag} {mg : Str → Option Value} {base : Heap} {k : Nat} {f : Addr} {fd : FuncData} {ps : List Str} {sp : Sp} (F : FnOk P w K mg base (CX P w) k f fd ps sp) : FnOk P w K mg base CX0 k f fd ps (fun vs H Q _ => sp vs H Q E0) :=
  ⟨fun vs H Q E q => F.len vs H Q _ q, fun A outer s H args us vs Q E hr he hb hv hs => codeAny_mono (F.run A outer s H args us vs Q E0 hr he hb hv hs) fun r s' q => by
    cases r with
    | ok fin => cases fin <;> exact q
    | error e =>
      obtain ⟨_, _, _, _, _, _, _, _, _, _, _, _, z⟩ := (show CX P w outer H s E0 e s' from q)
      exact z.elim⟩
theorem good0 {T : Tb} {H : Hp} : Good T ⟨[], [], H, []⟩ := ⟨rfl, fun i a e => by simp at e, fun i j a e => by simp at e, fun i o e => by simp at e, fun a _ => by simp, fun a h => by simp at h⟩
/-- the law's promise -/
def spLaw (T : Tb) (g : List D → Store → R D) : Sp := fun vs H Q _ => spF T g vs H Q E0
theorem law_sp {T : Tb} {g : List D → Store → R D} {m : Nat} (plain : ∀ ns : List Int, ns.length ≤ m → ∃ st, g [.scr ns] [] = .ok (.bl true) st) (H : Hp) (p : Addr) (ns : List Int) (hl : ns.length ≤ m) (hS : SqL T.K H p (ns.map V.int)) : spLaw T g [.ref p] H (fun v _ => v = .bl true) fun _ _ _ => False := by
  obtain ⟨st, e⟩ := plain ns hl
  refine ⟨⟨[], [], H, []⟩, [.scr ns], rfl, good0, ⟨_, _, rfl, ⟨p, rfl, ?_⟩, rfl⟩, ?_⟩
  · rcases hS with z | z
    · exact .inl ⟨z, by simp [Wd.Live], by simp⟩
    · exact .inr z
  · show after T _ [] _ (g [.scr ns] []) _
    rw [e]
    intro w' f g e' v r
    exact r
theorem law_fn {B : Cfg} {xs : List (Str × List Str)} {tab : Str → Option Df} {n : Nat} {a : Addr} {fd : FuncData} {x : Str} {N : List Str} {q : Str} {pa : Arguments} {body : List Stmt} {scope : Scope} {df : Df}
    (TK : TabOk B xs tab) (F : FunD B.T.K q q pa body scope [] [] a fd) (S : FnScope N [x] scope) (h1 : df.np = 1) (h2 : df.nn = N.length) (ok : ∀ Φ lev, okSs { B with Φ := Φ, lev := lev } xs N scope df.body body = true) :
    FnOk B.P B.w B.T.K B.mg B.base CX0 (n + 3) a fd [x] (spLaw B.T (df.run (callF tab (xcOf xs) n) (xcOf xs))) := by
  obtain ⟨O, EO⟩ := lvl_ok TK n
  exact cx0_of (run_ok (C := lvl B xs tab n) O EO F S h1 h2 (ok _ _))
end Ip

set_option Elab.async false
set_option linter.all false
set_option maxRecDepth 100000
set_option autoImplicit false
namespace K70
open Ip PySem
/-! the table: printed by gen.py -/
def g_SMALL : D := (.str "abcdefghijklmnopqrstuvwxyz")
def g_DIGITS : D := (.str "0123456789")
def g_RESERVED : D := (.tup [(.str "kind"), (.str "relation"), (.str "fact"), (.str "rule"), (.str "if"), (.str "not"), (.str "same"), (.str "differ"), (.str "count"), (.str "sum"), (.str "least"), (.str "greatest")])
def g_MOST : D := (.int 1000)
def g_LONGEST_SYMBOL : D := (.int 12)
def g_LONGEST_VARIABLE : D := (.int 8)
def g_BLANKS : D := (.str " \n\t")
def g_SIGNS : D := (.tup [(.str "{"), (.str "}"), (.str "("), (.str ")"), (.str "."), (.str ","), (.str ":"), (.str "="), (.str "<"), (.str "<="), (.str ">"), (.str ">="), (.str "+"), (.str "-"), (.str "*")])
def g_MOST_DIGITS : D := (.int 4)
def g_DEEPEST : D := (.int 12)
def nn_row_of : List Str := ["text", "at", "chars", "end"]
def df_row_of : Df := ⟨3, 4, false, [
  .asg (.name 3) (.var 1),
  .while_ (.and_ (.cmp .Lt (.var 3) (.bi "len" [(.var 0)])) (.cmp .In (.idx (.var 0) (.var 3)) (.var 2))) [
    .asg (.name 3) (.bin .Add (.var 3) (.con (.int 1)))],
  .ret (.slc (.var 0) (.var 1) (.var 3))]⟩
def nn_refuse : List Str := ["is_wrong", "line", "column", "words"]
def df_refuse : Df := ⟨4, 4, false, [
  .ifs (.var 0) [
    .raise "TextError" [(.var 1), (.var 2), (.var 3)]] []]⟩
def nn_sign_at : List Str := ["text", "at"]
def df_sign_at : Df := ⟨2, 2, false, [
  .ifs (.cmp .In (.slc (.var 0) (.var 1) (.bin .Add (.var 1) (.con (.int 2)))) (.glob "SIGNS" g_SIGNS)) [
    .ret (.slc (.var 0) (.var 1) (.bin .Add (.var 1) (.con (.int 2))))] [],
  .ret (.ite (.cmp .In (.idx (.var 0) (.var 1)) (.glob "SIGNS" g_SIGNS)) (.idx (.var 0) (.var 1)) (.con (.str "")))]⟩
def nn_token_at : List Str := ["text", "at", "line", "column", "word", "digits", "rest", "sign"]
def df_token_at : Df := ⟨4, 8, false, [
  .ifs (.cmp .In (.idx (.var 0) (.var 1)) (.glob "SMALL" g_SMALL)) [
    .asg (.name 4) (.call "row_of" [(.var 0), (.var 1), (.bin .Add (.bin .Add (.glob "SMALL" g_SMALL) (.glob "DIGITS" g_DIGITS)) (.con (.str "_")))]),
    .ex (.call "refuse" [(.cmp .Gt (.bi "len" [(.var 4)]) (.glob "LONGEST_SYMBOL" g_LONGEST_SYMBOL)), (.var 2), (.var 3), (.con (.str "a word has at most 12 characters"))]),
    .ret (.tup [(.ite (.cmp .In (.var 4) (.glob "RESERVED" g_RESERVED)) (.con (.str "reserved")) (.con (.str "name"))), (.var 4), (.var 2), (.var 3)])] [],
  .ifs (.cmp .In (.idx (.var 0) (.var 1)) (.glob "DIGITS" g_DIGITS)) [
    .asg (.name 5) (.call "row_of" [(.var 0), (.var 1), (.glob "DIGITS" g_DIGITS)]),
    .ex (.call "refuse" [(.or_ (.cmp .Gt (.bi "len" [(.var 5)]) (.glob "MOST_DIGITS" g_MOST_DIGITS)) (.cmp .Gt (.bi "int" [(.var 5)]) (.glob "MOST" g_MOST))), (.var 2), (.var 3), (.con (.str "a number is at most 1000"))]),
    .ret (.tup [(.con (.str "number")), (.var 5), (.var 2), (.var 3)])] [],
  .ifs (.cmp .Eq (.idx (.var 0) (.var 1)) (.con (.str "?"))) [
    .asg (.name 6) (.call "row_of" [(.var 0), (.bin .Add (.var 1) (.con (.int 1))), (.bin .Add (.glob "SMALL" g_SMALL) (.glob "DIGITS" g_DIGITS))]),
    .ex (.call "refuse" [(.cmp .Eq (.var 6) (.con (.str ""))), (.var 2), (.var 3), (.con (.str "no token begins here"))]),
    .ex (.call "refuse" [(.cmp .Gt (.bi "len" [(.var 6)]) (.glob "LONGEST_VARIABLE" g_LONGEST_VARIABLE)), (.var 2), (.var 3), (.con (.str "a variable has at most 8 characters"))]),
    .ret (.tup [(.con (.str "variable")), (.bin .Add (.con (.str "?")) (.var 6)), (.var 2), (.var 3)])] [],
  .asg (.name 7) (.call "sign_at" [(.var 0), (.var 1)]),
  .ex (.call "refuse" [(.cmp .Eq (.var 7) (.con (.str ""))), (.var 2), (.var 3), (.con (.str "no token begins here"))]),
  .ret (.tup [(.con (.str "sign")), (.var 7), (.var 2), (.var 3)])]⟩
def nn_depth_after : List Str := ["token", "depth"]
def df_depth_after : Df := ⟨2, 2, false, [
  .ifs (.and_ (.cmp .Eq (.idx (.var 0) (.con (.int 0))) (.con (.str "sign"))) (.cmp .In (.idx (.var 0) (.con (.int 1))) (.con (.str "({")))) [
    .ex (.call "refuse" [(.cmp .Eq (.var 1) (.glob "DEEPEST" g_DEEPEST)), (.idx (.var 0) (.con (.int 2))), (.idx (.var 0) (.con (.int 3))), (.con (.str "nested too deep"))]),
    .ret (.bin .Add (.var 1) (.con (.int 1)))] [],
  .ifs (.and_ (.cmp .Eq (.idx (.var 0) (.con (.int 0))) (.con (.str "sign"))) (.cmp .In (.idx (.var 0) (.con (.int 1))) (.con (.str ")}")))) [
    .ret (.bi "max" [(.con (.int 0)), (.bin .Sub (.var 1) (.con (.int 1)))])] [],
  .ret (.var 1)]⟩
def nn_scan : List Str := ["text", "tokens", "at", "line", "begin", "depth", "token"]
def df_scan : Df := ⟨1, 7, false, [
  .asg (.name 1) (.mt (.lst [])),
  .asg (.name 2) (.con (.int 0)),
  .asg (.name 3) (.con (.int 1)),
  .asg (.name 4) (.con (.int 0)),
  .asg (.name 5) (.con (.int 0)),
  .while_ (.cmp .Lt (.var 2) (.bi "len" [(.var 0)])) [
    .ifs (.cmp .In (.idx (.var 0) (.var 2)) (.glob "BLANKS" g_BLANKS)) [
      .ifs (.cmp .Eq (.idx (.var 0) (.var 2)) (.con (.str "\n"))) [
        .asg (.name 3) (.bin .Add (.var 3) (.con (.int 1))),
        .asg (.name 4) (.bin .Add (.var 2) (.con (.int 1)))] [],
      .asg (.name 2) (.bin .Add (.var 2) (.con (.int 1)))] [
      .ifs (.cmp .Eq (.idx (.var 0) (.var 2)) (.con (.str "#"))) [
        .while_ (.and_ (.cmp .Lt (.var 2) (.bi "len" [(.var 0)])) (.cmp .NotEq (.idx (.var 0) (.var 2)) (.con (.str "\n")))) [
          .asg (.name 2) (.bin .Add (.var 2) (.con (.int 1)))]] [
        .asg (.name 6) (.call "token_at" [(.var 0), (.var 2), (.var 3), (.bin .Add (.bin .Sub (.var 2) (.var 4)) (.con (.int 1)))]),
        .asg (.name 5) (.call "depth_after" [(.var 6), (.var 5)]),
        .ex (.met "append" (.var 1) [(.var 6)]),
        .asg (.name 2) (.bin .Add (.var 2) (.bi "len" [(.idx (.var 6) (.con (.int 1)))]))]]],
  .ex (.met "append" (.var 1) [(.tup [(.con (.str "end")), (.con (.str "")), (.var 3), (.bin .Add (.bin .Sub (.var 2) (.var 4)) (.con (.int 1)))])]),
  .ret (.var 1)]⟩
def nn__law_stream : List Str := ["_law_script"]
def df__law_stream : Df := ⟨1, 1, true, [
  .ret (.mt (.lst [(.bi "list" [(.var 0)]), (.con (.int 0)), (.con (.int 0))]))]⟩
def nn__law_next : List Str := ["_law_stream_here", "_law_many", "_law_k", "_law_cell", "_law_digit"]
def df__law_next : Df := ⟨2, 5, false, [
  .ifs (.cmp .Eq (.idx (.var 0) (.con (.int 1))) (.con (.int 0))) [
    .asg (.name 2) (.idx (.var 0) (.con (.int 2))),
    .asg (.name 3) (.bin .Add (.con (.int 7)) (.var 2)),
    .ifs (.cmp .Lt (.var 2) (.bi "len" [(.idx (.var 0) (.con (.int 0)))])) [
      .asg (.name 3) (.bi "abs" [(.idx (.idx (.var 0) (.con (.int 0))) (.var 2))])] [],
    .ifs (.cmp .Lt (.var 3) (.bin .Pow (.con (.int 10)) (.con (.int 18)))) [
      .asg (.name 3) (.bin .Mod (.bi "int" [(.bin .Add (.bin .Add (.bin .Mult (.var 3) (.con (.int 48271))) (.bin .Mult (.var 2) (.con (.int 69621)))) (.con (.int 11)))]) (.con (.int 2147483647))),
      .asg (.name 3) (.bin .Add (.bin .Mult (.bin .Mod (.bi "int" [(.bin .Add (.bin .Mult (.var 3) (.con (.int 16807))) (.con (.int 13)))]) (.con (.int 2147483647))) (.con (.int 65537))) (.var 3))] [],
    .put (.var 0) (.con (.int 1)) (.var 3),
    .put (.var 0) (.con (.int 2)) (.bin .Add (.var 2) (.con (.int 1)))] [],
  .asg (.name 4) (.bin .Mod (.bi "int" [(.idx (.var 0) (.con (.int 1)))]) (.var 1)),
  .put (.var 0) (.con (.int 1)) (.bin .FloorDiv (.idx (.var 0) (.con (.int 1))) (.var 1)),
  .ret (.var 4)]⟩
def nn__law_is_integer : List Str := ["_law_actual"]
def df__law_is_integer : Df := ⟨1, 1, false, [
  .ret (.and_ (.isi (.var 0) .int) (.not_ (.isi (.var 0) .bool)))]⟩
def nn__law_equal : List Str := ["_law_actual", "_law_due", "_law_at"]
def df__law_equal : Df := ⟨2, 3, false, [
  .ifs (.cmp .Is (.var 1) (.con .non)) [
    .ret (.cmp .Is (.var 0) (.con .non))] [],
  .ifs (.isi (.var 1) .bool) [
    .ret (.and_ (.isi (.var 0) .bool) (.cmp .Eq (.var 0) (.var 1)))] [],
  .ifs (.isi (.var 1) .int) [
    .ret (.and_ (.call "_law_is_integer" [(.var 0)]) (.cmp .Eq (.var 0) (.var 1)))] [],
  .ifs (.isi (.var 1) .str) [
    .ret (.and_ (.isi (.var 0) .str) (.cmp .Eq (.var 0) (.var 1)))] [],
  .ifs (.and_ (.isi (.var 1) .tuple) (.not_ (.isi (.var 0) .tuple))) [
    .ret (.con (.bl false))] [],
  .ifs (.and_ (.isi (.var 1) .list) (.not_ (.isi (.var 0) .list))) [
    .ret (.con (.bl false))] [],
  .ifs (.cmp .NotEq (.bi "len" [(.var 0)]) (.bi "len" [(.var 1)])) [
    .ret (.con (.bl false))] [],
  .ret (.bi "all" [(.lc [("_law_at", 2)] (.name 2) (.rng1 (.bi "len" [(.var 1)])) .no (.call "_law_equal" [(.idx (.var 0) (.var 2)), (.idx (.var 1) (.var 2))]))])]⟩
def nn__law_gap : List Str := ["_law_stream_here", "_law_tight", "_law_many", "_law_gaps", "_law_most"]
def df__law_gap : Df := ⟨3, 5, false, [
  .asg (.name 3) (.lst [(.con (.str "")), (.con (.str " ")), (.con (.str "\n")), (.con (.str "\t")), (.con (.str "  ")), (.con (.str "\n\n ")), (.con (.str " # a (remark) ! ~ ;\n")), (.con (.str "#\n")), (.con (.str " #)\n\t"))]),
  .asg (.name 4) (.ite (.cmp .Lt (.var 2) (.con (.int 600))) (.con (.int 9)) (.con (.int 5))),
  .ifs (.var 1) [
    .ret (.idx (.var 3) (.call "_law_next" [(.var 0), (.var 4)]))] [],
  .ret (.idx (.var 3) (.bin .Add (.con (.int 1)) (.call "_law_next" [(.var 0), (.bin .Sub (.var 4) (.con (.int 1)))])))]⟩
def nn__law_is_word : List Str := ["_law_token"]
def df__law_is_word : Df := ⟨1, 1, false, [
  .ret (.cmp .In (.idx (.var 0) (.con (.int 0))) (.con (.str "abcdefghijklmnopqrstuvwxyz0123456789_?")))]⟩
def nn__law_is_tight : List Str := ["_law_first", "_law_second"]
def df__law_is_tight : Df := ⟨2, 2, false, [
  .ifs (.and_ (.call "_law_is_word" [(.var 0)]) (.call "_law_is_word" [(.var 1)])) [
    .ret (.con (.bl false))] [],
  .ret (.cmp .NotEq (.var 1) (.con (.str "=")))]⟩
def nn__law_laid : List Str := ["_law_stream_here", "_law_words", "_law_text", "_law_places", "_law_k", "_law_word", "_law_tight"]
def df__law_laid : Df := ⟨2, 7, true, [
  .asg (.name 2) (.call "_law_gap" [(.var 0), (.con (.bl true)), (.bi "len" [(.var 1)])]),
  .asg (.name 3) (.mt (.lst [])),
  .for_ (.tup [(.name 4), (.name 5)]) (.enum (.var 1)) [
    .ex (.met "append" (.var 3) [(.tup [(.bin .Add (.con (.int 1)) (.met "count" (.var 2) [(.con (.str "\n"))])), (.bin .Sub (.bi "len" [(.var 2)]) (.met "rfind" (.var 2) [(.con (.str "\n"))]))])]),
    .asg (.name 2) (.bin .Add (.var 2) (.var 5)),
    .asg (.name 6) (.or_ (.cmp .Eq (.bin .Add (.var 4) (.con (.int 1))) (.bi "len" [(.var 1)])) (.call "_law_is_tight" [(.var 5), (.idx (.var 1) (.bin .Add (.var 4) (.con (.int 1))))])),
    .asg (.name 2) (.bin .Add (.var 2) (.call "_law_gap" [(.var 0), (.var 6), (.bi "len" [(.var 1)])]))],
  .ex (.met "append" (.var 3) [(.tup [(.bin .Add (.con (.int 1)) (.met "count" (.var 2) [(.con (.str "\n"))])), (.bin .Sub (.bi "len" [(.var 2)]) (.met "rfind" (.var 2) [(.con (.str "\n"))]))])]),
  .ret (.tup [(.var 2), (.var 3)])]⟩
def nn__law_reserved : List Str := []
def df__law_reserved : Df := ⟨0, 0, false, [
  .ret (.lst [(.con (.str "kind")), (.con (.str "relation")), (.con (.str "fact")), (.con (.str "rule")), (.con (.str "if")), (.con (.str "not")), (.con (.str "same")), (.con (.str "differ")), (.con (.str "count")), (.con (.str "sum")), (.con (.str "least")), (.con (.str "greatest"))])]⟩
def nn__law_tokens : List Str := ["_law_stream_here", "_law_signs", "_law_letters", "_law_digits", "_law_words", "_law_turn", "_law_pick", "_law_rest", "_law_at"]
def df__law_tokens : Df := ⟨1, 9, false, [
  .asg (.name 1) (.lst [(.con (.str "{")), (.con (.str "}")), (.con (.str "(")), (.con (.str ")")), (.con (.str ".")), (.con (.str ",")), (.con (.str ":")), (.con (.str "=")), (.con (.str "<")), (.con (.str "<=")), (.con (.str ">")), (.con (.str ">=")), (.con (.str "+")), (.con (.str "-")), (.con (.str "*"))]),
  .asg (.name 2) (.con (.str "abcdefghijklmnopqrstuvwxyz")),
  .asg (.name 3) (.con (.str "0123456789")),
  .asg (.name 4) (.mt (.lst [])),
  .for_ (.name 5) (.rng1 (.call "_law_next" [(.var 0), (.con (.int 21))])) [
    .asg (.name 6) (.call "_law_next" [(.var 0), (.con (.int 6))]),
    .ifs (.cmp .Lt (.var 6) (.con (.int 2))) [
      .ex (.met "append" (.var 4) [(.idx (.var 1) (.call "_law_next" [(.var 0), (.con (.int 15))]))])] [
      .ifs (.cmp .Eq (.var 6) (.con (.int 2))) [
        .ex (.met "append" (.var 4) [(.idx (.call "_law_reserved" []) (.call "_law_next" [(.var 0), (.con (.int 12))]))])] [
        .ifs (.cmp .Eq (.var 6) (.con (.int 3))) [
          .ex (.met "append" (.var 4) [(.idx (.lst [(.con (.str "0")), (.con (.str "7")), (.con (.str "1000")), (.con (.str "0999")), (.con (.str "12")), (.con (.str "0000"))]) (.call "_law_next" [(.var 0), (.con (.int 6))]))])] [
          .ifs (.cmp .Eq (.var 6) (.con (.int 4))) [
            .ex (.met "append" (.var 4) [(.bin .Add (.con (.str "?")) (.met "join" (.con (.str "")) [(.lc [("_law_at", 8)] (.name 8) (.rng1 (.bin .Add (.con (.int 1)) (.call "_law_next" [(.var 0), (.con (.int 8))]))) .no (.idx (.bin .Add (.var 2) (.var 3)) (.call "_law_next" [(.var 0), (.con (.int 36))])))]))])] [
            .asg (.name 7) (.lc [("_law_at", 8)] (.name 8) (.rng1 (.call "_law_next" [(.var 0), (.con (.int 12))])) .no (.idx (.bin .Add (.bin .Add (.var 2) (.var 3)) (.con (.str "_"))) (.call "_law_next" [(.var 0), (.con (.int 37))]))),
            .ex (.met "append" (.var 4) [(.bin .Add (.idx (.var 2) (.call "_law_next" [(.var 0), (.con (.int 26))])) (.met "join" (.con (.str "")) [(.var 7)]))])]]]]],
  .ret (.var 4)]⟩
def nn__law_kind : List Str := ["_law_word"]
def df__law_kind : Df := ⟨1, 1, false, [
  .ifs (.cmp .In (.var 0) (.call "_law_reserved" [])) [
    .ret (.con (.str "reserved"))] [],
  .ifs (.cmp .Eq (.var 0) (.con (.str ""))) [
    .ret (.con (.str "end"))] [],
  .ifs (.cmp .In (.idx (.var 0) (.con (.int 0))) (.con (.str "0123456789"))) [
    .ret (.con (.str "number"))] [],
  .ifs (.cmp .Eq (.idx (.var 0) (.con (.int 0))) (.con (.str "?"))) [
    .ret (.con (.str "variable"))] [],
  .ret (.ite (.cmp .In (.idx (.var 0) (.con (.int 0))) (.con (.str "abcdefghijklmnopqrstuvwxyz"))) (.con (.str "name")) (.con (.str "sign")))]⟩
def nn__law_problem : List Str := ["_law_words", "_law_depth", "_law_k", "_law_word", "_law_kind_here"]
def df__law_problem : Df := ⟨1, 5, false, [
  .asg (.name 1) (.con (.int 0)),
  .for_ (.tup [(.name 2), (.name 3)]) (.enum (.var 0)) [
    .asg (.name 4) (.call "_law_kind" [(.var 3)]),
    .ifs (.cmp .In (.var 3) (.lst [(.con (.str "A")), (.con (.str "_")), (.con (.str "!")), (.con (.str "$")), (.con (.str "&")), (.con (.str ";")), (.con (.str "[")), (.con (.str "@")), (.con (.str "^")), (.con (.str "~")), (.con (.str "'")), (.con (.str "/")), (.con (.str "?"))])) [
      .ret (.tup [(.var 2), (.con (.str "no token begins here"))])] [],
    .ifs (.and_ (.cmp .In (.var 4) (.lst [(.con (.str "name")), (.con (.str "reserved"))])) (.cmp .Gt (.bi "len" [(.var 3)]) (.con (.int 12)))) [
      .ret (.tup [(.var 2), (.con (.str "a word has at most 12 characters"))])] [],
    .ifs (.and_ (.cmp .Eq (.var 4) (.con (.str "variable"))) (.cmp .Gt (.bi "len" [(.var 3)]) (.con (.int 9)))) [
      .ret (.tup [(.var 2), (.con (.str "a variable has at most 8 characters"))])] [],
    .ifs (.and_ (.cmp .Eq (.var 4) (.con (.str "number"))) (.or_ (.cmp .Gt (.bi "len" [(.var 3)]) (.con (.int 4))) (.cmp .Gt (.bi "int" [(.var 3)]) (.con (.int 1000))))) [
      .ret (.tup [(.var 2), (.con (.str "a number is at most 1000"))])] [],
    .ifs (.cmp .In (.var 3) (.lst [(.con (.str "(")), (.con (.str "{"))])) [
      .ifs (.cmp .Eq (.var 1) (.con (.int 12))) [
        .ret (.tup [(.var 2), (.con (.str "nested too deep"))])] [],
      .asg (.name 1) (.bin .Add (.var 1) (.con (.int 1)))] [],
    .ifs (.and_ (.cmp .In (.var 3) (.lst [(.con (.str ")")), (.con (.str "}"))])) (.cmp .Gt (.var 1) (.con (.int 0)))) [
      .asg (.name 1) (.bin .Sub (.var 1) (.con (.int 1)))] []],
  .ret (.con .non)]⟩
def nn__law_spoilt : List Str := ["_law_stream_here", "_law_words", "_law_at", "_law_strange", "_law_many", "_law_turn"]
def df__law_spoilt : Df := ⟨2, 6, false, [
  .asg (.name 2) (.call "_law_next" [(.var 0), (.bin .Add (.bi "len" [(.var 1)]) (.con (.int 1)))]),
  .asg (.name 3) (.lst [(.con (.str "A")), (.con (.str "_")), (.con (.str "!")), (.con (.str "$")), (.con (.str "&")), (.con (.str ";")), (.con (.str "[")), (.con (.str "@")), (.con (.str "^")), (.con (.str "~")), (.con (.str "'")), (.con (.str "/")), (.con (.str "?")), (.con (.str "abcdefghi_klm")), (.con (.str "?23456789a")), (.con (.str "1001")), (.con (.str "00001")), (.con (.str "99999"))]),
  .ifs (.cmp .Gt (.call "_law_next" [(.var 0), (.con (.int 3))]) (.con (.int 0))) [
    .ret (.bin .Add (.bin .Add (.slc (.var 1) .no (.var 2)) (.lst [(.idx (.var 3) (.call "_law_next" [(.var 0), (.con (.int 18))]))])) (.slc (.var 1) (.var 2) .no))] [],
  .asg (.name 4) (.bin .Add (.con (.int 10)) (.call "_law_next" [(.var 0), (.con (.int 6))])),
  .ret (.bin .Add (.bin .Add (.slc (.var 1) .no (.var 2)) (.lc [("_law_turn", 5)] (.name 5) (.rng1 (.var 4)) .no (.idx (.lst [(.con (.str "(")), (.con (.str "{"))]) (.call "_law_next" [(.var 0), (.con (.int 2))])))) (.slc (.var 1) (.var 2) .no))]⟩
def nn__law_told : List Str := ["_law_text", "problem"]
def df__law_told : Df := ⟨1, 2, false, [
  .try_ [
    .ret (.call "scan" [(.var 0)])] "TextError" 1 (.tup [(.fld "line"), (.fld "column"), (.fld "words")])]⟩
def nn_law : List Str := ["_law_script", "_law_stream_here", "_law_words", "_law_text", "_law_places", "_law_tail", "_law_found", "_law_due", "_law_k", "_law_word"]
def df_law : Df := ⟨1, 10, false, [
  .asg (.name 1) (.call "_law_stream" [(.var 0)]),
  .asg (.name 2) (.call "_law_tokens" [(.var 1)]),
  .ifs (.cmp .Eq (.call "_law_next" [(.var 1), (.con (.int 2))]) (.con (.int 1))) [
    .asg (.name 2) (.call "_law_spoilt" [(.var 1), (.var 2)])] [],
  .asg (.tup [(.name 3), (.name 4)]) (.call "_law_laid" [(.var 1), (.var 2)]),
  .ifs (.cmp .Eq (.call "_law_next" [(.var 1), (.con (.int 2))]) (.con (.int 1))) [
    .asg (.name 5) (.slc (.con (.str "# last (remark) $ \" A")) .no (.bin .Add (.con (.int 1)) (.call "_law_next" [(.var 1), (.con (.int 21))]))),
    .asg (.name 3) (.bin .Add (.var 3) (.var 5)),
    .put (.var 4) (.neg (.con (.int 1))) (.tup [(.idx (.idx (.var 4) (.neg (.con (.int 1)))) (.con (.int 0))), (.bin .Add (.idx (.idx (.var 4) (.neg (.con (.int 1)))) (.con (.int 1))) (.bi "len" [(.var 5)]))])] [],
  .asg (.name 6) (.call "_law_problem" [(.var 2)]),
  .ifs (.cmp .IsNot (.var 6) (.con .non)) [
    .ret (.call "_law_equal" [(.call "_law_told" [(.var 3)]), (.bin .Add (.idx (.var 4) (.idx (.var 6) (.con (.int 0)))) (.tup [(.idx (.var 6) (.con (.int 1)))]))])] [],
  .asg (.name 7) (.lc [("_law_k", 8), ("_law_word", 9)] (.tup [(.name 8), (.name 9)]) (.enum (.bin .Add (.var 2) (.lst [(.con (.str ""))]))) .no (.tup [(.call "_law_kind" [(.var 9)]), (.var 9), (.idx (.idx (.var 4) (.var 8)) (.con (.int 0))), (.idx (.idx (.var 4) (.var 8)) (.con (.int 1)))])),
  .ret (.call "_law_equal" [(.lst [(.call "_law_told" [(.var 3)]), (.call "_law_told" [(.var 3)])]), (.lst [(.var 7), (.var 7)])])]⟩
def tabL : List (Str × Df) := [("row_of", df_row_of), ("refuse", df_refuse), ("sign_at", df_sign_at), ("token_at", df_token_at), ("depth_after", df_depth_after), ("scan", df_scan), ("_law_stream", df__law_stream), ("_law_next", df__law_next), ("_law_is_integer", df__law_is_integer), ("_law_equal", df__law_equal), ("_law_gap", df__law_gap), ("_law_is_word", df__law_is_word), ("_law_is_tight", df__law_is_tight), ("_law_laid", df__law_laid), ("_law_reserved", df__law_reserved), ("_law_tokens", df__law_tokens), ("_law_kind", df__law_kind), ("_law_problem", df__law_problem), ("_law_spoilt", df__law_spoilt), ("_law_told", df__law_told), ("law", df_law)]
def tab (f : Str) : Option Df := tabL.lookup f
def fns : List Str := ["row_of", "refuse", "sign_at", "token_at", "depth_after", "scan", "_law_stream", "_law_next", "_law_is_integer", "_law_equal", "_law_gap", "_law_is_word", "_law_is_tight", "_law_laid", "_law_reserved", "_law_tokens", "_law_kind", "_law_problem", "_law_spoilt", "_law_told", "law"]
def globs : List (Str × D) := [("SMALL", g_SMALL), ("DIGITS", g_DIGITS), ("RESERVED", g_RESERVED), ("MOST", g_MOST), ("LONGEST_SYMBOL", g_LONGEST_SYMBOL), ("LONGEST_VARIABLE", g_LONGEST_VARIABLE), ("BLANKS", g_BLANKS), ("SIGNS", g_SIGNS), ("MOST_DIGITS", g_MOST_DIGITS), ("DEEPEST", g_DEEPEST)]
def free : List Str := ["abs", "all", "bool", "enumerate", "int", "isinstance", "len", "list", "max", "range", "str", "tuple"]
def excs : List (Str × List Str) := [("TextError", ["line", "column", "words"])]
end K70

set_option Elab.async false
set_option linter.all false
set_option maxRecDepth 100000
set_option autoImplicit false
/-! Plain lemmas of the interpreter: texts as lists of signs. -/
namespace Ip
open PySem
def T (l : List Nat) : D := .str ⟨l.toArray⟩
theorem biOf_len : biOf "len" = some .len := rfl
theorem biOf_abs : biOf "abs" = some .abs := rfl
theorem biOf_max : biOf "max" = some .max := rfl
theorem biOf_int : biOf "int" = some .int := rfl
theorem biOf_list : biOf "list" = some .list := rfl
theorem biOf_all : biOf "all" = some .all := rfl
theorem biOf_tuple : biOf "tuple" = some .tuple := rfl
theorem mtOf_append : mtOf "append" = some .append := rfl
theorem mtOf_join : mtOf "join" = some .join := rfl
theorem mtOf_count : mtOf "count" = some .count := rfl
theorem mtOf_rfind : mtOf "rfind" = some .rfind := rfl
theorem T_inj {a b : List Nat} : T a = T b ↔ a = b := by
  constructor
  · intro h
    simp only [T, D.str.injEq, Str.mk.injEq] at h
    have := congrArg Array.toList h
    simpa using this
  · rintro rfl; rfl
theorem lenB_T {st : Store} {l : List Nat} (h : l.length ≤ maxLen) : lenB st (T l) = some (l.length : Int) := by
  have e : (⟨l.toArray⟩ : Str).length = l.length := by simp [Str.length]
  simp only [lenB, T, e, h, if_true]
theorem atI_nat {α : Type} {xs : List α} {k : Nat} : L2.atI xs (k : Int) = xs[k]? := by
  unfold L2.atI L2.ixN
  rw [if_pos (by omega)]
  by_cases h : k < xs.length
  · rw [if_pos (by omega)]; simp
  · rw [if_neg (by omega)]
    simp only [Option.bind_none]
    rw [List.getElem?_eq_none (by omega)]
theorem idxB_T {st : Store} {l : List Nat} {k : Nat} (h : l.length ≤ maxLen) : idxB st (T l) (.int k) = (l[k]?).map fun c => T [c] := by
  have e : (⟨l.toArray⟩ : Str).length = l.length := by simp [Str.length]
  simp only [idxB, T, e, h, if_true, atI_nat, signs, List.getElem?_map]
theorem idxB_tup {st : Store} {xs : List D} {k : Nat} : idxB st (.tup xs) (.int k) = xs[k]? := by
  simp only [idxB, sqOf, atI_nat]
theorem idxB_lst {st : Store} {xs : List D} {k : Nat} : idxB st (.lst xs) (.int k) = xs[k]? := by
  simp only [idxB, sqOf, lsOf, atI_nat]
theorem addB_T {st : Store} {a b : List Nat} (h : a.length + b.length ≤ maxLen) : addB st (T a) (T b) = some (.val (T (a ++ b))) := by
  have e : ∀ l : List Nat, (⟨l.toArray⟩ : Str).length = l.length := fun l => by simp [Str.length]
  simp only [addB, T, e, h, if_true]
  congr 3
  try show (⟨a.toArray⟩ : Str) ++ ⟨b.toArray⟩ = _
  show Str.mk (a.toArray ++ b.toArray) = _
  simp
theorem eqB_T {a b : List Nat} : eqB (T a) (T b) = some (decide (a = b)) := by
  simp only [eqB, T, D.scal, D.flat, D.eqF, Bool.and_self, if_true]
  congr 1
  have : ((⟨a.toArray⟩ : Str) = ⟨b.toArray⟩) ↔ a = b := by
    have := @T_inj a b
    simpa [T] using this
  simp only [this]
theorem eqB_int {a b : Int} : eqB (.int a) (.int b) = some (decide (a = b)) := by
  simp only [eqB, D.scal, D.flat, D.eqF, Bool.and_self, if_true]
  congr 1
theorem inStr_one {c : Nat} {l : List Nat} : inStr ⟨[c].toArray⟩ ⟨l.toArray⟩ = decide (c ∈ l) := by
  simp [inStr]
theorem inB_T1 {st : Store} {c : Nat} {l : List Nat} : inB st (T [c]) (T l) = some (decide (c ∈ l)) := by
  show some (inStr ⟨[c].toArray⟩ ⟨l.toArray⟩) = _
  rw [inStr_one]
theorem any_T {a : List Nat} : ∀ {ls : List (List Nat)}, (ls.map T).any (fun z => z.eqF (T a)) = decide (a ∈ ls)
  | [] => by simp
  | l :: ls => by
    rw [List.map_cons, List.any_cons, any_T]
    have : D.eqF (T l) (T a) = decide (l = a) := by
      have := @eqB_T l a
      simpa [eqB, T, D.scal, D.flat] using this
    rw [this]
    by_cases h : l = a
    · subst h; simp
    · have : a ≠ l := fun e => h e.symm
      simp [h, this]
theorem all_flat_T : ∀ {ls : List (List Nat)}, (ls.map T).all D.flat = true
  | [] => rfl
  | l :: ls => by rw [List.map_cons, List.all_cons, all_flat_T]; rfl
theorem inB_tup {st : Store} {a : List Nat} {ls : List (List Nat)} : inB st (T a) (.tup (ls.map T)) = some (decide (a ∈ ls)) := by
  have h : (T a).flat = true := rfl
  simp only [inB, sqOf, h, all_flat_T, Bool.and_self, if_true, any_T]
theorem inB_lst {st : Store} {a : List Nat} {ls : List (List Nat)} : inB st (T a) (.lst (ls.map T)) = some (decide (a ∈ ls)) := by
  have h : (T a).flat = true := rfl
  simp only [inB, sqOf, lsOf, h, all_flat_T, Bool.and_self, if_true, any_T]
theorem take_min {α : Type} {l : List α} {k : Nat} : l.take (min k l.length) = l.take k := by
  rw [← List.take_take, List.take_length]
theorem cutL_nat {α : Type} {l : List α} {a b : Nat} : cutL l (some (a : Int)) (some (b : Int)) = (l.drop a).take (b - a) := by
  unfold cutL
  rw [HT.sIx_nat, HT.sIx_nat]
  apply List.ext_getElem?
  intro i
  simp only [List.getElem?_take, List.getElem?_drop]
  by_cases h : a ≤ l.length
  · rw [Nat.min_eq_left h]
    by_cases h2 : b ≤ l.length
    · rw [Nat.min_eq_left h2]
    · rw [Nat.min_eq_right (by omega)]
      by_cases h3 : i < l.length - a
      · rw [if_pos h3, if_pos (by omega)]
      · rw [if_neg h3, List.getElem?_eq_none (by omega)]; simp
  · have e1 : l[a + i]? = none := List.getElem?_eq_none (by omega)
    have e2 : l[min a l.length + i]? = none := List.getElem?_eq_none (by omega)
    rw [e1, e2]; simp
theorem cutL_to {α : Type} {l : List α} {b : Nat} : cutL l none (some (b : Int)) = l.take b := by
  unfold cutL
  rw [HT.sIx_nat, HT.sIx_none]
  by_cases h2 : b ≤ l.length
  · rw [Nat.min_eq_left h2]; simp
  · rw [Nat.min_eq_right (by omega)]; simp; rw [List.take_of_length_le (by omega)]
theorem cutL_from {α : Type} {l : List α} {a : Nat} : cutL l (some (a : Int)) none = l.drop a := by
  unfold cutL
  rw [HT.sIx_nat, HT.sIx_none]
  by_cases h2 : a ≤ l.length
  · rw [Nat.min_eq_left h2, List.take_of_length_le (by simp)]
  · rw [Nat.min_eq_right (by omega)]; simp; omega
theorem slcB_T {st : Store} {l : List Nat} {a b : Nat} (h : l.length ≤ maxLen) : slcB st (T l) (some (a : Int)) (some (b : Int)) = some (.val (T ((l.drop a).take (b - a)))) := by
  have e : (⟨l.toArray⟩ : Str).length = l.length := by simp [Str.length]
  simp only [slcB, T, e, h, if_true, cutL_nat]
theorem slcB_T_to {st : Store} {l : List Nat} {b : Nat} (h : l.length ≤ maxLen) : slcB st (T l) none (some (b : Int)) = some (.val (T (l.take b))) := by
  have e : (⟨l.toArray⟩ : Str).length = l.length := by simp [Str.length]
  simp only [slcB, T, e, h, if_true, cutL_to]
theorem slcB_lst_to {st : Store} {l : List D} {b : Nat} : slcB st (.lst l) none (some (b : Int)) = some (.new (.lst (l.take b))) := by
  simp only [slcB, lsOf, cutL_to]
theorem slcB_lst_from {st : Store} {l : List D} {b : Nat} : slcB st (.lst l) (some (b : Int)) none = some (.new (.lst (l.drop b))) := by
  simp only [slcB, lsOf, cutL_from]
theorem addI {st : Store} {i j : Int} : binB st .Add (.int i) (.int j) = some (.val (.int (i + j))) := rfl
theorem subI {st : Store} {i j : Int} : binB st .Sub (.int i) (.int j) = some (.val (.int (i - j))) := rfl
theorem mulI {st : Store} {i j : Int} (h : -18446744073709551616 < j) (h2 : j < 18446744073709551616) : binB st .Mult (.int i) (.int j) = some (.val (.int (i * j))) := by
  have e : (2 : Int) ^ 64 = 18446744073709551616 := by rfl
  simp only [binB, intB, e]
  rw [if_pos (Or.inr ⟨h, h2⟩)]
  rfl
theorem modI {st : Store} {i j : Int} (h : 0 < j) : binB st .Mod (.int i) (.int j) = some (.val (.int (i % j))) := by
  simp only [binB, intB, h, if_true]
  rfl
theorem fdvI {st : Store} {i j : Int} (h : 0 < j) (h2 : j < 1073741824) : binB st .FloorDiv (.int i) (.int j) = some (.val (.int (i / j))) := by
  simp only [binB, intB, h, h2, and_self, if_true]
  rfl
theorem pow18 {st : Store} : binB st .Pow (.int 10) (.int 18) = some (.val (.int 1000000000000000000)) := by
  simp only [binB, intB]
  rw [if_pos ⟨by omega, by omega, by decide⟩]
  rfl
/-- a while, turn by turn -/
theorem while_step {c : Env → Store → R Bool} {f : Env → Store → RS} {n : Nat} {ρ ρ' : Env} {st st1 st' : Store} (h : c ρ st = .ok true st1) (hf : f ρ st1 = .next ρ' st') : whileF c f (n + 1) ρ st = whileF c f n ρ' st' := by
  simp only [whileF, h, R.then_, hf, RS.loop, if_true]
theorem while_end {c : Env → Store → R Bool} {f : Env → Store → RS} {n : Nat} {ρ : Env} {st st1 : Store} (h : c ρ st = .ok false st1) : whileF c f (n + 1) ρ st = .next ρ st1 := by
  simp [whileF, h, R.then_]
theorem while_exc {c : Env → Store → R Bool} {f : Env → Store → RS} {n : Nat} {ρ ρ' : Env} {st st1 st' : Store} {x : Str} {fs : XF} (h : c ρ st = .ok true st1) (hf : f ρ st1 = .exc x fs ρ' st') : whileF c f (n + 1) ρ st = .exc x fs ρ' st' := by
  simp only [whileF, h, R.then_, hf, RS.loop, if_true]
/-! step by step -/
section
variable {Φ : Fn} {xc : XC} {s : S} {ss a b : List S} {ρ ρ' : Env} {st st1 st2 : Store} {d : D} {c : E} {x : Str} {fs : XF}
theorem x_nil : exs Φ xc [] ρ st = .next ρ st := by simp only [exs]
theorem x_next (h : ex Φ xc s ρ st = .next ρ' st1) : exs Φ xc (s :: ss) ρ st = exs Φ xc ss ρ' st1 := by simp only [exs, h, RS.seq]
theorem x_ret (h : ex Φ xc s ρ st = .ret d st1) : exs Φ xc (s :: ss) ρ st = .ret d st1 := by simp only [exs, h, RS.seq]
theorem x_exc (h : ex Φ xc s ρ st = .exc x fs ρ' st1) : exs Φ xc (s :: ss) ρ st = .exc x fs ρ' st1 := by simp only [exs, h, RS.seq]
theorem i_yes (h : (ev Φ c).t ρ st = .ok true st1) : ex Φ xc (.ifs c a b) ρ st = exs Φ xc a ρ st1 := by simp only [ex, h, R.then_, if_true]
theorem i_no (h : (ev Φ c).t ρ st = .ok false st1) : ex Φ xc (.ifs c a b) ρ st = exs Φ xc b ρ st1 := by simp [ex, h, R.then_]
theorem if_skip (h : (ev Φ c).t ρ st = .ok false st1) : exs Φ xc (.ifs c a [] :: ss) ρ st = exs Φ xc ss ρ st1 := x_next (by rw [i_no h, x_nil])
theorem if_ret (h : (ev Φ c).t ρ st = .ok true st1) (k : exs Φ xc a ρ st1 = .ret d st2) : exs Φ xc (.ifs c a b :: ss) ρ st = .ret d st2 := x_ret (by rw [i_yes h, k])
theorem if_exc (h : (ev Φ c).t ρ st = .ok true st1) (k : exs Φ xc a ρ st1 = .exc x fs ρ' st2) : exs Φ xc (.ifs c a b :: ss) ρ st = .exc x fs ρ' st2 := x_exc (by rw [i_yes h, k])
theorem if_next (h : (ev Φ c).t ρ st = .ok true st1) (k : exs Φ xc a ρ st1 = .next ρ' st2) : exs Φ xc (.ifs c a b :: ss) ρ st = exs Φ xc ss ρ' st2 := x_next (by rw [i_yes h, k])
theorem else_next (h : (ev Φ c).t ρ st = .ok false st1) (k : exs Φ xc b ρ st1 = .next ρ' st2) : exs Φ xc (.ifs c a b :: ss) ρ st = exs Φ xc ss ρ' st2 := x_next (by rw [i_no h, k])
theorem else_ret (h : (ev Φ c).t ρ st = .ok false st1) (k : exs Φ xc b ρ st1 = .ret d st2) : exs Φ xc (.ifs c a b :: ss) ρ st = .ret d st2 := x_ret (by rw [i_no h, k])
theorem close_ok1 (h : d.okRef st.length = true) : close false st d st = .ok d st := by simp [close, oldOk, fin, h]
theorem run_ret {f : Df} {ds : List D} (h : ds.length = f.np) (hk : f.keep = false) (hd : d.okRef st.length = true) (k : exs Φ xc f.body (ds.map some ++ List.replicate (f.nn - f.np) none) st = .ret d st) : f.run Φ xc ds st = .ok d st := by
  simp only [Df.run, h, if_true, k, hk, close_ok1 hd]
theorem run_ret' {f : Df} {ds : List D} (h : ds.length = f.np) (k : exs Φ xc f.body (ds.map some ++ List.replicate (f.nn - f.np) none) st = .ret d st1) : f.run Φ xc ds st = close f.keep st d st1 := by
  simp only [Df.run, h, if_true, k]
theorem run_exc' {f : Df} {ds : List D} (h : ds.length = f.np) (k : exs Φ xc f.body (ds.map some ++ List.replicate (f.nn - f.np) none) st = .exc x fs ρ' st1) : f.run Φ xc ds st = closeX st x fs st1 := by
  simp only [Df.run, h, if_true, k]
theorem ex_while {b : List S} : ex Φ xc (.while_ c b) ρ st = whileF (ev Φ c).t (exs Φ xc b) turns ρ st := by simp only [ex]
theorem run_next {f : Df} {ds : List D} (h : ds.length = f.np) (hk : f.keep = false) (k : exs Φ xc f.body (ds.map some ++ List.replicate (f.nn - f.np) none) st = .next ρ' st) : f.run Φ xc ds st = .ok .non st := by
  simp only [Df.run, h, if_true, k, hk, close_ok1 (d := .non) rfl]
theorem run_exc {f : Df} {ds : List D} (h : ds.length = f.np) (hd : okRefs st.length (fs.map (·.2)) = true) (k : exs Φ xc f.body (ds.map some ++ List.replicate (f.nn - f.np) none) st = .exc x fs ρ' st) : f.run Φ xc ds st = .exc x fs st := by
  simp only [Df.run, h, if_true, k]
  simp [closeX, oldOk, hd]
end
theorem fin1_self {st : Store} {m : Nat} {d : D} (h : d.okRef m = true) : fin1 st m d = some d := by simp [fin1, h]
theorem fins_self {st : Store} {m : Nat} : ∀ {ds : List D}, okRefs m ds = true → fins st m ds = some ds
  | [], _ => rfl
  | d :: ds, h => by
    simp only [okRefs, Bool.and_eq_true] at h
    simp only [fins, fin1_self h.1, fins_self h.2]
theorem get_last {st : Store} {o : O} : (st ++ [o])[st.length]? = some o := by simp
theorem set_last {st : Store} {o o' : O} : (st ++ [o]).set st.length o' = st ++ [o'] := by simp
/-- a store without refs -/
def Plain (st : Store) : Prop := ∀ o ∈ st, ∀ m, o.okRef m = true
end Ip

set_option Elab.async false
set_option linter.all false
set_option maxRecDepth 100000
set_option autoImplicit false
/-! What scan does. -/
namespace K70
open Ip PySem
abbrev cf (n : Nat) : Fn := callF tab (xcOf excs) n
theorem cf_succ {n : Nat} {f : Str} {d : Df} (h : tab f = some d) (ds : List D) (st : Store) : cf (n + 1) f ds st = d.run (cf n) (xcOf excs) ds st := by
  show (match tab f with
    | some d => d.run (callF tab (xcOf excs) n) (xcOf excs) ds st
    | none => .stuck) = _
  rw [h]
def small : List Nat := [97, 98, 99, 100, 101, 102, 103, 104, 105, 106, 107, 108, 109, 110, 111, 112, 113, 114, 115, 116, 117, 118, 119, 120, 121, 122]
def digs : List Nat := [48, 49, 50, 51, 52, 53, 54, 55, 56, 57]
def nameCs : List Nat := small ++ digs ++ [95]
def varCs : List Nat := small ++ digs
def tx (s : String) : List Nat := (Str.ofString s).cps.toList
theorem tx_T (s : String) : D.str (Str.ofString s) = T (tx s) := by
  simp [T, tx]
def resv : List (List Nat) := [tx "kind", tx "relation", tx "fact", tx "rule", tx "if", tx "not", tx "same", tx "differ", tx "count", tx "sum", tx "least", tx "greatest"]
def sgns : List (List Nat) := [[123], [125], [40], [41], [46], [44], [58], [61], [60], [60, 61], [62], [62, 61], [43], [45], [42]]
theorem gSMALL : g_SMALL = T small := by rfl
theorem gDIGITS : g_DIGITS = T digs := by rfl
theorem gBLANKS : g_BLANKS = T [32, 10, 9] := by rfl
theorem gRESERVED : g_RESERVED = .tup (resv.map T) := by rfl
theorem gSIGNS : g_SIGNS = .tup (sgns.map T) := by rfl
theorem xc_te : xcOf excs (Str.ofString "TextError") = some [Str.ofString "line", Str.ofString "column", Str.ofString "words"] := rfl
theorem tab_refuse : tab "refuse" = some df_refuse := rfl
theorem tab_row_of : tab "row_of" = some df_row_of := rfl
theorem tab_sign_at : tab "sign_at" = some df_sign_at := rfl
theorem tab_token_at : tab "token_at" = some df_token_at := rfl
theorem tab_depth_after : tab "depth_after" = some df_depth_after := rfl
theorem tab_scan : tab "scan" = some df_scan := rfl
/-- a text that fits -/
abbrev Fits (t : List Nat) : Prop := t.length ≤ 100000
theorem Fits.max {t : List Nat} (h : Fits t) : t.length ≤ maxLen := by unfold maxLen; unfold Fits at h; omega
theorem oldOk_self {st : Store} : oldOk st st = true := by simp [oldOk]
theorem oldOk_len {st : Store} : oldOk st st = true := by simp [oldOk]
theorem refuse_no {n : Nat} {l c m : D} {st : Store} : cf (n + 1) "refuse" [.bl false, l, c, m] st = .ok .non st := by
  rw [cf_succ tab_refuse]
  simp [Df.run, exs, ex, ev, evs, evI, Ev.mk1, Ev.mkT, R.bind, R.d, R.of, R.ofS, Bv.d, R.then_, RS.seq, RS.loop, bindT, bindTs, truB, biOf_len, biOf_abs, biOf_max, biOf_int, biOf_list, biOf_all, biOf_tuple, mtOf_append, mtOf_join, mtOf_count, mtOf_rfind, arg1, arg2, biB, metB, recvB, cmpB, binB, List.replicate, df_refuse, close, oldOk, fin, D.okRef]
theorem refuse_yes {n : Nat} {l c : Int} {m : List Nat} {st : Store} : cf (n + 1) "refuse" [.bl true, .int l, .int c, T m] st = .exc "TextError" [("line", .int l), ("column", .int c), ("words", T m)] st := by
  rw [cf_succ tab_refuse]
  simp [Df.run, exs, ex, ev, evs, evI, Ev.mk1, Ev.mkT, R.bind, R.d, R.of, R.ofS, Bv.d, R.then_, RS.seq, RS.loop, bindT, bindTs, truB, biOf_len, biOf_abs, biOf_max, biOf_int, biOf_list, biOf_all, biOf_tuple, mtOf_append, mtOf_join, mtOf_count, mtOf_rfind, arg1, arg2, biB, metB, recvB, cmpB, binB, List.replicate, df_refuse, closeX, oldOk, fin, D.okRef, okRefs, xc_te, T]
def rowOf (cs : List Nat) (r : List Nat) : List Nat := r.takeWhile fun c => decide (c ∈ cs)
theorem row_loop {Φ : Fn} {xc : XC} {t cs : List Nat} {a : Int} {st : Store} (hf : Fits t) : ∀ (r : List Nat) (e fuel : Nat), t.drop e = r → e ≤ t.length → r.length < fuel →
    whileF (ev Φ (.and_ (.cmp .Lt (.var 3) (.bi "len" [(.var 0)])) (.cmp .In (.idx (.var 0) (.var 3)) (.var 2)))).t (exs Φ xc [.asg (.name 3) (.bin .Add (.var 3) (.con (.int 1)))]) fuel [some (T t), some (.int a), some (T cs), some (.int (e : Int))] st
      = .next [some (T t), some (.int a), some (T cs), some (.int ((e + (rowOf cs r).length : Nat) : Int))] st
  | [], e, fuel, hd, he, hfu => by
    obtain ⟨fuel, rfl⟩ := Nat.exists_eq_add_one_of_ne_zero (n := fuel) (by omega)
    have hl : t.length ≤ e := by simpa using hd
    rw [while_end (st1 := st)]
    · simp [rowOf]
    · simp [Df.run, exs, ex, ev, evs, evI, Ev.mk1, Ev.mkT, R.bind, R.d, R.of, R.ofS, Bv.d, R.then_, RS.seq, RS.loop, bindT, bindTs, truB, biOf_len, biOf_abs, biOf_max, biOf_int, biOf_list, biOf_all, biOf_tuple, mtOf_append, mtOf_join, mtOf_count, mtOf_rfind, arg1, arg2, biB, metB, recvB, cmpB, binB, List.replicate, lenB_T hf.max, ltB]
      omega
  | c :: r, e, fuel, hd, he, hfu => by
    obtain ⟨fuel, rfl⟩ := Nat.exists_eq_add_one_of_ne_zero (n := fuel) (by omega)
    have hlt : e < t.length := by
      have := congrArg List.length hd
      simp at this; omega
    have hc : t[e]? = some c := by
      have : (t.drop e)[0]? = some c := by rw [hd]; rfl
      simpa using this
    have hc' : t[e] = c := by simpa [hlt] using hc
    have hd' : t.drop (e + 1) = r := by
      have : (t.drop e).drop 1 = r := by rw [hd]; rfl
      simpa [List.drop_drop, Nat.add_comm] using this
    by_cases hm : c ∈ cs
    · rw [while_step (st1 := st) (ρ' := [some (T t), some (.int a), some (T cs), some (.int ((e + 1 : Nat) : Int))]) (st' := st)]
      · rw [row_loop hf r (e + 1) fuel hd' hlt (by simp at hfu; omega)]
        have : (rowOf cs (c :: r)).length = (rowOf cs r).length + 1 := by simp [rowOf, List.takeWhile_cons, hm]
        rw [this, show e + 1 + (rowOf cs r).length = e + ((rowOf cs r).length + 1) by omega]
      · simp [Df.run, exs, ex, ev, evs, evI, Ev.mk1, Ev.mkT, R.bind, R.d, R.of, R.ofS, Bv.d, R.then_, RS.seq, RS.loop, bindT, bindTs, truB, biOf_len, biOf_abs, biOf_max, biOf_int, biOf_list, biOf_all, biOf_tuple, mtOf_append, mtOf_join, mtOf_count, mtOf_rfind, arg1, arg2, biB, metB, recvB, cmpB, binB, List.replicate, lenB_T hf.max, ltB, hlt, idxB_T hf.max, hc', inB_T1, hm]
      · simp [Df.run, exs, ex, ev, evs, evI, Ev.mk1, Ev.mkT, R.bind, R.d, R.of, R.ofS, Bv.d, R.then_, RS.seq, RS.loop, bindT, bindTs, truB, biOf_len, biOf_abs, biOf_max, biOf_int, biOf_list, biOf_all, biOf_tuple, mtOf_append, mtOf_join, mtOf_count, mtOf_rfind, arg1, arg2, biB, metB, recvB, cmpB, binB, List.replicate, addB]
    · rw [while_end (st1 := st)]
      · simp [rowOf, List.takeWhile_cons, hm]
      · simp [Df.run, exs, ex, ev, evs, evI, Ev.mk1, Ev.mkT, R.bind, R.d, R.of, R.ofS, Bv.d, R.then_, RS.seq, RS.loop, bindT, bindTs, truB, biOf_len, biOf_abs, biOf_max, biOf_int, biOf_list, biOf_all, biOf_tuple, mtOf_append, mtOf_join, mtOf_count, mtOf_rfind, arg1, arg2, biB, metB, recvB, cmpB, binB, List.replicate, lenB_T hf.max, ltB, hlt, idxB_T hf.max, hc', inB_T1, hm]
theorem take_takeWhile {p : Nat → Bool} : ∀ {r : List Nat}, r.take (r.takeWhile p).length = r.takeWhile p
  | [] => rfl
  | c :: r => by
    rw [List.takeWhile_cons]
    split
    · simp [take_takeWhile]
    · rfl
theorem row_of {n : Nat} {t cs : List Nat} {a : Nat} {st : Store} (hf : Fits t) (ha : a ≤ t.length) : cf (n + 1) "row_of" [T t, .int (a : Int), T cs] st = .ok (T (rowOf cs (t.drop a))) st := by
  rw [cf_succ tab_row_of]
  have hl := row_loop (Φ := cf n) (xc := xcOf excs) (cs := cs) (a := (a : Int)) (st := st) hf (t.drop a) a turns rfl ha (by simp; unfold turns; unfold Fits at hf; omega)
  have hs : slcB st (T t) (some (a : Int)) (some ((a : Int) + ((rowOf cs (t.drop a)).length : Int))) = some (.val (T (rowOf cs (t.drop a)))) := by
    rw [show (a : Int) + ((rowOf cs (t.drop a)).length : Int) = ((a + (rowOf cs (t.drop a)).length : Nat) : Int) by omega, slcB_T hf.max]
    rw [show a + (rowOf cs (t.drop a)).length - a = (rowOf cs (t.drop a)).length by omega]
    unfold rowOf
    rw [take_takeWhile]
  simp [Df.run, exs, ex, ev, evs, evI, Ev.mk1, Ev.mkT, R.bind, R.d, R.of, R.ofS, Bv.d, R.then_, RS.seq, RS.loop, bindT, bindTs, truB, biOf_len, biOf_abs, biOf_max, biOf_int, biOf_list, biOf_all, biOf_tuple, mtOf_append, mtOf_join, mtOf_count, mtOf_rfind, arg1, arg2, biB, metB, recvB, cmpB, binB, List.replicate, df_row_of] at hl ⊢
  rw [hl]
  simp [Df.run, exs, ex, ev, evs, evI, Ev.mk1, Ev.mkT, R.bind, R.d, R.of, R.ofS, Bv.d, R.then_, RS.seq, RS.loop, bindT, bindTs, truB, biOf_len, biOf_abs, biOf_max, biOf_int, biOf_list, biOf_all, biOf_tuple, mtOf_append, mtOf_join, mtOf_count, mtOf_rfind, arg1, arg2, biB, metB, recvB, cmpB, binB, List.replicate, partB, hs, close, oldOk, fin]
  simp [T, D.okRef]
end K70

set_option Elab.async false
set_option linter.all false
set_option maxRecDepth 100000
set_option autoImplicit false
/-! A token. -/
namespace K70
open Ip PySem
abbrev kName : List Nat := tx "name"
abbrev kReserved : List Nat := tx "reserved"
abbrev kNumber : List Nat := tx "number"
abbrev kVariable : List Nat := tx "variable"
abbrev kSign : List Nat := tx "sign"
abbrev kEnd : List Nat := tx "end"
abbrev mWord : List Nat := tx "a word has at most 12 characters"
abbrev mNumber : List Nat := tx "a number is at most 1000"
abbrev mVariable : List Nat := tx "a variable has at most 8 characters"
abbrev mNone : List Nat := tx "no token begins here"
abbrev mDeep : List Nat := tx "nested too deep"
/-- the sign at the head, or nothing -/
def signOf (r : List Nat) : List Nat := if r.take 2 ∈ sgns then r.take 2 else if r.take 1 ∈ sgns then r.take 1 else []
/-- the number's worth, where it is short -/
def worth (w : List Nat) : Int := (intOf (T w)).getD 0
/-- a token: its kind and word, or what is wrong -/
def tok (r : List Nat) : Except (List Nat) (List Nat × List Nat) :=
  match r with
  | [] => .error mNone
  | c :: r' =>
    if c ∈ small then (if (rowOf nameCs r).length > 12 then .error mWord else .ok (if rowOf nameCs r ∈ resv then kReserved else kName, rowOf nameCs r))
    else if c ∈ digs then (if (rowOf digs r).length > 4 ∨ worth (rowOf digs r) > 1000 then .error mNumber else .ok (kNumber, rowOf digs r))
    else if c = 63 then (if rowOf varCs r' = [] then .error mNone else if (rowOf varCs r').length > 8 then .error mVariable else .ok (kVariable, 63 :: rowOf varCs r'))
    else (if signOf r = [] then .error mNone else .ok (kSign, signOf r))
/-- the number that stands there has a worth -/
def numOk (r : List Nat) : Prop := ∀ c r', r = c :: r' → c ∈ digs → (rowOf digs r).length ≤ 4 → (intOf (T (rowOf digs r))).isSome = true
section
variable {n : Nat} {t : List Nat} {a : Nat} {c : Nat} {r : List Nat} {st : Store}
theorem sign_at (hf : Fits t) (hd : t.drop a = c :: r) : cf (n + 1) "sign_at" [T t, .int (a : Int)] st = .ok (T (signOf (c :: r))) st := by
  rw [cf_succ tab_sign_at]
  have hlt : a < t.length := by
    have := congrArg List.length hd
    simp at this; omega
  have hc : t[a] = c := by
    have : (t.drop a)[0]? = some c := by rw [hd]; rfl
    simpa [hlt] using this
  have hs : slcB st (T t) (some (a : Int)) (some ((a : Int) + 2)) = some (.val (T ((c :: r).take 2))) := by
    rw [show (a : Int) + 2 = ((a + 2 : Nat) : Int) by omega, slcB_T hf.max, hd, show a + 2 - a = 2 by omega]
  have e1 : signOf (c :: r) = if (c :: r).take 2 ∈ sgns then (c :: r).take 2 else if [c] ∈ sgns then [c] else [] := rfl
  rw [e1]
  clear e1
  generalize (c :: r).take 2 = w at hs
  have e : D.str (Str.ofString "") = T [] := tx_T ""
  have ok : ∀ w : List Nat, (T w).okRef st.length = true := fun _ => rfl
  by_cases h : w ∈ sgns
  · simp [Df.run, exs, ex, ev, evs, evI, Ev.mk1, Ev.mkT, R.bind, R.d, R.of, R.ofS, Bv.d, R.then_, RS.seq, RS.loop, bindT, bindTs, truB, biOf_len, biOf_abs, biOf_max, biOf_int, biOf_list, biOf_all, biOf_tuple, mtOf_append, mtOf_join, mtOf_count, mtOf_rfind, arg1, arg2, biB, metB, recvB, cmpB, binB, List.replicate, df_sign_at, gSIGNS, addB, partB, hs, inB_tup, h, close, oldOk, fin, ok]
  · by_cases h2 : [c] ∈ sgns
    · simp [Df.run, exs, ex, ev, evs, evI, Ev.mk1, Ev.mkT, R.bind, R.d, R.of, R.ofS, Bv.d, R.then_, RS.seq, RS.loop, bindT, bindTs, truB, biOf_len, biOf_abs, biOf_max, biOf_int, biOf_list, biOf_all, biOf_tuple, mtOf_append, mtOf_join, mtOf_count, mtOf_rfind, arg1, arg2, biB, metB, recvB, cmpB, binB, List.replicate, df_sign_at, gSIGNS, addB, partB, hs, inB_tup, h, h2, close, oldOk, fin, idxB_T hf.max, hlt, hc, ok]
    · simp [Df.run, exs, ex, ev, evs, evI, Ev.mk1, Ev.mkT, R.bind, R.d, R.of, R.ofS, Bv.d, R.then_, RS.seq, RS.loop, bindT, bindTs, truB, biOf_len, biOf_abs, biOf_max, biOf_int, biOf_list, biOf_all, biOf_tuple, mtOf_append, mtOf_join, mtOf_count, mtOf_rfind, arg1, arg2, biB, metB, recvB, cmpB, binB, List.replicate, df_sign_at, gSIGNS, addB, partB, hs, inB_tup, h, h2, close, oldOk, fin, idxB_T hf.max, hlt, hc, e, ok]
/-- what a token's reading comes to -/
def tokR (r : List Nat) (l c : Int) (st : Store) : R D := match tok r with
  | .ok (k, w) => .ok (.tup [T k, T w, .int l, .int c]) st
  | .error m => .exc "TextError" [("line", .int l), ("column", .int c), ("words", T m)] st
theorem worth_eq {w : List Nat} (h : (intOf (T w)).isSome = true) : intOf (T w) = some (worth w) := by
  unfold worth
  cases e : intOf (T w) with
  | none => rw [e] at h; cases h
  | some v => rfl
theorem rowOf_le {cs r : List Nat} : (rowOf cs r).length ≤ r.length := (List.takeWhile_sublist _).length_le
theorem token_at {l cl : Int} (hf : Fits t) (hd : t.drop a = c :: r) (hnum : numOk (c :: r)) : cf (n + 2) "token_at" [T t, .int (a : Int), .int l, .int cl] st = tokR (c :: r) l cl st := by
  rw [cf_succ tab_token_at]
  have hlt : a < t.length := by
    have := congrArg List.length hd
    simp at this; omega
  have hc : t[a] = c := by
    have : (t.drop a)[0]? = some c := by rw [hd]; rfl
    simpa [hlt] using this
  have hrow : ∀ cs, cf (n + 1) "row_of" [T t, .int (a : Int), T cs] st = .ok (T (rowOf cs (c :: r))) st := fun cs => by
    rw [row_of hf (by omega), hd]
  have hrow1 : ∀ cs, cf (n + 1) "row_of" [T t, .int ((a : Int) + 1), T cs] st = .ok (T (rowOf cs r)) st := fun cs => by
    have hd' : t.drop (a + 1) = r := by
      have : (t.drop a).drop 1 = r := by rw [hd]; rfl
      simpa [List.drop_drop, Nat.add_comm] using this
    have := row_of (n := n) (cs := cs) (st := st) hf (a := a + 1) (by omega)
    rw [hd'] at this
    exact this
  have hlen : (c :: r).length ≤ 100000 := by
    have := congrArg List.length hd
    unfold Fits at hf
    simp at this ⊢; omega
  have fits : ∀ cs, (rowOf cs (c :: r)).length ≤ maxLen := fun cs => by
    have := @rowOf_le cs (c :: r)
    unfold maxLen; omega
  have fits1 : ∀ cs, (rowOf cs r).length ≤ maxLen := fun cs => by
    have := @rowOf_le cs r
    simp at hlen
    unfold maxLen; omega
  have ok : ∀ w : List Nat, (T w).okRef st.length = true := fun _ => rfl
  have add1 : addB st (T small) (T digs) = some (.val (T (small ++ digs))) := addB_T (by decide)
  have add2 : addB st (T (small ++ digs)) (T [95]) = some (.val (T nameCs)) := addB_T (by decide)
  have k1 : D.str (Str.ofString "_") = T [95] := tx_T "_"
  have k2 : D.str (Str.ofString "?") = T [63] := tx_T "?"
  have k3 : D.str (Str.ofString "") = T [] := tx_T ""
  have cR : ∀ l c : Int, okRefs st.length [D.int l, D.int c, T mWord] = true ∧ okRefs st.length [D.int l, D.int c, T mNumber] = true ∧ okRefs st.length [D.int l, D.int c, T mVariable] = true ∧ okRefs st.length [D.int l, D.int c, T mNone] = true := fun _ _ => ⟨rfl, rfl, rfl, rfl⟩
  by_cases h1 : c ∈ small
  · have t1 : ∀ ρ, (ev (cf (n + 1)) (.cmp .In (.idx (.var 0) (.var 1)) (.glob "SMALL" g_SMALL))).t (some (T t) :: some (.int (a : Int)) :: ρ) st = .ok true st := fun ρ => by
      simp [Df.run, exs, ex, ev, evs, evI, Ev.mk1, Ev.mkT, R.bind, R.d, R.of, R.ofS, Bv.d, R.then_, RS.seq, RS.loop, bindT, bindTs, truB, biOf_len, biOf_abs, biOf_max, biOf_int, biOf_list, biOf_all, biOf_tuple, mtOf_append, mtOf_join, mtOf_count, mtOf_rfind, arg1, arg2, biB, metB, recvB, cmpB, binB, List.replicate, gSMALL, inB_T1, idxB_T hf.max, hlt, hc, h1]
    have s1 : ∀ x y z, ex (cf (n + 1)) (xcOf excs) (.asg (.name 4) (.call "row_of" [(.var 0), (.var 1), (.bin .Add (.bin .Add (.glob "SMALL" g_SMALL) (.glob "DIGITS" g_DIGITS)) (.con (.str "_")))])) [some (T t), some (.int (a : Int)), some (.int l), some (.int cl), none, x, y, z] st
        = .next [some (T t), some (.int (a : Int)), some (.int l), some (.int cl), some (T (rowOf nameCs (c :: r))), x, y, z] st := fun x y z => by
      simp [Df.run, exs, ex, ev, evs, evI, Ev.mk1, Ev.mkT, R.bind, R.d, R.of, R.ofS, Bv.d, R.then_, RS.seq, RS.loop, bindT, bindTs, truB, biOf_len, biOf_abs, biOf_max, biOf_int, biOf_list, biOf_all, biOf_tuple, mtOf_append, mtOf_join, mtOf_count, mtOf_rfind, arg1, arg2, biB, metB, recvB, cmpB, binB, List.replicate, gSMALL, gDIGITS, k1, add1, add2, hrow]
    by_cases h2 : (rowOf nameCs (c :: r)).length > 12
    · have e : tokR (c :: r) l cl st = .exc "TextError" [("line", .int l), ("column", .int cl), ("words", T mWord)] st := by simp [tokR, tok, h1, h2]
      rw [e]
      refine run_exc rfl (cR l cl).1 (if_exc (t1 _) ((x_next (s1 _ _ _)).trans (x_exc (ρ' := [some (T t), some (.int (a : Int)), some (.int l), some (.int cl), some (T (rowOf nameCs (c :: r))), none, none, none]) ?_)))
      have h2i : (12 : Int) < ((rowOf nameCs (c :: r)).length : Int) := by omega
      simp [Df.run, exs, ex, ev, evs, evI, Ev.mk1, Ev.mkT, R.bind, R.d, R.of, R.ofS, Bv.d, R.then_, RS.seq, RS.loop, bindT, bindTs, truB, biOf_len, biOf_abs, biOf_max, biOf_int, biOf_list, biOf_all, biOf_tuple, mtOf_append, mtOf_join, mtOf_count, mtOf_rfind, arg1, arg2, biB, metB, recvB, cmpB, binB, List.replicate, g_LONGEST_SYMBOL, lenB_T (fits nameCs), ltB, h2i, refuse_yes, tx_T]
    · have h2i : ¬ (12 : Int) < ((rowOf nameCs (c :: r)).length : Int) := by omega
      have s2 : ∀ x y z, ex (cf (n + 1)) (xcOf excs) (.ex (.call "refuse" [(.cmp .Gt (.bi "len" [(.var 4)]) (.glob "LONGEST_SYMBOL" g_LONGEST_SYMBOL)), (.var 2), (.var 3), (.con (.str "a word has at most 12 characters"))])) [some (T t), some (.int (a : Int)), some (.int l), some (.int cl), some (T (rowOf nameCs (c :: r))), x, y, z] st
          = .next [some (T t), some (.int (a : Int)), some (.int l), some (.int cl), some (T (rowOf nameCs (c :: r))), x, y, z] st := fun x y z => by
        simp [Df.run, exs, ex, ev, evs, evI, Ev.mk1, Ev.mkT, R.bind, R.d, R.of, R.ofS, Bv.d, R.then_, RS.seq, RS.loop, bindT, bindTs, truB, biOf_len, biOf_abs, biOf_max, biOf_int, biOf_list, biOf_all, biOf_tuple, mtOf_append, mtOf_join, mtOf_count, mtOf_rfind, arg1, arg2, biB, metB, recvB, cmpB, binB, List.replicate, g_LONGEST_SYMBOL, lenB_T (fits nameCs), ltB, h2i, refuse_no, tx_T]
      have e : tokR (c :: r) l cl st = .ok (.tup [T (if rowOf nameCs (c :: r) ∈ resv then kReserved else kName), T (rowOf nameCs (c :: r)), .int l, .int cl]) st := by simp [tokR, tok, h1, h2]
      rw [e]
      refine run_ret rfl rfl rfl (if_ret (t1 _) ((x_next (s1 _ _ _)).trans ((x_next (s2 _ _ _)).trans (x_ret ?_))))
      by_cases h3 : rowOf nameCs (c :: r) ∈ resv
      · simp [Df.run, exs, ex, ev, evs, evI, Ev.mk1, Ev.mkT, R.bind, R.d, R.of, R.ofS, Bv.d, R.then_, RS.seq, RS.loop, bindT, bindTs, truB, biOf_len, biOf_abs, biOf_max, biOf_int, biOf_list, biOf_all, biOf_tuple, mtOf_append, mtOf_join, mtOf_count, mtOf_rfind, arg1, arg2, biB, metB, recvB, cmpB, binB, List.replicate, gRESERVED, inB_tup, h3, tx_T, maxLen]
      · simp [Df.run, exs, ex, ev, evs, evI, Ev.mk1, Ev.mkT, R.bind, R.d, R.of, R.ofS, Bv.d, R.then_, RS.seq, RS.loop, bindT, bindTs, truB, biOf_len, biOf_abs, biOf_max, biOf_int, biOf_list, biOf_all, biOf_tuple, mtOf_append, mtOf_join, mtOf_count, mtOf_rfind, arg1, arg2, biB, metB, recvB, cmpB, binB, List.replicate, gRESERVED, inB_tup, h3, tx_T, maxLen]
  · have t1 : ∀ ρ, (ev (cf (n + 1)) (.cmp .In (.idx (.var 0) (.var 1)) (.glob "SMALL" g_SMALL))).t (some (T t) :: some (.int (a : Int)) :: ρ) st = .ok false st := fun ρ => by
      simp [Df.run, exs, ex, ev, evs, evI, Ev.mk1, Ev.mkT, R.bind, R.d, R.of, R.ofS, Bv.d, R.then_, RS.seq, RS.loop, bindT, bindTs, truB, biOf_len, biOf_abs, biOf_max, biOf_int, biOf_list, biOf_all, biOf_tuple, mtOf_append, mtOf_join, mtOf_count, mtOf_rfind, arg1, arg2, biB, metB, recvB, cmpB, binB, List.replicate, gSMALL, inB_T1, idxB_T hf.max, hlt, hc, h1]
    by_cases h2 : c ∈ digs
    · have t2 : ∀ ρ, (ev (cf (n + 1)) (.cmp .In (.idx (.var 0) (.var 1)) (.glob "DIGITS" g_DIGITS))).t (some (T t) :: some (.int (a : Int)) :: ρ) st = .ok true st := fun ρ => by
        simp [Df.run, exs, ex, ev, evs, evI, Ev.mk1, Ev.mkT, R.bind, R.d, R.of, R.ofS, Bv.d, R.then_, RS.seq, RS.loop, bindT, bindTs, truB, biOf_len, biOf_abs, biOf_max, biOf_int, biOf_list, biOf_all, biOf_tuple, mtOf_append, mtOf_join, mtOf_count, mtOf_rfind, arg1, arg2, biB, metB, recvB, cmpB, binB, List.replicate, gDIGITS, inB_T1, idxB_T hf.max, hlt, hc, h2]
      have s1 : ∀ x y z, ex (cf (n + 1)) (xcOf excs) (.asg (.name 5) (.call "row_of" [(.var 0), (.var 1), (.glob "DIGITS" g_DIGITS)])) [some (T t), some (.int (a : Int)), some (.int l), some (.int cl), x, none, y, z] st
          = .next [some (T t), some (.int (a : Int)), some (.int l), some (.int cl), x, some (T (rowOf digs (c :: r))), y, z] st := fun x y z => by
        simp [Df.run, exs, ex, ev, evs, evI, Ev.mk1, Ev.mkT, R.bind, R.d, R.of, R.ofS, Bv.d, R.then_, RS.seq, RS.loop, bindT, bindTs, truB, biOf_len, biOf_abs, biOf_max, biOf_int, biOf_list, biOf_all, biOf_tuple, mtOf_append, mtOf_join, mtOf_count, mtOf_rfind, arg1, arg2, biB, metB, recvB, cmpB, binB, List.replicate, gDIGITS, hrow]
      have s2 : ∀ b x y z, ((.or_ (.cmp .Gt (.bi "len" [(.var 5)]) (.glob "MOST_DIGITS" g_MOST_DIGITS)) (.cmp .Gt (.bi "int" [(.var 5)]) (.glob "MOST" g_MOST)) : E) = b) →
          ((ev (cf (n + 1)) b).b [some (T t), some (.int (a : Int)), some (.int l), some (.int cl), x, some (T (rowOf digs (c :: r))), y, z] st) = .ok (.val (.bl (decide ((rowOf digs (c :: r)).length > 4 ∨ worth (rowOf digs (c :: r)) > 1000)))) st := fun b x y z hb => by
        subst hb
        by_cases h4 : (4 : Int) < ((rowOf digs (c :: r)).length : Int)
        · have h4' : (rowOf digs (c :: r)).length > 4 := by omega
          simp [Df.run, exs, ex, ev, evs, evI, Ev.mk1, Ev.mkT, R.bind, R.d, R.of, R.ofS, Bv.d, R.then_, RS.seq, RS.loop, bindT, bindTs, truB, biOf_len, biOf_abs, biOf_max, biOf_int, biOf_list, biOf_all, biOf_tuple, mtOf_append, mtOf_join, mtOf_count, mtOf_rfind, arg1, arg2, biB, metB, recvB, cmpB, binB, List.replicate, g_MOST_DIGITS, lenB_T (fits digs), ltB, h4, h4']
        · have h4' : ¬ (rowOf digs (c :: r)).length > 4 := by omega
          have hw := worth_eq (hnum c r rfl h2 (by omega))
          simp [Df.run, exs, ex, ev, evs, evI, Ev.mk1, Ev.mkT, R.bind, R.d, R.of, R.ofS, Bv.d, R.then_, RS.seq, RS.loop, bindT, bindTs, truB, biOf_len, biOf_abs, biOf_max, biOf_int, biOf_list, biOf_all, biOf_tuple, mtOf_append, mtOf_join, mtOf_count, mtOf_rfind, arg1, arg2, biB, metB, recvB, cmpB, binB, List.replicate, g_MOST_DIGITS, g_MOST, lenB_T (fits digs), ltB, h4, h4', hw]
      have hor : ex (cf (n + 1)) (xcOf excs) (.ex (.call "refuse" [(.or_ (.cmp .Gt (.bi "len" [(.var 5)]) (.glob "MOST_DIGITS" g_MOST_DIGITS)) (.cmp .Gt (.bi "int" [(.var 5)]) (.glob "MOST" g_MOST))), (.var 2), (.var 3), (.con (.str "a number is at most 1000"))])) [some (T t), some (.int (a : Int)), some (.int l), some (.int cl), none, some (T (rowOf digs (c :: r))), none, none] st
          = (((cf (n + 1) "refuse" [.bl (decide ((rowOf digs (c :: r)).length > 4 ∨ worth (rowOf digs (c :: r)) > 1000)), .int l, .int cl, T mNumber] st).bind fun d st => .ok (Bv.val d) st).d).then_ [some (T t), some (.int (a : Int)), some (.int l), some (.int cl), none, some (T (rowOf digs (c :: r))), none, none] (fun _ st => .next [some (T t), some (.int (a : Int)), some (.int l), some (.int cl), none, some (T (rowOf digs (c :: r))), none, none] st) := by
        have := s2 _ none none none rfl
        generalize hb : (.or_ (.cmp .Gt (.bi "len" [(.var 5)]) (.glob "MOST_DIGITS" g_MOST_DIGITS)) (.cmp .Gt (.bi "int" [(.var 5)]) (.glob "MOST" g_MOST)) : E) = b at this ⊢
        simp only [ex, ev, evs, Ev.mk1, this, R.bind, R.d, R.of, Bv.d, tx_T]
        rfl
      by_cases h3 : (rowOf digs (c :: r)).length > 4 ∨ worth (rowOf digs (c :: r)) > 1000
      · have e : tokR (c :: r) l cl st = .exc "TextError" [("line", .int l), ("column", .int cl), ("words", T mNumber)] st := by simp [tokR, tok, h1, h2, h3]
        rw [e]
        refine run_exc rfl (cR l cl).2.1 ((if_skip (t1 _)).trans (if_exc (t2 _) ((x_next (s1 _ _ _)).trans (x_exc (ρ' := [some (T t), some (.int (a : Int)), some (.int l), some (.int cl), none, some (T (rowOf digs (c :: r))), none, none]) ?_))))
        rw [hor, decide_eq_true h3, refuse_yes]
        rfl
      · have e : tokR (c :: r) l cl st = .ok (.tup [T kNumber, T (rowOf digs (c :: r)), .int l, .int cl]) st := by simp [tokR, tok, h1, h2, h3]
        rw [e]
        refine run_ret rfl rfl rfl ((if_skip (t1 _)).trans (if_ret (t2 _) ((x_next (s1 _ _ _)).trans ((x_next (ρ' := [some (T t), some (.int (a : Int)), some (.int l), some (.int cl), none, some (T (rowOf digs (c :: r))), none, none]) (st1 := st) ?_).trans (x_ret ?_)))))
        · rw [hor, decide_eq_false h3, refuse_no]
          rfl
        · simp [Df.run, exs, ex, ev, evs, evI, Ev.mk1, Ev.mkT, R.bind, R.d, R.of, R.ofS, Bv.d, R.then_, RS.seq, RS.loop, bindT, bindTs, truB, biOf_len, biOf_abs, biOf_max, biOf_int, biOf_list, biOf_all, biOf_tuple, mtOf_append, mtOf_join, mtOf_count, mtOf_rfind, arg1, arg2, biB, metB, recvB, cmpB, binB, List.replicate, tx_T, maxLen]
    · have t2 : ∀ ρ, (ev (cf (n + 1)) (.cmp .In (.idx (.var 0) (.var 1)) (.glob "DIGITS" g_DIGITS))).t (some (T t) :: some (.int (a : Int)) :: ρ) st = .ok false st := fun ρ => by
        simp [Df.run, exs, ex, ev, evs, evI, Ev.mk1, Ev.mkT, R.bind, R.d, R.of, R.ofS, Bv.d, R.then_, RS.seq, RS.loop, bindT, bindTs, truB, biOf_len, biOf_abs, biOf_max, biOf_int, biOf_list, biOf_all, biOf_tuple, mtOf_append, mtOf_join, mtOf_count, mtOf_rfind, arg1, arg2, biB, metB, recvB, cmpB, binB, List.replicate, gDIGITS, inB_T1, idxB_T hf.max, hlt, hc, h2]
      by_cases h3 : c = 63
      · have t3 : ∀ ρ, (ev (cf (n + 1)) (.cmp .Eq (.idx (.var 0) (.var 1)) (.con (.str "?")))).t (some (T t) :: some (.int (a : Int)) :: ρ) st = .ok true st := fun ρ => by
          simp [Df.run, exs, ex, ev, evs, evI, Ev.mk1, Ev.mkT, R.bind, R.d, R.of, R.ofS, Bv.d, R.then_, RS.seq, RS.loop, bindT, bindTs, truB, biOf_len, biOf_abs, biOf_max, biOf_int, biOf_list, biOf_all, biOf_tuple, mtOf_append, mtOf_join, mtOf_count, mtOf_rfind, arg1, arg2, biB, metB, recvB, cmpB, binB, List.replicate, idxB_T hf.max, hlt, hc, h3, k2, eqB_T]
        have s1 : ∀ x y z, ex (cf (n + 1)) (xcOf excs) (.asg (.name 6) (.call "row_of" [(.var 0), (.bin .Add (.var 1) (.con (.int 1))), (.bin .Add (.glob "SMALL" g_SMALL) (.glob "DIGITS" g_DIGITS))])) [some (T t), some (.int (a : Int)), some (.int l), some (.int cl), x, y, none, z] st
            = .next [some (T t), some (.int (a : Int)), some (.int l), some (.int cl), x, y, some (T (rowOf varCs r)), z] st := fun x y z => by
          have := hrow1 varCs
          have h1 : addB st (.int (a : Int)) (.int 1) = some (.val (.int ((a : Int) + 1))) := rfl
          have this : cf (n + 1) "row_of" [T t, .int ((a : Int) + 1), T (small ++ digs)] st = .ok (T (rowOf varCs r)) st := this
          simp [Df.run, exs, ex, ev, evs, evI, Ev.mk1, Ev.mkT, R.bind, R.d, R.of, R.ofS, Bv.d, R.then_, RS.seq, RS.loop, bindT, bindTs, truB, biOf_len, biOf_abs, biOf_max, biOf_int, biOf_list, biOf_all, biOf_tuple, mtOf_append, mtOf_join, mtOf_count, mtOf_rfind, arg1, arg2, biB, metB, recvB, cmpB, binB, List.replicate, gSMALL, gDIGITS, add1, h1, this]
        have s2 : ∀ b, b = decide (rowOf varCs r = []) → ex (cf (n + 1)) (xcOf excs) (.ex (.call "refuse" [(.cmp .Eq (.var 6) (.con (.str ""))), (.var 2), (.var 3), (.con (.str "no token begins here"))])) [some (T t), some (.int (a : Int)), some (.int l), some (.int cl), none, none, some (T (rowOf varCs r)), none] st
            = (((cf (n + 1) "refuse" [.bl b, .int l, .int cl, T mNone] st).bind fun d st => .ok (Bv.val d) st).d).then_ [some (T t), some (.int (a : Int)), some (.int l), some (.int cl), none, none, some (T (rowOf varCs r)), none] (fun _ st => .next [some (T t), some (.int (a : Int)), some (.int l), some (.int cl), none, none, some (T (rowOf varCs r)), none] st) := fun b hb => by
          subst hb
          simp only [ex, ev, evs, Ev.mk1, Ev.mkT, cmpB, R.bind, R.d, R.of, Bv.d, tx_T, k3, eqB_T, List.getElem?_cons_succ, List.getElem?_cons_zero]
        have s3 : ∀ b, b = decide (8 < ((rowOf varCs r).length : Int)) → ex (cf (n + 1)) (xcOf excs) (.ex (.call "refuse" [(.cmp .Gt (.bi "len" [(.var 6)]) (.glob "LONGEST_VARIABLE" g_LONGEST_VARIABLE)), (.var 2), (.var 3), (.con (.str "a variable has at most 8 characters"))])) [some (T t), some (.int (a : Int)), some (.int l), some (.int cl), none, none, some (T (rowOf varCs r)), none] st
            = (((cf (n + 1) "refuse" [.bl b, .int l, .int cl, T mVariable] st).bind fun d st => .ok (Bv.val d) st).d).then_ [some (T t), some (.int (a : Int)), some (.int l), some (.int cl), none, none, some (T (rowOf varCs r)), none] (fun _ st => .next [some (T t), some (.int (a : Int)), some (.int l), some (.int cl), none, none, some (T (rowOf varCs r)), none] st) := fun b hb => by
          subst hb
          simp only [ex, ev, evs, Ev.mk1, Ev.mkT, cmpB, R.bind, R.d, R.of, Bv.d, tx_T, biOf_len, Option.bind_some, biB, arg1, lenB_T (fits1 varCs), Option.map_some, ltB, g_LONGEST_VARIABLE, List.getElem?_cons_succ, List.getElem?_cons_zero]
        by_cases h4 : rowOf varCs r = []
        · have e : tokR (c :: r) l cl st = .exc "TextError" [("line", .int l), ("column", .int cl), ("words", T mNone)] st := by simp [tokR, tok, h1, h2, h3, h4] at *; simp [h1, h2]
          rw [e]
          refine run_exc rfl (cR l cl).2.2.2 ((if_skip (t1 _)).trans ((if_skip (t2 _)).trans (if_exc (t3 _) ((x_next (s1 _ _ _)).trans (x_exc (ρ' := [some (T t), some (.int (a : Int)), some (.int l), some (.int cl), none, none, some (T (rowOf varCs r)), none]) ?_)))))
          rw [s2 true (by simp [h4]), refuse_yes]
          rfl
        · by_cases h5 : (rowOf varCs r).length > 8
          · have e : tokR (c :: r) l cl st = .exc "TextError" [("line", .int l), ("column", .int cl), ("words", T mVariable)] st := by
              subst h3; simp [tokR, tok, h1, h2, h4, h5]
            rw [e]
            refine run_exc rfl (cR l cl).2.2.1 ((if_skip (t1 _)).trans ((if_skip (t2 _)).trans (if_exc (t3 _) ((x_next (s1 _ _ _)).trans ((x_next (ρ' := [some (T t), some (.int (a : Int)), some (.int l), some (.int cl), none, none, some (T (rowOf varCs r)), none]) (st1 := st) ?_).trans (x_exc (ρ' := [some (T t), some (.int (a : Int)), some (.int l), some (.int cl), none, none, some (T (rowOf varCs r)), none]) ?_))))))
            · rw [s2 false (by simp [h4]), refuse_no]
              rfl
            · rw [s3 true (by simp; omega), refuse_yes]
              rfl
          · have e : tokR (c :: r) l cl st = .ok (.tup [T kVariable, T (63 :: rowOf varCs r), .int l, .int cl]) st := by
              subst h3; simp [tokR, tok, h1, h2, h4, h5]
            rw [e]
            have ad : addB st (T [63]) (T (rowOf varCs r)) = some (.val (T (63 :: rowOf varCs r))) := addB_T (by have := fits1 varCs; unfold maxLen at *; simp; omega)
            refine run_ret rfl rfl rfl ((if_skip (t1 _)).trans ((if_skip (t2 _)).trans (if_ret (t3 _) ((x_next (s1 _ _ _)).trans ((x_next (ρ' := [some (T t), some (.int (a : Int)), some (.int l), some (.int cl), none, none, some (T (rowOf varCs r)), none]) (st1 := st) ?_).trans ((x_next (ρ' := [some (T t), some (.int (a : Int)), some (.int l), some (.int cl), none, none, some (T (rowOf varCs r)), none]) (st1 := st) ?_).trans (x_ret ?_)))))))
            · rw [s2 false (by simp [h4]), refuse_no]
              rfl
            · rw [s3 false (by simp; omega), refuse_no]
              rfl
            · simp [Df.run, exs, ex, ev, evs, evI, Ev.mk1, Ev.mkT, R.bind, R.d, R.of, R.ofS, Bv.d, R.then_, RS.seq, RS.loop, bindT, bindTs, truB, biOf_len, biOf_abs, biOf_max, biOf_int, biOf_list, biOf_all, biOf_tuple, mtOf_append, mtOf_join, mtOf_count, mtOf_rfind, arg1, arg2, biB, metB, recvB, cmpB, binB, List.replicate, tx_T, k2, ad, maxLen]
      · have t3 : ∀ ρ, (ev (cf (n + 1)) (.cmp .Eq (.idx (.var 0) (.var 1)) (.con (.str "?")))).t (some (T t) :: some (.int (a : Int)) :: ρ) st = .ok false st := fun ρ => by
          simp [Df.run, exs, ex, ev, evs, evI, Ev.mk1, Ev.mkT, R.bind, R.d, R.of, R.ofS, Bv.d, R.then_, RS.seq, RS.loop, bindT, bindTs, truB, biOf_len, biOf_abs, biOf_max, biOf_int, biOf_list, biOf_all, biOf_tuple, mtOf_append, mtOf_join, mtOf_count, mtOf_rfind, arg1, arg2, biB, metB, recvB, cmpB, binB, List.replicate, idxB_T hf.max, hlt, hc, h3, k2, eqB_T]
        have s1 : ex (cf (n + 1)) (xcOf excs) (.asg (.name 7) (.call "sign_at" [(.var 0), (.var 1)])) [some (T t), some (.int (a : Int)), some (.int l), some (.int cl), none, none, none, none] st
            = .next [some (T t), some (.int (a : Int)), some (.int l), some (.int cl), none, none, none, some (T (signOf (c :: r)))] st := by
          simp [Df.run, exs, ex, ev, evs, evI, Ev.mk1, Ev.mkT, R.bind, R.d, R.of, R.ofS, Bv.d, R.then_, RS.seq, RS.loop, bindT, bindTs, truB, biOf_len, biOf_abs, biOf_max, biOf_int, biOf_list, biOf_all, biOf_tuple, mtOf_append, mtOf_join, mtOf_count, mtOf_rfind, arg1, arg2, biB, metB, recvB, cmpB, binB, List.replicate, sign_at hf hd]
        have s2 : ∀ b, b = decide (signOf (c :: r) = []) → ex (cf (n + 1)) (xcOf excs) (.ex (.call "refuse" [(.cmp .Eq (.var 7) (.con (.str ""))), (.var 2), (.var 3), (.con (.str "no token begins here"))])) [some (T t), some (.int (a : Int)), some (.int l), some (.int cl), none, none, none, some (T (signOf (c :: r)))] st
            = (((cf (n + 1) "refuse" [.bl b, .int l, .int cl, T mNone] st).bind fun d st => .ok (Bv.val d) st).d).then_ [some (T t), some (.int (a : Int)), some (.int l), some (.int cl), none, none, none, some (T (signOf (c :: r)))] (fun _ st => .next [some (T t), some (.int (a : Int)), some (.int l), some (.int cl), none, none, none, some (T (signOf (c :: r)))] st) := fun b hb => by
          subst hb
          simp only [ex, ev, evs, Ev.mk1, Ev.mkT, cmpB, R.bind, R.d, R.of, Bv.d, tx_T, k3, eqB_T, List.getElem?_cons_succ, List.getElem?_cons_zero]
        by_cases h4 : signOf (c :: r) = []
        · have e : tokR (c :: r) l cl st = .exc "TextError" [("line", .int l), ("column", .int cl), ("words", T mNone)] st := by simp [tokR, tok, h1, h2, h3, h4]
          rw [e]
          refine run_exc rfl (cR l cl).2.2.2 ((if_skip (t1 _)).trans ((if_skip (t2 _)).trans ((if_skip (t3 _)).trans ((x_next s1).trans (x_exc (ρ' := [some (T t), some (.int (a : Int)), some (.int l), some (.int cl), none, none, none, some (T (signOf (c :: r)))]) ?_)))))
          rw [s2 true (by simp [h4]), refuse_yes]
          rfl
        · have e : tokR (c :: r) l cl st = .ok (.tup [T kSign, T (signOf (c :: r)), .int l, .int cl]) st := by simp [tokR, tok, h1, h2, h3, h4]
          rw [e]
          refine run_ret rfl rfl rfl ((if_skip (t1 _)).trans ((if_skip (t2 _)).trans ((if_skip (t3 _)).trans ((x_next s1).trans ((x_next (ρ' := [some (T t), some (.int (a : Int)), some (.int l), some (.int cl), none, none, none, some (T (signOf (c :: r)))]) (st1 := st) ?_).trans (x_ret ?_))))))
          · rw [s2 false (by simp [h4]), refuse_no]
            rfl
          · simp [Df.run, exs, ex, ev, evs, evI, Ev.mk1, Ev.mkT, R.bind, R.d, R.of, R.ofS, Bv.d, R.then_, RS.seq, RS.loop, bindT, bindTs, truB, biOf_len, biOf_abs, biOf_max, biOf_int, biOf_list, biOf_all, biOf_tuple, mtOf_append, mtOf_join, mtOf_count, mtOf_rfind, arg1, arg2, biB, metB, recvB, cmpB, binB, List.replicate, tx_T, maxLen]
end
end K70

set_option Elab.async false
set_option linter.all false
set_option maxRecDepth 100000
set_option autoImplicit false
/-! The depth; the turns of scan. -/
namespace K70
open Ip PySem
/-- the depth behind a token, or too deep -/
def deep (k w : List Nat) (d : Nat) : Option Nat :=
  if k = kSign ∧ w ∈ [[40], [123]] then (if d = 12 then none else some (d + 1))
  else if k = kSign ∧ w ∈ [[41], [125]] then some (d - 1) else some d
theorem sgns_open : ∀ w ∈ sgns, inStr ⟨w.toArray⟩ ⟨[40, 123].toArray⟩ = decide (w ∈ ([[40], [123]] : List (List Nat))) := by decide +kernel
theorem sgns_close : ∀ w ∈ sgns, inStr ⟨w.toArray⟩ ⟨[41, 125].toArray⟩ = decide (w ∈ ([[41], [125]] : List (List Nat))) := by decide +kernel
theorem tx_open : tx "({" = [40, 123] := by decide +kernel
theorem tx_close : tx ")}" = [41, 125] := by decide +kernel
def tokD (k w : List Nat) (l c : Int) : D := .tup [T k, T w, .int l, .int c]
def deepR (k w : List Nat) (l c : Int) (d : Nat) (st : Store) : R D := match deep k w d with
  | some d' => .ok (.int (d' : Int)) st
  | none => .exc "TextError" [("line", .int l), ("column", .int c), ("words", T mDeep)] st
theorem depth_after {n : Nat} {k w : List Nat} {l c : Int} {d : Nat} {st : Store} (hw : k = kSign → w ∈ sgns) : cf (n + 2) "depth_after" [tokD k w l c, .int (d : Int)] st = deepR k w l c d st := by
  rw [cf_succ tab_depth_after]
  have i0 : idxB st (tokD k w l c) (.int 0) = some (T k) := idxB_tup (k := 0)
  have i1 : idxB st (tokD k w l c) (.int 1) = some (T w) := idxB_tup (k := 1)
  have i2 : idxB st (tokD k w l c) (.int 2) = some (.int l) := idxB_tup (k := 2)
  have i3 : idxB st (tokD k w l c) (.int 3) = some (.int c) := idxB_tup (k := 3)
  by_cases hk : k = kSign
  · have hk' : decide (k = tx "sign") = true := decide_eq_true hk
    have hs := hw hk
    have b1 : inB st (T w) (T (tx "({")) = some (decide (w ∈ ([[40], [123]] : List (List Nat)))) := by
      rw [tx_open]; exact congrArg some (sgns_open w hs)
    have b2 : inB st (T w) (T (tx ")}")) = some (decide (w ∈ ([[41], [125]] : List (List Nat)))) := by
      rw [tx_close]; exact congrArg some (sgns_close w hs)
    have t1 : (ev (cf (n + 1)) (.and_ (.cmp .Eq (.idx (.var 0) (.con (.int 0))) (.con (.str "sign"))) (.cmp .In (.idx (.var 0) (.con (.int 1))) (.con (.str "({"))))).t [some (tokD k w l c), some (.int (d : Int))] st = .ok (decide (w ∈ ([[40], [123]] : List (List Nat)))) st := by
      simp only [ev, Ev.mk1, Ev.mkT, R.bind, R.d, R.of, Bv.d, cmpB, tx_T, i0, i1, eqB_T, b1, hk', if_true, List.getElem?_cons_zero]
    have t2 : (ev (cf (n + 1)) (.and_ (.cmp .Eq (.idx (.var 0) (.con (.int 0))) (.con (.str "sign"))) (.cmp .In (.idx (.var 0) (.con (.int 1))) (.con (.str ")}"))))).t [some (tokD k w l c), some (.int (d : Int))] st = .ok (decide (w ∈ ([[41], [125]] : List (List Nat)))) st := by
      simp only [ev, Ev.mk1, Ev.mkT, R.bind, R.d, R.of, Bv.d, cmpB, tx_T, i0, i1, eqB_T, b2, hk', if_true, List.getElem?_cons_zero]
    by_cases h1 : w ∈ ([[40], [123]] : List (List Nat))
    · rw [decide_eq_true h1] at t1
      have s1 : ∀ b, b = decide ((d : Int) = 12) → ex (cf (n + 1)) (xcOf excs) (.ex (.call "refuse" [(.cmp .Eq (.var 1) (.glob "DEEPEST" g_DEEPEST)), (.idx (.var 0) (.con (.int 2))), (.idx (.var 0) (.con (.int 3))), (.con (.str "nested too deep"))])) [some (tokD k w l c), some (.int (d : Int))] st
          = (((cf (n + 1) "refuse" [.bl b, .int l, .int c, T mDeep] st).bind fun d st => .ok (Bv.val d) st).d).then_ [some (tokD k w l c), some (.int (d : Int))] (fun _ st => .next [some (tokD k w l c), some (.int (d : Int))] st) := fun b hb => by
        subst hb
        simp only [ex, ev, evs, Ev.mk1, Ev.mkT, cmpB, R.bind, R.d, R.of, Bv.d, tx_T, g_DEEPEST, eqB_int, i2, i3, List.getElem?_cons_succ, List.getElem?_cons_zero]
      by_cases h2 : d = 12
      · have e : deepR k w l c d st = .exc "TextError" [("line", .int l), ("column", .int c), ("words", T mDeep)] st := by simp [deepR, deep, hk, h1, h2]
        rw [e]
        refine run_exc rfl rfl (if_exc t1 (x_exc (ρ' := [some (tokD k w l c), some (.int (d : Int))]) ?_))
        refine (s1 true (by simp; omega)).trans ?_
        rw [refuse_yes]
        rfl
      · have e : deepR k w l c d st = .ok (.int ((d + 1 : Nat) : Int)) st := by simp [deepR, deep, hk, h1, h2]
        rw [e]
        refine run_ret rfl rfl rfl (if_ret t1 ((x_next (ρ' := [some (tokD k w l c), some (.int (d : Int))]) (st1 := st) ?_).trans (x_ret ?_)))
        · refine (s1 false (by simp; omega)).trans ?_
          rw [refuse_no]
          rfl
        · simp [Df.run, exs, ex, ev, evs, evI, Ev.mk1, Ev.mkT, R.bind, R.d, R.of, R.ofS, Bv.d, R.then_, RS.seq, RS.loop, bindT, bindTs, truB, biOf_len, biOf_abs, biOf_max, biOf_int, biOf_list, biOf_all, biOf_tuple, mtOf_append, mtOf_join, mtOf_count, mtOf_rfind, arg1, arg2, biB, metB, recvB, cmpB, binB, List.replicate, addB]
    · rw [decide_eq_false h1] at t1
      by_cases h2 : w ∈ ([[41], [125]] : List (List Nat))
      · rw [decide_eq_true h2] at t2
        have e : deepR k w l c d st = .ok (.int ((d - 1 : Nat) : Int)) st := by simp [deepR, deep, hk, h1, h2]
        rw [e]
        refine run_ret rfl rfl rfl ((if_skip t1).trans (if_ret t2 (x_ret ?_)))
        have em : (if ((d : Int) - 1) > 0 then ((d : Int) - 1) else 0) = ((d - 1 : Nat) : Int) := by split <;> omega
        simp [Df.run, exs, ex, ev, evs, evI, Ev.mk1, Ev.mkT, R.bind, R.d, R.of, R.ofS, Bv.d, R.then_, RS.seq, RS.loop, bindT, bindTs, truB, biOf_len, biOf_abs, biOf_max, biOf_int, biOf_list, biOf_all, biOf_tuple, mtOf_append, mtOf_join, mtOf_count, mtOf_rfind, arg1, arg2, biB, metB, recvB, cmpB, binB, List.replicate, intB, asInt, em]
        split <;> omega
      · rw [decide_eq_false h2] at t2
        have e : deepR k w l c d st = .ok (.int (d : Int)) st := by simp [deepR, deep, hk, h1, h2]
        rw [e]
        refine run_ret rfl rfl rfl ((if_skip t1).trans ((if_skip t2).trans (x_ret ?_)))
        simp [Df.run, exs, ex, ev, evs, evI, Ev.mk1, Ev.mkT, R.bind, R.d, R.of, R.ofS, Bv.d, R.then_, RS.seq, RS.loop, bindT, bindTs, truB, biOf_len, biOf_abs, biOf_max, biOf_int, biOf_list, biOf_all, biOf_tuple, mtOf_append, mtOf_join, mtOf_count, mtOf_rfind, arg1, arg2, biB, metB, recvB, cmpB, binB, List.replicate]
  · have hk' : decide (k = tx "sign") = false := decide_eq_false hk
    have t : ∀ s : List Nat, ∀ e, (ev (cf (n + 1)) (.and_ (.cmp .Eq (.idx (.var 0) (.con (.int 0))) (.con (.str "sign"))) e)).t [some (tokD k w l c), some (.int (d : Int))] st = .ok false st := fun s e => by
      simp only [ev, Ev.mk1, Ev.mkT, R.bind, R.d, R.of, Bv.d, cmpB, tx_T, i0, i1, eqB_T, hk', Bool.false_eq_true, if_false, List.getElem?_cons_zero]
    have e : deepR k w l c d st = .ok (.int (d : Int)) st := by simp [deepR, deep, hk]
    rw [e]
    refine run_ret rfl rfl rfl ((if_skip (t [] _)).trans ((if_skip (t [] _)).trans (x_ret ?_)))
    simp [Df.run, exs, ex, ev, evs, evI, Ev.mk1, Ev.mkT, R.bind, R.d, R.of, R.ofS, Bv.d, R.then_, RS.seq, RS.loop, bindT, bindTs, truB, biOf_len, biOf_abs, biOf_max, biOf_int, biOf_list, biOf_all, biOf_tuple, mtOf_append, mtOf_join, mtOf_count, mtOf_rfind, arg1, arg2, biB, metB, recvB, cmpB, binB, List.replicate]
/-! ### the turns -/
def ln (p : List Nat) : Nat := 1 + p.count 10
def bg (p : List Nat) : Nat := p.length - (p.reverse.takeWhile fun c => decide (c ≠ 10)).length
def col (p : List Nat) : Nat := p.length - bg p + 1
theorem ln_snoc {p : List Nat} {c : Nat} : ln (p ++ [c]) = if c = 10 then ln p + 1 else ln p := by
  unfold ln
  rw [List.count_append, List.count_singleton]
  by_cases h : c = 10
  · subst h; simp; omega
  · simp [h]
theorem bg_le {p : List Nat} : bg p ≤ p.length := by unfold bg; omega
theorem bg_snoc {p : List Nat} {c : Nat} : bg (p ++ [c]) = if c = 10 then p.length + 1 else bg p := by
  unfold bg
  rw [List.reverse_append, List.reverse_singleton, List.singleton_append, List.takeWhile_cons]
  by_cases h : c = 10
  · simp [h]
  · simp [h]
theorem ln_flat {p x : List Nat} (h : 10 ∉ x) : ln (p ++ x) = ln p := by
  unfold ln
  rw [List.count_append, List.count_eq_zero_of_not_mem h]
  rfl
theorem bg_flat {p : List Nat} : ∀ {x : List Nat}, 10 ∉ x → bg (p ++ x) = bg p := by
  intro x
  induction x generalizing p with
  | nil => intro _; rw [List.append_nil]
  | cons c x ih =>
    intro h
    have hc : ¬ c = 10 := fun e => h (by simp [e])
    have hx : 10 ∉ x := fun e => h (by simp [e])
    rw [show p ++ c :: x = (p ++ [c]) ++ x by simp, ih hx, bg_snoc, if_neg hc]
abbrev cndS : E := .cmp .Lt (.var 2) (.bi "len" [(.var 0)])
def bodyS : List S := [
    .ifs (.cmp .In (.idx (.var 0) (.var 2)) (.glob "BLANKS" g_BLANKS)) [
      .ifs (.cmp .Eq (.idx (.var 0) (.var 2)) (.con (.str "\n"))) [
        .asg (.name 3) (.bin .Add (.var 3) (.con (.int 1))),
        .asg (.name 4) (.bin .Add (.var 2) (.con (.int 1)))] [],
      .asg (.name 2) (.bin .Add (.var 2) (.con (.int 1)))] [
      .ifs (.cmp .Eq (.idx (.var 0) (.var 2)) (.con (.str "#"))) [
        .while_ (.and_ (.cmp .Lt (.var 2) (.bi "len" [(.var 0)])) (.cmp .NotEq (.idx (.var 0) (.var 2)) (.con (.str "\n")))) [
          .asg (.name 2) (.bin .Add (.var 2) (.con (.int 1)))]] [
        .asg (.name 6) (.call "token_at" [(.var 0), (.var 2), (.var 3), (.bin .Add (.bin .Sub (.var 2) (.var 4)) (.con (.int 1)))]),
        .asg (.name 5) (.call "depth_after" [(.var 6), (.var 5)]),
        .ex (.met "append" (.var 1) [(.var 6)]),
        .asg (.name 2) (.bin .Add (.var 2) (.bi "len" [(.idx (.var 6) (.con (.int 1)))]))]]]
/-- the state of scan at a place -/
def envS (t : List Nat) (m : Nat) (a d : Nat) (x : Option D) : Ip.Env := [some (T t), some (.ref m), some (.int (a : Int)), some (.int (ln (t.take a) : Int)), some (.int (bg (t.take a) : Int)), some (.int (d : Int)), x]
def goS (n : Nat) (t : List Nat) (m a d : Nat) (x : Option D) (st : Store) (fuel : Nat) : RS := whileF (ev (cf n) cndS).t (exs (cf n) (xcOf excs) bodyS) fuel (envS t m a d x) st
theorem tx_nl : tx "\n" = [10] := by decide +kernel
theorem tx_hash : tx "#" = [35] := by decide +kernel
section
variable {n : Nat} {t : List Nat} {m a d : Nat} {x : Option D} {st : Store} {fuel : Nat} {c : Nat} {r : List Nat}
theorem drop_lt (hd : t.drop a = c :: r) : a < t.length := by
  have := congrArg List.length hd
  simp at this; omega
theorem drop_get (hd : t.drop a = c :: r) : t[a]? = some c := by
  have : (t.drop a)[0]? = some c := by rw [hd]; rfl
  simpa using this
theorem take_snoc (hd : t.drop a = c :: r) : t.take (a + 1) = t.take a ++ [c] := by
  rw [List.take_succ, drop_get hd]; rfl
theorem cnd_yes (hf : Fits t) (h : a < t.length) {Φ : Fn} {y z w v : Option D} {s : Store} : (ev Φ cndS).t [some (T t), y, some (.int (a : Int)), z, w, v, x] s = .ok true s := by
  have : decide ((a : Int) < (t.length : Int)) = true := by simp; omega
  simp only [ev, evs, Ev.mk1, Ev.mkT, R.bind, R.d, R.of, Bv.d, cmpB, biOf_len, Option.bind_some, biB, arg1, lenB_T hf.max, Option.map_some, ltB, this, List.getElem?_cons_succ, List.getElem?_cons_zero]
theorem cnd_no (hf : Fits t) (h : t.length ≤ a) {Φ : Fn} {y z w v : Option D} {s : Store} : (ev Φ cndS).t [some (T t), y, some (.int (a : Int)), z, w, v, x] s = .ok false s := by
  have : decide ((a : Int) < (t.length : Int)) = false := by simp; omega
  simp only [ev, evs, Ev.mk1, Ev.mkT, R.bind, R.d, R.of, Bv.d, cmpB, biOf_len, Option.bind_some, biB, arg1, lenB_T hf.max, Option.map_some, ltB, this, List.getElem?_cons_succ, List.getElem?_cons_zero]
theorem go_end (hf : Fits t) (h : t.length ≤ a) : goS n t m a d x st (fuel + 1) = .next (envS t m a d x) st := while_end (cnd_no hf h)
theorem blank_t {b : Bool} (hf : Fits t) (hd : t.drop a = c :: r) (hb : decide (c ∈ [32, 10, 9]) = b) {Φ : Fn} {y z w v : Option D} {s : Store} : (ev Φ (.cmp .In (.idx (.var 0) (.var 2)) (.glob "BLANKS" g_BLANKS))).t [some (T t), y, some (.int (a : Int)), z, w, v, x] s = .ok b s := by
  subst hb
  simp only [ev, Ev.mk1, Ev.mkT, R.bind, R.d, R.of, Bv.d, cmpB, gBLANKS, idxB_T hf.max, drop_get hd, Option.map_some, inB_T1, List.getElem?_cons_succ, List.getElem?_cons_zero]
theorem eq_t {b : Bool} {q : List Nat} {str : String} (hf : Fits t) (hd : t.drop a = c :: r) (hq : tx str = q) (hb : decide ([c] = q) = b) {Φ : Fn} {y z w v : Option D} {s : Store} : (ev Φ (.cmp .Eq (.idx (.var 0) (.var 2)) (.con (.str (Str.ofString str))))).t [some (T t), y, some (.int (a : Int)), z, w, v, x] s = .ok b s := by
  subst hb
  simp only [ev, Ev.mk1, Ev.mkT, R.bind, R.d, R.of, Bv.d, cmpB, tx_T, hq, eqB_T, idxB_T hf.max, drop_get hd, Option.map_some, List.getElem?_cons_succ, List.getElem?_cons_zero]
theorem go_blank (hf : Fits t) (hd : t.drop a = c :: r) (hc : c ∈ [32, 10, 9]) : goS n t m a d x st (fuel + 1) = goS n t m (a + 1) d x st fuel := by
  refine while_step (cnd_yes hf (drop_lt hd)) ?_
  refine (if_next (ρ' := envS t m (a + 1) d x) (st2 := st) (blank_t hf hd (decide_eq_true hc)) ?_).trans x_nil
  by_cases h : c = 10
  · refine (if_next (ρ' := [some (T t), some (.ref m), some (.int (a : Int)), some (.int ((ln (t.take a) : Int) + 1)), some (.int ((a : Int) + 1)), some (.int (d : Int)), x]) (st2 := st) (eq_t hf hd tx_nl (by simp [h])) ?_).trans ?_
    · simp [Df.run, exs, ex, ev, evs, evI, Ev.mk1, Ev.mkT, R.bind, R.d, R.of, R.ofS, Bv.d, R.then_, RS.seq, RS.loop, bindT, bindTs, truB, biOf_len, biOf_abs, biOf_max, biOf_int, biOf_list, biOf_all, biOf_tuple, mtOf_append, mtOf_join, mtOf_count, mtOf_rfind, arg1, arg2, biB, metB, recvB, cmpB, binB, List.replicate, envS, addB]
    · subst h
      have hl : (t.take a).length = a := by rw [List.length_take]; have := drop_lt hd; omega
      simp [Df.run, exs, ex, ev, evs, evI, Ev.mk1, Ev.mkT, R.bind, R.d, R.of, R.ofS, Bv.d, R.then_, RS.seq, RS.loop, bindT, bindTs, truB, biOf_len, biOf_abs, biOf_max, biOf_int, biOf_list, biOf_all, biOf_tuple, mtOf_append, mtOf_join, mtOf_count, mtOf_rfind, arg1, arg2, biB, metB, recvB, cmpB, binB, List.replicate, envS, addB, take_snoc hd, ln_snoc, bg_snoc, hl]
  · refine (if_skip (eq_t hf hd tx_nl (by simp [h]))).trans ?_
    simp [Df.run, exs, ex, ev, evs, evI, Ev.mk1, Ev.mkT, R.bind, R.d, R.of, R.ofS, Bv.d, R.then_, RS.seq, RS.loop, bindT, bindTs, truB, biOf_len, biOf_abs, biOf_max, biOf_int, biOf_list, biOf_all, biOf_tuple, mtOf_append, mtOf_join, mtOf_count, mtOf_rfind, arg1, arg2, biB, metB, recvB, cmpB, binB, List.replicate, envS, addB, take_snoc hd, ln_snoc, bg_snoc, h]
end
end K70

set_option Elab.async false
set_option linter.all false
set_option maxRecDepth 100000
set_option autoImplicit false
/-! scan: comments, tokens, the whole. -/
namespace K70
open Ip PySem
def restOf (r : List Nat) : List Nat := r.takeWhile fun c => decide (c ≠ 10)
theorem rest_flat {r : List Nat} : 10 ∉ restOf r := fun h => by
  unfold restOf at h
  have key : ∀ r : List Nat, 10 ∉ r.takeWhile fun c => decide (c ≠ 10) := by
    intro r
    induction r with
    | nil => simp
    | cons c r ih =>
      rw [List.takeWhile_cons]
      by_cases h : c = 10
      · simp [h]
      · simp only [h, ne_eq, not_false_eq_true, decide_true, if_true, List.mem_cons, not_or]
        exact ⟨fun e => h e.symm, ih⟩
  exact key r h
theorem comment_loop {Φ : Fn} {xc : XC} {t : List Nat} {y z w v x : Option D} {st : Store} (hf : Fits t) : ∀ (r : List Nat) (e fuel : Nat), t.drop e = r → e ≤ t.length → r.length < fuel →
    whileF (ev Φ (.and_ (.cmp .Lt (.var 2) (.bi "len" [(.var 0)])) (.cmp .NotEq (.idx (.var 0) (.var 2)) (.con (.str "\n"))))).t (exs Φ xc [.asg (.name 2) (.bin .Add (.var 2) (.con (.int 1)))]) fuel [some (T t), y, some (.int (e : Int)), z, w, v, x] st
      = .next [some (T t), y, some (.int ((e + (restOf r).length : Nat) : Int)), z, w, v, x] st
  | [], e, fuel, hd, he, hfu => by
    obtain ⟨fuel, rfl⟩ := Nat.exists_eq_add_one_of_ne_zero (n := fuel) (by omega)
    have hl : t.length ≤ e := by simpa using hd
    rw [while_end (st1 := st)]
    · simp [restOf]
    · simp [Df.run, exs, ex, ev, evs, evI, Ev.mk1, Ev.mkT, R.bind, R.d, R.of, R.ofS, Bv.d, R.then_, RS.seq, RS.loop, bindT, bindTs, truB, biOf_len, biOf_abs, biOf_max, biOf_int, biOf_list, biOf_all, biOf_tuple, mtOf_append, mtOf_join, mtOf_count, mtOf_rfind, arg1, arg2, biB, metB, recvB, cmpB, binB, List.replicate, lenB_T hf.max, ltB]
      omega
  | c :: r, e, fuel, hd, he, hfu => by
    obtain ⟨fuel, rfl⟩ := Nat.exists_eq_add_one_of_ne_zero (n := fuel) (by omega)
    have hlt := drop_lt hd
    have hc' : t[e] = c := by have := drop_get hd; simpa [hlt] using this
    have hd' : t.drop (e + 1) = r := by
      have : (t.drop e).drop 1 = r := by rw [hd]; rfl
      simpa [List.drop_drop, Nat.add_comm] using this
    by_cases hm : c = 10
    · rw [while_end (st1 := st)]
      · simp [restOf, List.takeWhile_cons, hm]
      · simp [Df.run, exs, ex, ev, evs, evI, Ev.mk1, Ev.mkT, R.bind, R.d, R.of, R.ofS, Bv.d, R.then_, RS.seq, RS.loop, bindT, bindTs, truB, biOf_len, biOf_abs, biOf_max, biOf_int, biOf_list, biOf_all, biOf_tuple, mtOf_append, mtOf_join, mtOf_count, mtOf_rfind, arg1, arg2, biB, metB, recvB, cmpB, binB, List.replicate, lenB_T hf.max, ltB, hlt, idxB_T hf.max, hc', tx_T, tx_nl, eqB_T, hm]
    · rw [while_step (st1 := st) (ρ' := [some (T t), y, some (.int ((e + 1 : Nat) : Int)), z, w, v, x]) (st' := st)]
      · rw [comment_loop hf r (e + 1) fuel hd' hlt (by simp at hfu; omega)]
        have : (restOf (c :: r)).length = (restOf r).length + 1 := by simp [restOf, List.takeWhile_cons, hm]
        rw [this, show e + 1 + (restOf r).length = e + ((restOf r).length + 1) by omega]
      · simp [Df.run, exs, ex, ev, evs, evI, Ev.mk1, Ev.mkT, R.bind, R.d, R.of, R.ofS, Bv.d, R.then_, RS.seq, RS.loop, bindT, bindTs, truB, biOf_len, biOf_abs, biOf_max, biOf_int, biOf_list, biOf_all, biOf_tuple, mtOf_append, mtOf_join, mtOf_count, mtOf_rfind, arg1, arg2, biB, metB, recvB, cmpB, binB, List.replicate, lenB_T hf.max, ltB, hlt, idxB_T hf.max, hc', tx_T, tx_nl, eqB_T, hm]
      · simp [Df.run, exs, ex, ev, evs, evI, Ev.mk1, Ev.mkT, R.bind, R.d, R.of, R.ofS, Bv.d, R.then_, RS.seq, RS.loop, bindT, bindTs, truB, biOf_len, biOf_abs, biOf_max, biOf_int, biOf_list, biOf_all, biOf_tuple, mtOf_append, mtOf_join, mtOf_count, mtOf_rfind, arg1, arg2, biB, metB, recvB, cmpB, binB, List.replicate, addB]
section
variable {n : Nat} {t : List Nat} {m a d : Nat} {x : Option D} {st : Store} {fuel : Nat} {c : Nat} {r : List Nat}
theorem take_more {k : Nat} : t.take (a + k) = t.take a ++ (t.drop a).take k := List.take_add
theorem go_comment (hf : Fits t) (hd : t.drop a = 35 :: r) : goS n t m a d x st (fuel + 1) = goS n t m (a + (restOf (35 :: r)).length) d x st fuel := by
  have hlt := drop_lt hd
  refine while_step (cnd_yes hf hlt) ?_
  refine (x_next (i_no (blank_t hf hd (decide_eq_false (by decide))) |>.trans ((x_next (i_yes (eq_t hf hd tx_hash (by decide)) |>.trans ((x_next ?_).trans x_nil))).trans x_nil))).trans x_nil
  rotate_right
  · simp only [ex]
    refine (comment_loop hf (35 :: r) a turns hd (by omega) ?_).trans ?_
    · have := congrArg List.length hd
      simp at this; unfold Fits at hf; simp; unfold turns; omega
    · have e : t.take (a + (restOf (35 :: r)).length) = t.take a ++ restOf (35 :: r) := by
        rw [take_more, hd]
        congr 1
        exact take_takeWhile
      unfold envS
      rw [e, ln_flat rest_flat, bg_flat rest_flat]
theorem bg_take (h : a ≤ t.length) : bg (t.take a) ≤ a := by
  have := @bg_le (t.take a)
  rw [List.length_take] at this; omega
theorem colI (h : a ≤ t.length) : (a : Int) - (bg (t.take a) : Int) + 1 = (col (t.take a) : Int) := by
  have := bg_take h
  have hl : (t.take a).length = a := by rw [List.length_take]; omega
  unfold col
  rw [hl]; omega
/-- what is there at a place is a token -/
structure AtTok (t : List Nat) (a : Nat) (c : Nat) (r k w : List Nat) : Prop where
  hf : Fits t
  hd : t.drop a = c :: r
  hc : c ∉ [32, 10, 9]
  hc2 : c ≠ 35
  num : numOk (c :: r)
abbrev stS (st : Store) (acc : List D) : Store := st ++ [.lst acc]
theorem s_tok {k w : List Nat} {s : Store} (A : AtTok t a c r k w) (h : tok (c :: r) = .ok (k, w)) : ex (cf (n + 2)) (xcOf excs) (.asg (.name 6) (.call "token_at" [(.var 0), (.var 2), (.var 3), (.bin .Add (.bin .Sub (.var 2) (.var 4)) (.con (.int 1)))])) (envS t m a d x) s
    = .next (envS t m a d (some (tokD k w (ln (t.take a)) (col (t.take a))))) s := by
  have hlt := drop_lt A.hd
  have h1 := token_at (n := n) (st := s) (l := (ln (t.take a) : Int)) (cl := (col (t.take a) : Int)) A.hf A.hd A.num
  have e : tokR (c :: r) (ln (t.take a)) (col (t.take a)) s = .ok (tokD k w (ln (t.take a)) (col (t.take a))) s := by simp [tokR, h, tokD]
  rw [e] at h1
  have hcol := colI (t := t) (a := a) (by omega)
  simp only [ex, ev, evs, Ev.mk1, R.bind, R.d, R.of, Bv.d, envS, binB, intB, addB, Option.map_some, hcol, h1, R.then_, bindT, List.getElem?_cons_succ, List.getElem?_cons_zero]
  rfl
theorem s_tokX {k w mm : List Nat} {s : Store} (A : AtTok t a c r k w) (h : tok (c :: r) = .error mm) : ex (cf (n + 2)) (xcOf excs) (.asg (.name 6) (.call "token_at" [(.var 0), (.var 2), (.var 3), (.bin .Add (.bin .Sub (.var 2) (.var 4)) (.con (.int 1)))])) (envS t m a d x) s
    = .exc "TextError" [("line", .int (ln (t.take a))), ("column", .int (col (t.take a))), ("words", T mm)] (envS t m a d x) s := by
  have hlt := drop_lt A.hd
  have h1 := token_at (n := n) (st := s) (l := (ln (t.take a) : Int)) (cl := (col (t.take a) : Int)) A.hf A.hd A.num
  have e : tokR (c :: r) (ln (t.take a)) (col (t.take a)) s = .exc "TextError" [("line", .int (ln (t.take a))), ("column", .int (col (t.take a))), ("words", T mm)] s := by simp [tokR, h]
  rw [e] at h1
  have hcol := colI (t := t) (a := a) (by omega)
  simp only [ex, ev, evs, Ev.mk1, R.bind, R.d, R.of, Bv.d, envS, binB, intB, addB, Option.map_some, hcol, h1, R.then_, bindT, List.getElem?_cons_succ, List.getElem?_cons_zero]
theorem s_dep {k w : List Nat} {l cl : Int} {s : Store} {d' : Nat} (hw : k = kSign → w ∈ sgns) (h : deep k w d = some d') : ex (cf (n + 2)) (xcOf excs) (.asg (.name 5) (.call "depth_after" [(.var 6), (.var 5)])) (envS t m a d (some (tokD k w l cl))) s
    = .next (envS t m a d' (some (tokD k w l cl))) s := by
  have h1 := depth_after (n := n) (l := l) (c := cl) (d := d) (st := s) hw
  have e : deepR k w l cl d s = .ok (.int (d' : Int)) s := by simp [deepR, h]
  rw [e] at h1
  simp only [ex, ev, evs, Ev.mk1, R.bind, R.d, R.of, Bv.d, envS, h1, R.then_, bindT, List.getElem?_cons_succ, List.getElem?_cons_zero]
  rfl
theorem s_depX {k w : List Nat} {l cl : Int} {s : Store} (hw : k = kSign → w ∈ sgns) (h : deep k w d = none) : ex (cf (n + 2)) (xcOf excs) (.asg (.name 5) (.call "depth_after" [(.var 6), (.var 5)])) (envS t m a d (some (tokD k w l cl))) s
    = .exc "TextError" [("line", .int l), ("column", .int cl), ("words", T mDeep)] (envS t m a d (some (tokD k w l cl))) s := by
  have h1 := depth_after (n := n) (l := l) (c := cl) (d := d) (st := s) hw
  have e : deepR k w l cl d s = .exc "TextError" [("line", .int l), ("column", .int cl), ("words", T mDeep)] s := by simp [deepR, h]
  rw [e] at h1
  simp only [ex, ev, evs, Ev.mk1, R.bind, R.d, R.of, Bv.d, envS, h1, R.then_, bindT, List.getElem?_cons_succ, List.getElem?_cons_zero]
theorem app_ok {acc : List D} {y : D} (h : acc.length < maxLen) : metB (stS st acc) .append (.ref st.length) [y] = some (.val .non, stS st (acc ++ [y])) := by
  simp only [metB, arg1, appendB, stS, get_last, h, if_true, set_last]
theorem recv_ok {acc : List D} : recvB (stS st acc) .append (.ref st.length) = some .append := by
  simp [recvB, lsOf]
theorem s_app {acc : List D} {y : D} (h : acc.length < maxLen) : ex (cf n) (xcOf excs) (.ex (.met "append" (.var 1) [(.var 6)])) (envS t st.length a d (some y)) (stS st acc) = .next (envS t st.length a d (some y)) (stS st (acc ++ [y])) := by
  simp only [ex, ev, evs, Ev.mk1, R.bind, R.d, R.of, R.ofS, Bv.d, envS, mtOf_append, Option.bind_some, recv_ok, app_ok h, R.then_, List.getElem?_cons_succ, List.getElem?_cons_zero]
theorem s_at {k w : List Nat} {l cl : Int} {s : Store} (hw : w.length ≤ maxLen) (hn : 10 ∉ w) (hd : (t.drop a).take w.length = w) : ex (cf n) (xcOf excs) (.asg (.name 2) (.bin .Add (.var 2) (.bi "len" [(.idx (.var 6) (.con (.int 1)))]))) (envS t m a d (some (tokD k w l cl))) s
    = .next (envS t m (a + w.length) d (some (tokD k w l cl))) s := by
  have i1 : idxB s (tokD k w l cl) (.int 1) = some (T w) := idxB_tup (k := 1)
  have e : t.take (a + w.length) = t.take a ++ w := by rw [take_more, hd]
  simp only [ex, ev, evs, Ev.mk1, R.bind, R.d, R.of, Bv.d, envS, i1, biOf_len, Option.bind_some, biB, arg1, lenB_T hw, Option.map_some, binB, addB, R.then_, bindT, List.getElem?_cons_succ, List.getElem?_cons_zero, e, ln_flat hn, bg_flat hn]
  simp
theorem go_token {k w : List Nat} {acc : List D} {d' : Nat} (A : AtTok t a c r k w) (h : tok (c :: r) = .ok (k, w)) (hw : k = kSign → w ∈ sgns) (hdp : deep k w d = some d') (hacc : acc.length < maxLen) (hwl : w.length ≤ maxLen) (hn : 10 ∉ w) (hdr : (t.drop a).take w.length = w) :
    goS (n + 2) t st.length a d x (stS st acc) (fuel + 1) = goS (n + 2) t st.length (a + w.length) d' (some (tokD k w (ln (t.take a)) (col (t.take a)))) (stS st (acc ++ [tokD k w (ln (t.take a)) (col (t.take a))])) fuel := by
  refine while_step (cnd_yes A.hf (drop_lt A.hd)) ?_
  exact (x_next (i_no (blank_t A.hf A.hd (decide_eq_false A.hc)) |>.trans ((x_next (i_no (eq_t A.hf A.hd tx_hash (decide_eq_false fun e => A.hc2 (by simpa using e))) |>.trans
    ((x_next (s_tok A h)).trans ((x_next (s_dep hw hdp)).trans ((x_next (s_app hacc)).trans ((x_next (s_at hwl hn hdr)).trans x_nil)))))).trans x_nil))).trans x_nil
theorem go_bad {k w mm : List Nat} {s : Store} (A : AtTok t a c r k w) (h : tok (c :: r) = .error mm) : ∃ ρ, goS (n + 2) t m a d x s (fuel + 1) = .exc "TextError" [("line", .int (ln (t.take a))), ("column", .int (col (t.take a))), ("words", T mm)] ρ s :=
  ⟨envS t m a d x, while_exc (cnd_yes A.hf (drop_lt A.hd)) (x_exc (i_no (blank_t A.hf A.hd (decide_eq_false A.hc)) |>.trans (x_exc (i_no (eq_t A.hf A.hd tx_hash (decide_eq_false fun e => A.hc2 (by simpa using e))) |>.trans (x_exc (s_tokX A h))))))⟩
theorem go_deep {k w : List Nat} {s : Store} (A : AtTok t a c r k w) (h : tok (c :: r) = .ok (k, w)) (hw : k = kSign → w ∈ sgns) (hdp : deep k w d = none) : ∃ ρ, goS (n + 2) t m a d x s (fuel + 1) = .exc "TextError" [("line", .int (ln (t.take a))), ("column", .int (col (t.take a))), ("words", T mDeep)] ρ s :=
  ⟨_, while_exc (cnd_yes A.hf (drop_lt A.hd)) (x_exc (i_no (blank_t A.hf A.hd (decide_eq_false A.hc)) |>.trans (x_exc (i_no (eq_t A.hf A.hd tx_hash (decide_eq_false fun e => A.hc2 (by simpa using e))) |>.trans ((x_next (s_tok A h)).trans (x_exc (s_depX hw hdp)))))))⟩
theorem scan_body : df_scan.body = [
  .asg (.name 1) (.mt (.lst [])),
  .asg (.name 2) (.con (.int 0)),
  .asg (.name 3) (.con (.int 1)),
  .asg (.name 4) (.con (.int 0)),
  .asg (.name 5) (.con (.int 0)),
  .while_ cndS bodyS,
  .ex (.met "append" (.var 1) [(.tup [(.con (.str "end")), (.con (.str "")), (.var 3), (.bin .Add (.bin .Sub (.var 2) (.var 4)) (.con (.int 1)))])]),
  .ret (.var 1)] := rfl
theorem scan_head {q : List S} : exs (cf n) (xcOf excs) (.asg (.name 1) (.mt (.lst [])) :: .asg (.name 2) (.con (.int 0)) :: .asg (.name 3) (.con (.int 1)) :: .asg (.name 4) (.con (.int 0)) :: .asg (.name 5) (.con (.int 0)) :: q) [some (T t), none, none, none, none, none, none] st
    = exs (cf n) (xcOf excs) q (envS t st.length 0 0 none) (stS st []) := by
  refine (x_next (ρ' := [some (T t), some (.ref st.length), none, none, none, none, none]) (st1 := stS st []) ?_).trans ?_
  · simp [Df.run, exs, ex, ev, evs, evI, Ev.mk1, Ev.mkT, R.bind, R.d, R.of, R.ofS, Bv.d, R.then_, RS.seq, RS.loop, bindT, bindTs, truB, biOf_len, biOf_abs, biOf_max, biOf_int, biOf_list, biOf_all, biOf_tuple, mtOf_append, mtOf_join, mtOf_count, mtOf_rfind, arg1, arg2, biB, metB, recvB, cmpB, binB, List.replicate, live, maxLen]
  refine (x_next (ρ' := [some (T t), some (.ref st.length), some (.int 0), none, none, none, none]) (st1 := stS st []) ?_).trans ?_
  · simp [Df.run, exs, ex, ev, evs, evI, Ev.mk1, Ev.mkT, R.bind, R.d, R.of, R.ofS, Bv.d, R.then_, RS.seq, RS.loop, bindT, bindTs, truB, biOf_len, biOf_abs, biOf_max, biOf_int, biOf_list, biOf_all, biOf_tuple, mtOf_append, mtOf_join, mtOf_count, mtOf_rfind, arg1, arg2, biB, metB, recvB, cmpB, binB, List.replicate]
  refine (x_next (ρ' := [some (T t), some (.ref st.length), some (.int 0), some (.int 1), none, none, none]) (st1 := stS st []) ?_).trans ?_
  · simp [Df.run, exs, ex, ev, evs, evI, Ev.mk1, Ev.mkT, R.bind, R.d, R.of, R.ofS, Bv.d, R.then_, RS.seq, RS.loop, bindT, bindTs, truB, biOf_len, biOf_abs, biOf_max, biOf_int, biOf_list, biOf_all, biOf_tuple, mtOf_append, mtOf_join, mtOf_count, mtOf_rfind, arg1, arg2, biB, metB, recvB, cmpB, binB, List.replicate]
  refine (x_next (ρ' := [some (T t), some (.ref st.length), some (.int 0), some (.int 1), some (.int 0), none, none]) (st1 := stS st []) ?_).trans ?_
  · simp [Df.run, exs, ex, ev, evs, evI, Ev.mk1, Ev.mkT, R.bind, R.d, R.of, R.ofS, Bv.d, R.then_, RS.seq, RS.loop, bindT, bindTs, truB, biOf_len, biOf_abs, biOf_max, biOf_int, biOf_list, biOf_all, biOf_tuple, mtOf_append, mtOf_join, mtOf_count, mtOf_rfind, arg1, arg2, biB, metB, recvB, cmpB, binB, List.replicate]
  refine (x_next (ρ' := [some (T t), some (.ref st.length), some (.int 0), some (.int 1), some (.int 0), some (.int 0), none]) (st1 := stS st []) ?_).trans ?_
  · simp [Df.run, exs, ex, ev, evs, evI, Ev.mk1, Ev.mkT, R.bind, R.d, R.of, R.ofS, Bv.d, R.then_, RS.seq, RS.loop, bindT, bindTs, truB, biOf_len, biOf_abs, biOf_max, biOf_int, biOf_list, biOf_all, biOf_tuple, mtOf_append, mtOf_join, mtOf_count, mtOf_rfind, arg1, arg2, biB, metB, recvB, cmpB, binB, List.replicate]
  rfl
theorem scan_ok {acc : List D} (hf : Fits t) (hp : okRefs st.length acc = true) (hl : acc.length < maxLen) (h : goS n t st.length 0 0 none (stS st []) turns = .next (envS t st.length t.length d x) (stS st acc)) :
    cf (n + 1) "scan" [T t] st = .ok (.lst (acc ++ [tokD kEnd [] (ln t) (col t)])) st := by
  rw [cf_succ tab_scan]
  have hcol := colI (t := t) (a := t.length) (by omega)
  rw [List.take_length] at hcol
  have e0 : D.str (Str.ofString "") = T [] := tx_T ""
  have b : exs (cf n) (xcOf excs) df_scan.body [some (T t), none, none, none, none, none, none] st = .ret (.ref st.length) (stS st (acc ++ [tokD kEnd [] (ln t) (col t)])) := by
    rw [scan_body, scan_head]
    refine (x_next (s := .while_ cndS bodyS) (ex_while.trans h)).trans ?_
    refine (x_next (ρ' := envS t st.length t.length d x) (st1 := stS st (acc ++ [tokD kEnd [] (ln t) (col t)])) ?_).trans (x_ret ?_)
    · have hm : ¬ maxLen < 4 := by unfold maxLen; omega
      simp only [ex, ev, evs, Ev.mk1, R.bind, R.d, R.of, R.ofS, Bv.d, envS, mtOf_append, Option.bind_some, recv_ok, R.then_, List.getElem?_cons_succ, List.getElem?_cons_zero, tx_T, binB, intB, addB, Option.map_some, hcol, List.take_length]
      rw [if_pos (by show 4 ≤ maxLen; unfold maxLen; omega)]
      simp only [R.bind, R.d, R.of, Bv.d]
      rw [show (D.tup [T (tx "end"), T (tx ""), D.int ↑(ln t), D.int ↑(col t)]) = tokD kEnd [] (ln t) (col t) from rfl, app_ok hl]
    · simp only [ex, ev, Ev.mk1, R.bind, R.d, R.of, Bv.d, envS, R.then_, List.getElem?_cons_succ, List.getElem?_cons_zero]
  have hk : okRefs st.length (acc ++ [tokD kEnd [] (ln t) (col t)]) = true := by
    have : ∀ (l : List D) (y : D), okRefs st.length l = true → y.okRef st.length = true → okRefs st.length (l ++ [y]) = true := by
      intro l
      induction l with
      | nil => intro y _ h; simp [okRefs, h]
      | cons z l ih =>
        intro y h1 h2
        simp only [okRefs, Bool.and_eq_true] at h1
        simp only [List.cons_append, okRefs, h1.1, ih y h1.2 h2, Bool.and_self]
    exact this _ _ hp rfl
  refine (run_ret' rfl b).trans ?_
  have ho : oldOk st (stS st (acc ++ [tokD kEnd [] (ln t) (col t)])) = true := by simp [oldOk]
  have hfin : fin (stS st (acc ++ [tokD kEnd [] (ln t) (col t)])) st.length (.ref st.length) = some (.lst (acc ++ [tokD kEnd [] (ln t) (col t)])) := by
    simp only [fin, D.okRef, Nat.lt_irrefl, decide_false, Bool.false_eq_true, if_false, stS, get_last, fins_self hk, Option.map_some]
  rw [show df_scan.keep = false from rfl]
  simp [close, ho, hfin]
theorem scan_exc {acc : List D} {l cl : Int} {mm : List Nat} {ρ : Ip.Env} (h : goS n t st.length 0 0 none (stS st []) turns = .exc "TextError" [("line", .int l), ("column", .int cl), ("words", T mm)] ρ (stS st acc)) :
    cf (n + 1) "scan" [T t] st = .exc "TextError" [("line", .int l), ("column", .int cl), ("words", T mm)] st := by
  rw [cf_succ tab_scan]
  have b : exs (cf n) (xcOf excs) df_scan.body [some (T t), none, none, none, none, none, none] st = .exc "TextError" [("line", .int l), ("column", .int cl), ("words", T mm)] ρ (stS st acc) := by
    rw [scan_body, scan_head]
    exact x_exc (s := .while_ cndS bodyS) (ex_while.trans h)
  refine (run_exc' rfl b).trans ?_
  simp [closeX, oldOk, okRefs, D.okRef, T]
end
end K70

set_option Elab.async false
set_option linter.all false
set_option maxRecDepth 100000
set_option autoImplicit false
/-! Gaps, words: a laid text scanned. -/
namespace K70
open Ip PySem
inductive Skip : List Nat → Prop
  | nil : Skip []
  | blank {c : Nat} {g : List Nat} : c ∈ [32, 10, 9] → Skip g → Skip (c :: g)
  | comm {x g : List Nat} : 10 ∉ x → Skip (10 :: g) → Skip (35 :: (x ++ 10 :: g))
theorem restOf_comm {x r : List Nat} (h : 10 ∉ x) : restOf (35 :: (x ++ 10 :: r)) = 35 :: x := by
  unfold restOf
  rw [List.takeWhile_cons, if_pos (by decide)]
  congr 1
  induction x with
  | nil => rfl
  | cons c x ih =>
    have hc : c ≠ 10 := fun e => h (by simp [e])
    rw [List.cons_append, List.takeWhile_cons, if_pos (by simpa using hc), ih fun e => h (by simp [e])]
theorem restOf_all {x : List Nat} (h : 10 ∉ x) : restOf (35 :: x) = 35 :: x := by
  unfold restOf
  rw [List.takeWhile_cons, if_pos (by decide)]
  congr 1
  induction x with
  | nil => rfl
  | cons c x ih =>
    have hc : c ≠ 10 := fun e => h (by simp [e])
    rw [List.takeWhile_cons, if_pos (by simpa using hc), ih fun e => h (by simp [e])]
section
variable {n : Nat} {t : List Nat} {m a d : Nat} {x : Option D} {st : Store} {s : Store} {c : Nat} {r : List Nat}
theorem drop_add {a k : Nat} {g r : List Nat} (h : t.drop a = g ++ r) (hk : k = g.length) : t.drop (a + k) = r := by
  subst hk
  have : (t.drop a).drop g.length = r := by rw [h]; simp
  simpa [List.drop_drop, Nat.add_comm] using this
theorem go_skip (hf : Fits t) {g : List Nat} (hg : Skip g) : ∀ (a : Nat), t.drop a = g ++ r → ∃ j, j ≤ g.length ∧ ∀ fuel, goS n t m a d x s (fuel + j) = goS n t m (a + g.length) d x s fuel := by
  induction hg with
  | nil => exact fun a h => ⟨0, Nat.le_refl _, fun fuel => rfl⟩
  | @blank c g hc hg ih =>
    intro a h
    obtain ⟨j, hj, k⟩ := ih (a + 1) (drop_add (g := [c]) h rfl)
    refine ⟨j + 1, by simp; omega, fun fuel => ?_⟩
    rw [show fuel + (j + 1) = (fuel + j) + 1 by omega, go_blank hf h hc, k fuel]
    congr 1
    simp; omega
  | @comm y g hy hg ih =>
    intro a h
    have h' : t.drop a = 35 :: (y ++ 10 :: (g ++ r)) := by rw [h]; simp
    have h2 : t.drop (a + (y.length + 1)) = (10 :: g) ++ r := drop_add (g := 35 :: y) (by rw [h']; simp) (by simp)
    obtain ⟨j, hj, k⟩ := ih _ h2
    refine ⟨j + 1, by simp at hj ⊢; omega, fun fuel => ?_⟩
    rw [show fuel + (j + 1) = (fuel + j) + 1 by omega, go_comment hf h', restOf_comm hy, show (35 :: y).length = y.length + 1 from rfl, k fuel]
    congr 1
    simp; omega
/-! ### words -/
def isw : List Nat := small ++ digs ++ [95, 63]
def nums : List (List Nat) := [tx "0", tx "7", tx "1000", tx "0999", tx "12", tx "0000"]
def odd1 : List (List Nat) := [tx "A", tx "_", tx "!", tx "$", tx "&", tx ";", tx "[", tx "@", tx "^", tx "~", tx "'", tx "/", tx "?"]
def odd2 : List (List Nat) := [tx "abcdefghi_klm", tx "?23456789a", tx "1001", tx "00001", tx "99999"]
/-- the words that the law lays -/
inductive Word : List Nat → Prop
  | sgn {w : List Nat} : w ∈ sgns → Word w
  | res {w : List Nat} : w ∈ resv → Word w
  | num {w : List Nat} : w ∈ nums → Word w
  | var {v : List Nat} : v ≠ [] → v.length ≤ 8 → (∀ c ∈ v, c ∈ varCs) → Word (63 :: v)
  | name {c : Nat} {v : List Nat} : c ∈ small → v.length ≤ 11 → (∀ c ∈ v, c ∈ nameCs) → Word (c :: v)
  | odd1 {w : List Nat} : w ∈ odd1 → Word w
  | odd2 {w : List Nat} : w ∈ odd2 → Word w
/-- the kind, as the law tells it -/
def kd (w : List Nat) : List Nat :=
  if w ∈ resv then kReserved else match w with
  | [] => kEnd
  | c :: _ => if c ∈ digs then kNumber else if c = 63 then kVariable else if c ∈ small then kName else kSign
/-- what is wrong with a word, as the law tells it -/
def bad (w : List Nat) : Option (List Nat) :=
  if w ∈ odd1 then some mNone
  else if (kd w = kName ∨ kd w = kReserved) ∧ w.length > 12 then some mWord
  else if kd w = kVariable ∧ w.length > 9 then some mVariable
  else if kd w = kNumber ∧ (w.length > 4 ∨ worth w > 1000) then some mNumber
  else none
/-- behind w something else begins -/
def Stop (w rest : List Nat) : Prop := ∀ c r, rest = c :: r → c ≠ 61 ∧ (∀ c0 w', w = c0 :: w' → c0 ∈ isw → c ∉ isw)
theorem rowOf_word {cs w rest : List Nat} (hw : ∀ c ∈ w, c ∈ cs) (hr : ∀ c r, rest = c :: r → c ∉ cs) : rowOf cs (w ++ rest) = w := by
  unfold rowOf
  induction w with
  | nil =>
    cases rest with
    | nil => rfl
    | cons c r => rw [List.nil_append, List.takeWhile_cons, if_neg (by simpa using hr c r rfl)]
  | cons c w ih => rw [List.cons_append, List.takeWhile_cons, if_pos (by simpa using hw c List.mem_cons_self), ih fun c h => hw c (List.mem_cons_of_mem _ h)]
/-- what is read at a word -/
def tokW (w : List Nat) : Except (List Nat) (List Nat × List Nat) := match bad w with
  | some m => .error m
  | none => .ok (kd w, w)
theorem isw_name : ∀ c ∈ nameCs, c ∈ isw := by decide +kernel
theorem isw_var : ∀ c ∈ varCs, c ∈ isw := by decide +kernel
theorem isw_digs : ∀ c ∈ digs, c ∈ isw := by decide +kernel
theorem isw_small : ∀ c ∈ small, c ∈ isw := by decide +kernel
theorem small_digs : ∀ c ∈ digs, c ∉ small := by decide +kernel
theorem stop_cs {cs w rest : List Nat} {c0 : Nat} {w' : List Nat} (h : Stop w rest) (e : w = c0 :: w') (h0 : c0 ∈ isw) (hcs : ∀ c ∈ cs, c ∈ isw) : ∀ c r, rest = c :: r → c ∉ cs := fun c r hr hc => (h c r hr).2 c0 w' e h0 (hcs c hc)
theorem tok_name {c : Nat} {v rest : List Nat} (hc : c ∈ small) (hv : ∀ c ∈ v, c ∈ nameCs) (h : Stop (c :: v) rest) : tok ((c :: v) ++ rest) = if (c :: v).length > 12 then .error mWord else .ok (if (c :: v) ∈ resv then kReserved else kName, c :: v) := by
  have e : rowOf nameCs (c :: (v ++ rest)) = c :: v := rowOf_word (w := c :: v) (fun z hz => by
    rcases List.mem_cons.mp hz with rfl | hz
    · exact List.mem_append_left _ (List.mem_append_left _ hc)
    · exact hv z hz) (stop_cs h rfl (isw_small c hc) isw_name)
  show tok (c :: (v ++ rest)) = _
  unfold tok
  simp only [hc, if_true, e]
theorem tok_num {c : Nat} {v rest : List Nat} (hc : c ∈ digs) (hv : ∀ c ∈ v, c ∈ digs) (h : Stop (c :: v) rest) : rowOf digs ((c :: v) ++ rest) = c :: v ∧ tok ((c :: v) ++ rest) = if (c :: v).length > 4 ∨ worth (c :: v) > 1000 then .error mNumber else .ok (kNumber, c :: v) := by
  have e : rowOf digs ((c :: v) ++ rest) = c :: v := rowOf_word (w := c :: v) (fun z hz => by
    rcases List.mem_cons.mp hz with rfl | hz
    · exact hc
    · exact hv z hz) (stop_cs h rfl (isw_digs c hc) isw_digs)
  refine ⟨e, ?_⟩
  have e : rowOf digs (c :: (v ++ rest)) = c :: v := e
  show tok (c :: (v ++ rest)) = _
  unfold tok
  simp only [small_digs c hc, if_false, hc, if_true, e]
theorem tok_var {v rest : List Nat} (hv : ∀ c ∈ v, c ∈ varCs) (h : Stop (63 :: v) rest) : tok ((63 :: v) ++ rest) = if v = [] then .error mNone else if v.length > 8 then .error mVariable else .ok (kVariable, 63 :: v) := by
  have e : rowOf varCs (v ++ rest) = v := rowOf_word hv (stop_cs h rfl (by decide) isw_var)
  show tok (63 :: (v ++ rest)) = _
  unfold tok
  have h1 : (63 : Nat) ∉ small := by decide
  have h2 : (63 : Nat) ∉ digs := by decide
  simp only [h1, h2, if_false, if_true, e]
theorem tok_sign {c : Nat} {v rest : List Nat} (h1 : c ∉ small) (h2 : c ∉ digs) (h3 : c ≠ 63) : tok ((c :: v) ++ rest) = if signOf (c :: (v ++ rest)) = [] then .error mNone else .ok (kSign, signOf (c :: (v ++ rest))) := by
  show tok (c :: (v ++ rest)) = _
  unfold tok
  simp only [h1, h2, h3, if_false]
end
end K70

set_option Elab.async false
set_option linter.all false
set_option maxRecDepth 100000
set_option autoImplicit false
/-! What is read at a word. -/
namespace K70
open Ip PySem
theorem sign_one {c : Nat} {rest : List Nat} (h : ∀ c' r, rest = c' :: r → c' ≠ 61) : signOf (c :: rest) = if [c] ∈ sgns then [c] else [] := by
  cases rest with
  | nil =>
    unfold signOf
    simp only [List.take_succ_cons, List.take_nil, List.take_zero]
    split <;> simp_all
  | cons c' r =>
    have hc := h c' r rfl
    have h2 : [c, c'] ∉ sgns := by
      intro hm
      simp only [sgns, List.mem_cons, List.cons.injEq, reduceCtorEq, and_false, and_true, List.not_mem_nil, or_false, false_or] at hm
      omega
    unfold signOf
    simp only [List.take_succ_cons, List.take_zero, h2, if_false]
    try rfl
theorem sign_two {c : Nat} {rest : List Nat} (h : [c, 61] ∈ sgns) : signOf (c :: 61 :: rest) = [c, 61] := by
  unfold signOf
  simp only [List.take_succ_cons, List.take_zero, h, if_true]
theorem f_sgns : ∀ w ∈ sgns, bad w = none ∧ kd w = kSign := by decide +kernel
theorem f_resv : ∀ w ∈ resv, bad w = none ∧ kd w = kReserved ∧ (∀ c ∈ w, c ∈ small) ∧ w ≠ [] ∧ w.length ≤ 12 := by decide +kernel
theorem f_nums : ∀ w ∈ nums, bad w = none ∧ kd w = kNumber ∧ (∀ c ∈ w, c ∈ digs) ∧ w ≠ [] ∧ w.length ≤ 4 ∧ worth w ≤ 1000 ∧ (intOf (T w)).isSome = true := by decide +kernel
theorem f_odd1 : ∀ w ∈ odd1, bad w = some mNone ∧ w.length = 1 ∧ (∀ c ∈ w, c ∉ small ∧ c ∉ digs ∧ [c] ∉ sgns ∧ c ∉ [32, 10, 9] ∧ c ≠ 35) := by decide +kernel
structure Read (w rest : List Nat) : Prop where
  tk : tok (w ++ rest) = tokW w
  num : numOk (w ++ rest)
  hd : ∃ c v, w = c :: v ∧ c ∉ [32, 10, 9] ∧ c ≠ 35
  nl : 10 ∉ w
  sg : bad w = none → kd w = kSign → w ∈ sgns
  len : w.length ≤ 13
theorem numOk_not {c : Nat} {r : List Nat} (h : c ∉ digs) : numOk (c :: r) := fun c' r' e hc => by
  cases e
  exact absurd hc h
theorem small_x : ∀ c ∈ small, c ∉ digs ∧ c ∉ [32, 10, 9] ∧ c ≠ 35 ∧ c ≠ 63 ∧ c ≠ 10 := by decide +kernel
theorem digs_x : ∀ c ∈ digs, c ∉ [32, 10, 9] ∧ c ≠ 35 ∧ c ≠ 10 := by decide +kernel
theorem nmx : ∀ c ∈ nameCs, c ≠ 10 := by decide +kernel
theorem var_x : ∀ c ∈ varCs, c ≠ 10 := by decide +kernel
theorem odd1_head : ∀ w ∈ odd1, ∀ c ∈ w.head?, c ∉ small := by decide +kernel
theorem resv_head : ∀ w ∈ resv, ∀ c ∈ w.head?, c ≠ 63 := by decide +kernel
theorem kinds : kName ≠ kVariable ∧ kName ≠ kNumber ∧ kReserved ≠ kVariable ∧ kReserved ≠ kNumber ∧ kVariable ≠ kName ∧ kVariable ≠ kReserved ∧ kVariable ≠ kNumber ∧ kName ≠ kSign ∧ kReserved ≠ kSign ∧ kVariable ≠ kSign := by decide +kernel
theorem sgn_cases : ∀ w ∈ sgns, (∃ c, w = [c] ∧ c ∉ small ∧ c ∉ digs ∧ c ≠ 63 ∧ c ∉ [32, 10, 9] ∧ c ≠ 35 ∧ c ≠ 10) ∨ ∃ c, w = [c, 61] ∧ c ∉ small ∧ c ∉ digs ∧ c ≠ 63 ∧ c ∉ [32, 10, 9] ∧ c ≠ 35 ∧ c ≠ 10 := by
  intro w hw
  simp only [sgns, List.mem_cons, List.not_mem_nil, or_false] at hw
  rcases hw with rfl | rfl | rfl | rfl | rfl | rfl | rfl | rfl | rfl | rfl | rfl | rfl | rfl | rfl | rfl <;> first | exact .inl ⟨_, rfl, by decide⟩ | exact .inr ⟨_, rfl, by decide⟩
theorem read_word {w rest : List Nat} (hw : Word w) (hs : Stop w rest) : Read w rest := by
  cases hw with
  | sgn h =>
    obtain ⟨b, k⟩ := f_sgns w h
    rcases sgn_cases w h with ⟨c, rfl, c1, c2, c3, c4, c5, c6⟩ | ⟨c, rfl, c1, c2, c3, c4, c5, c6⟩
    · refine ⟨?_, numOk_not c2, ⟨c, [], rfl, c4, c5⟩, by simpa using fun e => c6 e.symm, fun _ _ => h, by simp⟩
      rw [tok_sign c1 c2 c3, List.nil_append, sign_one fun c' r e => (hs c' r e).1, if_pos h]
      simp [tokW, b, k]
    · refine ⟨?_, numOk_not c2, ⟨c, [61], rfl, c4, c5⟩, by simpa using fun e => c6 e.symm, fun _ _ => h, by simp⟩
      rw [tok_sign c1 c2 c3, List.singleton_append, sign_two h]
      simp [tokW, b, k]
  | res h =>
    obtain ⟨b, k, a, ne, l⟩ := f_resv w h
    cases w with
    | nil => exact absurd rfl ne
    | cons c v =>
      have hc := a c List.mem_cons_self
      obtain ⟨x1, x2, x3, x4, x5⟩ := small_x c hc
      refine ⟨?_, numOk_not x1, ⟨c, v, rfl, x2, x3⟩, fun e => (small_x _ (a _ e)).2.2.2.2 rfl, fun _ e => absurd (k.symm.trans e) kinds.2.2.2.2.2.2.2.2.1, by omega⟩
      rw [tok_name hc (fun z hz => List.mem_append_left _ (List.mem_append_left _ (a z (List.mem_cons_of_mem _ hz)))) hs, if_neg (by omega), if_pos h]
      simp [tokW, b, k]
  | num h =>
    obtain ⟨b, k, a, ne, l, wo, so⟩ := f_nums w h
    cases w with
    | nil => exact absurd rfl ne
    | cons c v =>
      have hc := a c List.mem_cons_self
      obtain ⟨x1, x2, x3⟩ := digs_x c hc
      obtain ⟨e1, e2⟩ := tok_num hc (fun z hz => a z (List.mem_cons_of_mem _ hz)) hs
      refine ⟨?_, fun c' r' e hc' hl => ?_, ⟨c, v, rfl, x1, x2⟩, fun e => (digs_x _ (a _ e)).2.2 rfl, fun _ e => absurd (k.symm.trans e) (by decide +kernel), by omega⟩
      · rw [e2, if_neg (by omega)]
        simp [tokW, b, k]
      · rw [e1]; exact so
  | @var v h1 h2 h3 =>
    have hn1 : (63 :: v) ∉ odd1 := fun h => by
      obtain ⟨_, l, _⟩ := f_odd1 _ h
      simp at l
      exact h1 l
    have hn2 : (63 :: v) ∉ resv := fun h => resv_head _ h 63 (by simp) rfl
    have k : kd (63 :: v) = kVariable := by
      unfold kd
      rw [if_neg hn2]
      simp only
      rw [if_neg (by decide)]
      simp
    have b : bad (63 :: v) = none := by
      unfold bad
      rw [if_neg hn1, k, if_neg (fun h => by rcases h.1 with e | e; exact kinds.2.2.2.2.1 e; exact kinds.2.2.2.2.2.1 e), if_neg (fun h => by have := h.2; simp at this; omega), if_neg (fun h => kinds.2.2.2.2.2.2.1 h.1)]
    refine ⟨?_, numOk_not (by decide), ⟨63, v, rfl, by decide, by decide⟩, fun e => ?_, fun _ e => absurd (k.symm.trans e) kinds.2.2.2.2.2.2.2.2.2, by simp; omega⟩
    · rw [tok_var h3 hs, if_neg h1, if_neg (by omega)]
      simp [tokW, b, k]
    · rcases List.mem_cons.mp e with e | e
      · cases e
      · exact var_x _ (h3 _ e) rfl
  | @name c v h1 h2 h3 =>
    obtain ⟨x1, x2, x3, x4, x5⟩ := small_x c h1
    have hn1 : (c :: v) ∉ odd1 := fun h => odd1_head _ h c (by simp) h1
    have k : kd (c :: v) = if (c :: v) ∈ resv then kReserved else kName := by
      unfold kd
      split
      · rfl
      · simp only
        rw [if_neg x1, if_neg x4, if_pos h1]
    have b : bad (c :: v) = none := by
      unfold bad
      have hl : ¬ (c :: v).length > 12 := by simp; omega
      rw [if_neg hn1, if_neg (fun h => hl h.2), if_neg (fun h => ?_), if_neg (fun h => ?_)]
      · have := h.1; rw [k] at this; split at this
        · exact kinds.2.2.2.1 this
        · exact kinds.2.1 this
      · have := h.1; rw [k] at this; split at this
        · exact kinds.2.2.1 this
        · exact kinds.1 this
    refine ⟨?_, numOk_not x1, ⟨c, v, rfl, x2, x3⟩, fun e => ?_, fun _ e => ?_, by simp; omega⟩
    · rw [tok_name h1 h3 hs, if_neg (by simp; omega)]
      simp [tokW, b, k]
    · rcases List.mem_cons.mp e with e | e
      · exact x5 e.symm
      · exact nmx _ (h3 _ e) rfl
    · rw [k] at e
      split at e
      · exact absurd e kinds.2.2.2.2.2.2.2.2.1
      · exact absurd e kinds.2.2.2.2.2.2.2.1
  | odd1 h =>
    obtain ⟨b, l, a⟩ := f_odd1 w h
    obtain ⟨c, rfl⟩ : ∃ c, w = [c] := List.length_eq_one_iff.mp l
    obtain ⟨a1, a2, a3, a4, a5⟩ := a c (by simp)
    refine ⟨?_, numOk_not a2, ⟨c, [], rfl, a4, a5⟩, fun e => ?_, fun e => ?_, by simp⟩
    · by_cases h63 : c = 63
      · subst h63
        rw [tok_var (by simp) hs, if_pos rfl]
        simp [tokW, b]
      · rw [tok_sign a1 a2 h63, List.nil_append, sign_one fun c' r e => (hs c' r e).1, if_neg a3, if_pos rfl]
        simp [tokW, b]
    · simp at e
      exact a4 (by simp [← e])
    · rw [b] at e; cases e
  | odd2 h =>
    simp only [odd2, List.mem_cons, List.not_mem_nil, or_false] at h
    have go_num : ∀ w : List Nat, bad w = some mNumber → (∀ c ∈ w, c ∈ digs) → w ≠ [] → w.length ≤ 5 → (w.length > 4 ∨ worth w > 1000) → (w.length ≤ 4 → (intOf (T w)).isSome = true) → Stop w rest → Read w rest := fun w b a ne l wo so hs => by
      cases w with
      | nil => exact absurd rfl ne
      | cons c v =>
        have hc := a c List.mem_cons_self
        obtain ⟨x1, x2, x3⟩ := digs_x c hc
        obtain ⟨e1, e2⟩ := tok_num hc (fun z hz => a z (List.mem_cons_of_mem _ hz)) hs
        refine ⟨?_, fun c' r' e hc' hl => ?_, ⟨c, v, rfl, x1, x2⟩, fun e => (digs_x _ (a _ e)).2.2 rfl, fun e => (by rw [b] at e; cases e), by omega⟩
        · rw [e2, if_pos wo]
          simp [tokW, b]
        · rw [e1] at hl ⊢
          exact so hl
    rcases h with rfl | rfl | rfl | rfl | rfl
    · have e : tx "abcdefghi_klm" = 97 :: [98, 99, 100, 101, 102, 103, 104, 105, 95, 107, 108, 109] := by decide +kernel
      rw [e] at hs ⊢
      have b : bad (97 :: [98, 99, 100, 101, 102, 103, 104, 105, 95, 107, 108, 109]) = some mWord := by decide +kernel
      refine ⟨?_, numOk_not (by decide), ⟨_, _, rfl, by decide, by decide⟩, by decide, fun e => (by rw [b] at e; cases e), by decide⟩
      rw [tok_name (by decide) (by decide) hs, if_pos (by decide)]
      simp [tokW, b]
    · have e : tx "?23456789a" = 63 :: [50, 51, 52, 53, 54, 55, 56, 57, 97] := by decide +kernel
      rw [e] at hs ⊢
      have b : bad (63 :: [50, 51, 52, 53, 54, 55, 56, 57, 97]) = some mVariable := by decide +kernel
      refine ⟨?_, numOk_not (by decide), ⟨_, _, rfl, by decide, by decide⟩, by decide, fun e => (by rw [b] at e; cases e), by decide⟩
      rw [tok_var (by decide) hs, if_neg (by decide), if_pos (by decide)]
      simp [tokW, b]
    · exact go_num _ (by decide +kernel) (by decide +kernel) (by decide +kernel) (by decide +kernel) (by decide +kernel) (by decide +kernel) hs
    · exact go_num _ (by decide +kernel) (by decide +kernel) (by decide +kernel) (by decide +kernel) (by decide +kernel) (by decide +kernel) hs
    · exact go_num _ (by decide +kernel) (by decide +kernel) (by decide +kernel) (by decide +kernel) (by decide +kernel) (by decide +kernel) hs
end K70

set_option Elab.async false
set_option linter.all false
set_option maxRecDepth 100000
set_option autoImplicit false
/-! A laid text scanned. -/
namespace K70
open Ip PySem
def lay : List (List Nat × List Nat) → List Nat
  | [] => []
  | (w, g) :: l => w ++ (g ++ lay l)
def Laid : List (List Nat × List Nat) → List Nat → Prop
  | [], _ => True
  | (w, g) :: l, tl => Word w ∧ Skip g ∧ Stop w (g ++ (lay l ++ tl)) ∧ Laid l tl
structure Err where
  l : Nat
  c : Nat
  m : List Nat
/-- what scan is to tell: p what stands ahead -/
def exp (p : List Nat) (d : Nat) (acc : List D) : List (List Nat × List Nat) → Except Err (List D)
  | [] => .ok acc
  | (w, g) :: l => match bad w with
    | some m => .error ⟨ln p, col p, m⟩
    | none => match deep (kd w) w d with
      | none => .error ⟨ln p, col p, mDeep⟩
      | some d' => exp (p ++ w ++ g) d' (acc ++ [tokD (kd w) w (ln p) (col p)]) l
theorem okRefs_append {k : Nat} : ∀ {xs ys : List D}, okRefs k xs = true → okRefs k ys = true → okRefs k (xs ++ ys) = true
  | [], _, _, h => h
  | x :: xs, ys, h1, h2 => by
    simp only [okRefs, Bool.and_eq_true] at h1
    simp only [List.cons_append, okRefs, h1.1, okRefs_append h1.2 h2, Bool.and_self]
theorem exp_ok {k : Nat} : ∀ {l : List (List Nat × List Nat)} {p : List Nat} {d : Nat} {acc acc' : List D}, exp p d acc l = .ok acc' → okRefs k acc = true → okRefs k acc' = true ∧ acc'.length = acc.length + l.length
  | [], p, d, acc, acc', h, ho => by
    simp only [exp, Except.ok.injEq] at h
    subst h
    exact ⟨ho, rfl⟩
  | (w, g) :: l, p, d, acc, acc', h, ho => by
    simp only [exp] at h
    split at h
    · cases h
    · split at h
      · cases h
      · obtain ⟨h1, h2⟩ := exp_ok h (okRefs_append ho rfl)
        exact ⟨h1, by rw [h2]; simp; omega⟩
def tailOk (tl : List Nat) : Prop := tl = [] ∨ ∃ y, tl = 35 :: y ∧ 10 ∉ y
section
variable {n : Nat} {t : List Nat} {st : Store}
def Comes (n : Nat) (t : List Nat) (st : Store) (a d : Nat) (x : Option D) (acc : List D) (fuel : Nat) (e : Except Err (List D)) : Prop :=
  match e with
  | .ok acc' => ∃ d' x', goS (n + 2) t st.length a d x (stS st acc) fuel = .next (envS t st.length t.length d' x') (stS st acc')
  | .error z => ∃ ρ acc', goS (n + 2) t st.length a d x (stS st acc) fuel = .exc "TextError" [("line", .int z.l), ("column", .int z.c), ("words", T z.m)] ρ (stS st acc')
theorem go_laid (hf : Fits t) {tl : List Nat} (ht : tailOk tl) : ∀ (l : List (List Nat × List Nat)) (a d : Nat) (x : Option D) (acc : List D) (fuel : Nat), Laid l tl → t.drop a = lay l ++ tl → a ≤ t.length → acc.length + l.length < maxLen → (t.length - a) + 1 ≤ fuel →
    Comes n t st a d x acc fuel (exp (t.take a) d acc l)
  | [], a, d, x, acc, fuel, hl, hd, ha, hm, hfu => by
    obtain ⟨fuel, rfl⟩ := Nat.exists_eq_add_one_of_ne_zero (n := fuel) (by omega)
    have hd : t.drop a = tl := hd
    show ∃ d' x', _ = _
    rcases ht with rfl | ⟨y, rfl, hy⟩
    · have hl : t.length ≤ a := by simpa using hd
      have e : a = t.length := by omega
      subst e
      exact ⟨d, x, go_end hf (Nat.le_refl _)⟩
    · have hlt := drop_lt hd
      obtain ⟨fuel, rfl⟩ := Nat.exists_eq_add_one_of_ne_zero (n := fuel) (by omega)
      refine ⟨d, x, ?_⟩
      have e : a + (restOf (35 :: y)).length = t.length := by
        rw [restOf_all hy, ← hd, List.length_drop]; omega
      rw [go_comment hf hd, e]
      exact go_end hf (Nat.le_refl _)
  | (w, g) :: l, a, d, x, acc, fuel, hl, hd, ha, hm, hfu => by
    obtain ⟨fuel, rfl⟩ := Nat.exists_eq_add_one_of_ne_zero (n := fuel) (by omega)
    obtain ⟨hw, hg, hs, hl⟩ := hl
    have hd' : t.drop a = w ++ (g ++ (lay l ++ tl)) := by rw [hd]; simp [lay]
    have R := read_word hw hs
    obtain ⟨c, v, rfl, hc1, hc2⟩ := R.hd
    have A : AtTok t a c (v ++ (g ++ (lay l ++ tl))) (kd (c :: v)) (c :: v) := ⟨hf, hd', hc1, hc2, R.num⟩
    have tk : tok (c :: (v ++ (g ++ (lay l ++ tl)))) = tokW (c :: v) := R.tk
    cases hb : bad (c :: v) with
    | some mm =>
      have : exp (t.take a) d acc ((c :: v, g) :: l) = .error ⟨ln (t.take a), col (t.take a), mm⟩ := by simp [exp, hb]
      rw [this]
      obtain ⟨ρ, e⟩ := go_bad (n := n) (m := st.length) (d := d) (x := x) (s := stS st acc) (fuel := fuel) A (mm := mm) (by rw [tk]; simp [tokW, hb])
      exact ⟨ρ, acc, e⟩
    | none =>
      have tk' : tok (c :: (v ++ (g ++ (lay l ++ tl)))) = .ok (kd (c :: v), c :: v) := by rw [tk]; simp [tokW, hb]
      cases hdp : deep (kd (c :: v)) (c :: v) d with
      | none =>
        have : exp (t.take a) d acc ((c :: v, g) :: l) = .error ⟨ln (t.take a), col (t.take a), mDeep⟩ := by simp [exp, hb, hdp]
        rw [this]
        obtain ⟨ρ, e⟩ := go_deep (n := n) (m := st.length) (d := d) (x := x) (s := stS st acc) (fuel := fuel) A tk' (R.sg hb) hdp
        exact ⟨ρ, acc, e⟩
      | some d' =>
        have hdr : (t.drop a).take (c :: v).length = c :: v := by rw [hd']; simp
        have hlen := R.len
        have st1 := go_token (n := n) (x := x) (st := st) (fuel := fuel) (acc := acc) A tk' (R.sg hb) hdp (by simp at hm; omega) (by unfold maxLen; omega) R.nl hdr
        have hd2 : t.drop (a + (c :: v).length) = g ++ (lay l ++ tl) := drop_add hd' rfl
        obtain ⟨j, hj, k⟩ := go_skip (n := n + 2) (m := st.length) (d := d') (x := some (tokD (kd (c :: v)) (c :: v) (ln (t.take a)) (col (t.take a)))) (s := stS st (acc ++ [tokD (kd (c :: v)) (c :: v) (ln (t.take a)) (col (t.take a))])) hf hg _ hd2
        have hd3 : t.drop (a + (c :: v).length + g.length) = lay l ++ tl := drop_add hd2 rfl
        have hlen2 : a + (c :: v).length + g.length ≤ t.length := by
          have h1 := congrArg List.length hd'
          simp only [List.length_drop, List.length_append] at h1
          omega
        have tk3 : t.take (a + (c :: v).length + g.length) = t.take a ++ (c :: v) ++ g := by
          rw [take_more, take_more, hd2, hdr]
          congr 1
          simp
        have hpos : 1 ≤ (c :: v).length := by simp
        obtain ⟨f2, rfl⟩ : ∃ f2, fuel = f2 + j := ⟨fuel - j, by omega⟩
        have ih := go_laid hf ht l (a + (c :: v).length + g.length) d' (some (tokD (kd (c :: v)) (c :: v) (ln (t.take a)) (col (t.take a)))) (acc ++ [tokD (kd (c :: v)) (c :: v) (ln (t.take a)) (col (t.take a))]) f2 hl hd3 hlen2 (by simp at hm ⊢; omega) (by omega)
        rw [tk3] at ih
        have ex : exp (t.take a) d acc ((c :: v, g) :: l) = exp (t.take a ++ (c :: v) ++ g) d' (acc ++ [tokD (kd (c :: v)) (c :: v) (ln (t.take a)) (col (t.take a))]) l := by simp [exp, hb, hdp]
        rw [ex]
        revert ih
        generalize exp (t.take a ++ (c :: v) ++ g) d' (acc ++ [tokD (kd (c :: v)) (c :: v) (ln (t.take a)) (col (t.take a))]) l = z
        intro ih
        cases z with
        | ok acc' =>
          obtain ⟨d2, x2, e⟩ := ih
          exact ⟨d2, x2, by rw [st1, k f2]; exact e⟩
        | error z =>
          obtain ⟨ρ, acc', e⟩ := ih
          exact ⟨ρ, acc', by rw [st1, k f2]; exact e⟩
/-- scan of a laid text -/
def scanR (t : List Nat) (st : Store) : Except Err (List D) → R D
  | .ok acc => .ok (.lst (acc ++ [tokD kEnd [] (ln t) (col t)])) st
  | .error z => .exc "TextError" [("line", .int z.l), ("column", .int z.c), ("words", T z.m)] st
theorem scan_laid {g0 tl : List Nat} {l : List (List Nat × List Nat)} (hg : Skip g0) (ht : tailOk tl) (hl : Laid l tl) (e : t = g0 ++ (lay l ++ tl)) (hf : Fits t) (hn : l.length ≤ 1000) : cf (n + 3) "scan" [T t] st = scanR t st (exp g0 0 [] l) := by
  obtain ⟨j, hj, k⟩ := go_skip (n := n + 2) (m := st.length) (d := 0) (x := none) (s := stS st []) hf hg 0 (r := lay l ++ tl) (by rw [e]; rfl)
  have h0 : t.take g0.length = g0 := by rw [e]; simp
  have hlen : g0.length ≤ t.length := by rw [e]; simp
  unfold Fits at hf
  have := go_laid (n := n) (st := st) hf ht l (0 + g0.length) 0 none [] (turns - j) hl (drop_add (a := 0) (g := g0) (by rw [e]; rfl) rfl) (by omega) (by simp; unfold maxLen; omega) (by unfold turns; omega)
  rw [Nat.zero_add, h0] at this
  have kk := k (turns - j)
  rw [show turns - j + j = turns by unfold turns; omega, Nat.zero_add] at kk
  revert this
  cases hz : exp g0 0 [] l with
  | ok acc =>
    rintro ⟨d', x', e1⟩
    obtain ⟨h1, h2⟩ := exp_ok (k := st.length) hz rfl
    exact scan_ok hf h1 (by rw [h2]; simp; unfold maxLen; omega) (kk.trans e1)
  | error z =>
    rintro ⟨ρ, acc', e1⟩
    exact scan_exc (kk.trans e1)
end
end K70

set_option Elab.async false
set_option linter.all false
set_option maxRecDepth 100000
set_option autoImplicit false
/-! The law's stream. -/
namespace K70
open Ip PySem
theorem tab_stream : tab "_law_stream" = some df__law_stream := rfl
theorem tab_next : tab "_law_next" = some df__law_next := rfl
def sO (ns : List Int) (c : Int) (k : Nat) : O := .lst [.lst (ns.map .int), .int c, .int (k : Int)]
theorem stream_ok {n : Nat} {ns : List Int} : cf (n + 1) "_law_stream" [.scr ns] [] = .ok (.ref 0) [sO ns 0 0] := by
  rw [cf_succ tab_stream]
  have h : sqOf [] (.scr ns) = some (ns.map D.int) := rfl
  refine (run_ret' (st1 := [sO ns 0 0]) (d := .ref 0) rfl (x_ret ?_)).trans rfl
  simp [Df.run, exs, ex, ev, evs, evI, Ev.mk1, Ev.mkT, R.bind, R.d, R.of, R.ofS, Bv.d, R.then_, RS.seq, RS.loop, bindT, bindTs, truB, biOf_len, biOf_abs, biOf_max, biOf_int, biOf_list, biOf_all, biOf_tuple, mtOf_append, mtOf_join, mtOf_count, mtOf_rfind, arg1, arg2, biB, metB, recvB, cmpB, binB, List.replicate, h, live, maxLen, sO, List.map]
section
variable {n : Nat} {ns : List Int} {c : Int} {k : Nat} {rest : Store} {m : Nat} {Φ : Fn} {xc : XC}
abbrev sS (ns : List Int) (c : Int) (k : Nat) (rest : Store) : Store := sO ns c k :: rest
theorem i0 : idxB (sS ns c k rest) (.ref 0) (.int 0) = some (.lst (ns.map .int)) := rfl
theorem i1 : idxB (sS ns c k rest) (.ref 0) (.int 1) = some (.int c) := rfl
theorem i2 : idxB (sS ns c k rest) (.ref 0) (.int 2) = some (.int (k : Int)) := rfl
theorem p1 {x : Int} : putB (sS ns c k rest) (.ref 0) (.int 1) (.int x) = some (sS ns x k rest) := rfl
theorem p2 {x : Nat} : putB (sS ns c k rest) (.ref 0) (.int 2) (.int (x : Int)) = some (sS ns c x rest) := rfl
theorem len0 {st : Store} {xs : List D} : lenB st (.lst xs) = some (xs.length : Int) := rfl
theorem qa {Φ : Fn} {xc : XC} {s : Store} {a b : Option D} {z k : Int} : ex Φ xc (.asg (.name 3) (.bin .Mod (.bi "int" [(.bin .Add (.bin .Add (.bin .Mult (.var 3) (.con (.int 48271))) (.bin .Mult (.var 2) (.con (.int 69621)))) (.con (.int 11)))]) (.con (.int 2147483647)))) [a, b, some (.int k), some (.int z), none] s
   = .next [a, b, some (.int k), some (.int ((z * 48271 + (k : Int) * 69621 + 11) % 2147483647)), none] s := by
  have m1 := @mulI s z 48271 (by omega) (by omega)
  have m2 := @mulI s k 69621 (by omega) (by omega)
  have m3 := @modI s (z * 48271 + k * 69621 + 11) 2147483647 (by omega)
  simp only [ex, ev, evs, Ev.mk1, R.bind, R.d, R.of, Bv.d, m1, m2, addI, m3, biOf_int, Option.bind_some, biB, arg1, intOf, Option.map_some, R.then_, bindT, List.getElem?_cons_succ, List.getElem?_cons_zero, List.set_cons_succ, List.set_cons_zero]
theorem qb {Φ : Fn} {xc : XC} {s : Store} {a b kk : Option D} {z : Int} : ex Φ xc (.asg (.name 3) (.bin .Add (.bin .Mult (.bin .Mod (.bi "int" [(.bin .Add (.bin .Mult (.var 3) (.con (.int 16807))) (.con (.int 13)))]) (.con (.int 2147483647))) (.con (.int 65537))) (.var 3))) [a, b, kk, some (.int z), none] s
   = .next [a, b, kk, some (.int ((z * 16807 + 13) % 2147483647 * 65537 + z)), none] s := by
  have m1 := @mulI s z 16807 (by omega) (by omega)
  have m2 := @mulI s ((z * 16807 + 13) % 2147483647) 65537 (by omega) (by omega)
  have m3 := @modI s (z * 16807 + 13) 2147483647 (by omega)
  simp only [ex, ev, evs, Ev.mk1, R.bind, R.d, R.of, Bv.d, m1, m2, addI, m3, biOf_int, Option.bind_some, biB, arg1, intOf, Option.map_some, R.then_, bindT, List.getElem?_cons_succ, List.getElem?_cons_zero, List.set_cons_succ, List.set_cons_zero]
theorem next1 : ∃ c1 k1 x y, exs Φ xc [.ifs (.cmp .Eq (.idx (.var 0) (.con (.int 1))) (.con (.int 0))) [
    .asg (.name 2) (.idx (.var 0) (.con (.int 2))),
    .asg (.name 3) (.bin .Add (.con (.int 7)) (.var 2)),
    .ifs (.cmp .Lt (.var 2) (.bi "len" [(.idx (.var 0) (.con (.int 0)))])) [
      .asg (.name 3) (.bi "abs" [(.idx (.idx (.var 0) (.con (.int 0))) (.var 2))])] [],
    .ifs (.cmp .Lt (.var 3) (.bin .Pow (.con (.int 10)) (.con (.int 18)))) [
      .asg (.name 3) (.bin .Mod (.bi "int" [(.bin .Add (.bin .Add (.bin .Mult (.var 3) (.con (.int 48271))) (.bin .Mult (.var 2) (.con (.int 69621)))) (.con (.int 11)))]) (.con (.int 2147483647))),
      .asg (.name 3) (.bin .Add (.bin .Mult (.bin .Mod (.bi "int" [(.bin .Add (.bin .Mult (.var 3) (.con (.int 16807))) (.con (.int 13)))]) (.con (.int 2147483647))) (.con (.int 65537))) (.var 3))] [],
    .put (.var 0) (.con (.int 1)) (.var 3),
    .put (.var 0) (.con (.int 2)) (.bin .Add (.var 2) (.con (.int 1)))] []] [some (.ref 0), some (.int (m : Int)), none, none, none] (sS ns c k rest)
    = .next [some (.ref 0), some (.int (m : Int)), x, y, none] (sS ns c1 k1 rest) := by
  by_cases hc : c = 0
  · -- the cell
    obtain ⟨z, hz⟩ : ∃ z : Int, ex Φ xc (.ifs (.cmp .Lt (.var 2) (.bi "len" [(.idx (.var 0) (.con (.int 0)))])) [
      .asg (.name 3) (.bi "abs" [(.idx (.idx (.var 0) (.con (.int 0))) (.var 2))])] []) [some (.ref 0), some (.int (m : Int)), some (.int (k : Int)), some (.int (7 + (k : Int))), none] (sS ns c k rest)
        = .next [some (.ref 0), some (.int (m : Int)), some (.int (k : Int)), some (.int z), none] (sS ns c k rest) := by
      by_cases hk : k < ns.length
      · refine ⟨if ns[k] < 0 then -ns[k] else ns[k], (i_yes (st1 := sS ns c k rest) ?_).trans ?_⟩
        · simp [Df.run, exs, ex, ev, evs, evI, Ev.mk1, Ev.mkT, R.bind, R.d, R.of, R.ofS, Bv.d, R.then_, RS.seq, RS.loop, bindT, bindTs, truB, biOf_len, biOf_abs, biOf_max, biOf_int, biOf_list, biOf_all, biOf_tuple, mtOf_append, mtOf_join, mtOf_count, mtOf_rfind, arg1, arg2, biB, metB, recvB, cmpB, binB, List.replicate, i0, len0, ltB, hk]
        · have hi : idxB (sS ns c k rest) (.lst (ns.map .int)) (.int (k : Int)) = some (.int ns[k]) := by
            rw [idxB_lst]; simp [hk]
          simp [Df.run, exs, ex, ev, evs, evI, Ev.mk1, Ev.mkT, R.bind, R.d, R.of, R.ofS, Bv.d, R.then_, RS.seq, RS.loop, bindT, bindTs, truB, biOf_len, biOf_abs, biOf_max, biOf_int, biOf_list, biOf_all, biOf_tuple, mtOf_append, mtOf_join, mtOf_count, mtOf_rfind, arg1, arg2, biB, metB, recvB, cmpB, binB, List.replicate, i0, hi, asInt]
      · refine ⟨7 + (k : Int), (i_no (st1 := sS ns c k rest) ?_).trans x_nil⟩
        simp [Df.run, exs, ex, ev, evs, evI, Ev.mk1, Ev.mkT, R.bind, R.d, R.of, R.ofS, Bv.d, R.then_, RS.seq, RS.loop, bindT, bindTs, truB, biOf_len, biOf_abs, biOf_max, biOf_int, biOf_list, biOf_all, biOf_tuple, mtOf_append, mtOf_join, mtOf_count, mtOf_rfind, arg1, arg2, biB, metB, recvB, cmpB, binB, List.replicate, i0, len0, ltB, hk]
    obtain ⟨z2, hz2⟩ : ∃ z2 : Int, ex Φ xc (.ifs (.cmp .Lt (.var 3) (.bin .Pow (.con (.int 10)) (.con (.int 18)))) [
      .asg (.name 3) (.bin .Mod (.bi "int" [(.bin .Add (.bin .Add (.bin .Mult (.var 3) (.con (.int 48271))) (.bin .Mult (.var 2) (.con (.int 69621)))) (.con (.int 11)))]) (.con (.int 2147483647))),
      .asg (.name 3) (.bin .Add (.bin .Mult (.bin .Mod (.bi "int" [(.bin .Add (.bin .Mult (.var 3) (.con (.int 16807))) (.con (.int 13)))]) (.con (.int 2147483647))) (.con (.int 65537))) (.var 3))] []) [some (.ref 0), some (.int (m : Int)), some (.int (k : Int)), some (.int z), none] (sS ns c k rest)
        = .next [some (.ref 0), some (.int (m : Int)), some (.int (k : Int)), some (.int z2), none] (sS ns c k rest) := by
      by_cases hz : z < 1000000000000000000
      · refine ⟨((z * 48271 + (k : Int) * 69621 + 11) % 2147483647 * 16807 + 13) % 2147483647 * 65537 + (z * 48271 + (k : Int) * 69621 + 11) % 2147483647, (i_yes (st1 := sS ns c k rest) ?_).trans ?_⟩
        · have hz' : decide (z < 1000000000000000000) = true := decide_eq_true hz
          simp only [ev, Ev.mk1, Ev.mkT, R.bind, R.d, R.of, Bv.d, cmpB, pow18, ltB, hz', List.getElem?_cons_succ, List.getElem?_cons_zero]
        · generalize he : (z * 48271 + (k : Int) * 69621 + 11) % 2147483647 = z1
          refine (x_next (qa (k := (k : Int)))).trans ?_
          rw [he]
          exact (x_next qb).trans x_nil
      · refine ⟨z, (i_no (st1 := sS ns c k rest) ?_).trans x_nil⟩
        have hz' : decide (z < 1000000000000000000) = false := decide_eq_false hz
        simp only [ev, Ev.mk1, Ev.mkT, R.bind, R.d, R.of, Bv.d, cmpB, pow18, ltB, hz', List.getElem?_cons_succ, List.getElem?_cons_zero]
    refine ⟨z2, k + 1, some (.int (k : Int)), some (.int z2), (if_next (st1 := sS ns c k rest) (st2 := sS ns z2 (k + 1) rest) (ρ' := [some (.ref 0), some (.int (m : Int)), some (.int (k : Int)), some (.int z2), none]) ?_ ?_).trans x_nil⟩
    · simp [Df.run, exs, ex, ev, evs, evI, Ev.mk1, Ev.mkT, R.bind, R.d, R.of, R.ofS, Bv.d, R.then_, RS.seq, RS.loop, bindT, bindTs, truB, biOf_len, biOf_abs, biOf_max, biOf_int, biOf_list, biOf_all, biOf_tuple, mtOf_append, mtOf_join, mtOf_count, mtOf_rfind, arg1, arg2, biB, metB, recvB, cmpB, binB, List.replicate, i1, eqB_int, hc]
    · refine (x_next (st1 := sS ns c k rest) (ρ' := [some (.ref 0), some (.int (m : Int)), some (.int (k : Int)), none, none]) ?_).trans ?_
      · simp [Df.run, exs, ex, ev, evs, evI, Ev.mk1, Ev.mkT, R.bind, R.d, R.of, R.ofS, Bv.d, R.then_, RS.seq, RS.loop, bindT, bindTs, truB, biOf_len, biOf_abs, biOf_max, biOf_int, biOf_list, biOf_all, biOf_tuple, mtOf_append, mtOf_join, mtOf_count, mtOf_rfind, arg1, arg2, biB, metB, recvB, cmpB, binB, List.replicate, i2]
      refine (x_next (st1 := sS ns c k rest) (ρ' := [some (.ref 0), some (.int (m : Int)), some (.int (k : Int)), some (.int (7 + (k : Int))), none]) ?_).trans ?_
      · simp [Df.run, exs, ex, ev, evs, evI, Ev.mk1, Ev.mkT, R.bind, R.d, R.of, R.ofS, Bv.d, R.then_, RS.seq, RS.loop, bindT, bindTs, truB, biOf_len, biOf_abs, biOf_max, biOf_int, biOf_list, biOf_all, biOf_tuple, mtOf_append, mtOf_join, mtOf_count, mtOf_rfind, arg1, arg2, biB, metB, recvB, cmpB, binB, List.replicate, addB]
      refine (x_next hz).trans ((x_next hz2).trans ?_)
      refine (x_next (st1 := sS ns z2 k rest) (ρ' := [some (.ref 0), some (.int (m : Int)), some (.int (k : Int)), some (.int z2), none]) ?_).trans ?_
      · simp [Df.run, exs, ex, ev, evs, evI, Ev.mk1, Ev.mkT, R.bind, R.d, R.of, R.ofS, Bv.d, R.then_, RS.seq, RS.loop, bindT, bindTs, truB, biOf_len, biOf_abs, biOf_max, biOf_int, biOf_list, biOf_all, biOf_tuple, mtOf_append, mtOf_join, mtOf_count, mtOf_rfind, arg1, arg2, biB, metB, recvB, cmpB, binB, List.replicate, p1]
      refine (x_next ?_).trans x_nil
      have := p2 (ns := ns) (c := z2) (k := k) (rest := rest) (x := k + 1)
      have e : addB (sS ns z2 k rest) (.int (k : Int)) (.int 1) = some (.val (.int ((k + 1 : Nat) : Int))) := rfl
      simp only [ex, ev, Ev.mk1, R.bind, R.d, R.of, Bv.d, binB, e, this, R.then_, List.getElem?_cons_succ, List.getElem?_cons_zero]
  · refine ⟨c, k, none, none, (if_skip (st1 := sS ns c k rest) ?_).trans x_nil⟩
    simp [Df.run, exs, ex, ev, evs, evI, Ev.mk1, Ev.mkT, R.bind, R.d, R.of, R.ofS, Bv.d, R.then_, RS.seq, RS.loop, bindT, bindTs, truB, biOf_len, biOf_abs, biOf_max, biOf_int, biOf_list, biOf_all, biOf_tuple, mtOf_append, mtOf_join, mtOf_count, mtOf_rfind, arg1, arg2, biB, metB, recvB, cmpB, binB, List.replicate, i1, eqB_int, hc]
def RestOk (rest : Store) (L : Nat) : Prop := ∀ o ∈ rest, o.okRef L = true
theorem okRefs_ints {L : Nat} : ∀ {ns : List Int}, okRefs L (ns.map D.int) = true
  | [] => rfl
  | n :: ns => by
    simp only [List.map_cons, okRefs, okRefs_ints, Bool.and_true]
    rfl
theorem sO_ok {L : Nat} : (sO ns c k).okRef L = true := by
  simp [sO, O.okRef, okRefs, D.okRef, okRefs_ints]
theorem oldOk_s {c' : Int} {k' : Nat} (h : RestOk rest (rest.length + 1)) : oldOk (sS ns c k rest) (sS ns c' k' rest) = true := by
  unfold oldOk
  rw [Bool.or_eq_true]
  right
  rw [List.all_eq_true]
  intro o ho
  have ho : o ∈ sS ns c' k' rest := List.mem_of_mem_take ho
  rcases List.mem_cons.mp ho with rfl | ho
  · exact sO_ok
  · exact h o ho
theorem next_ok (hm : 0 < m) (hm2 : m < 1073741824) (h : RestOk rest (rest.length + 1)) : ∃ (d : Nat) (c' : Int) (k' : Nat), d < m ∧ cf (n + 1) "_law_next" [.ref 0, .int (m : Int)] (sS ns c k rest) = .ok (.int (d : Int)) (sS ns c' k' rest) := by
  obtain ⟨c1, k1, x, y, e1⟩ := next1 (Φ := cf n) (xc := xcOf excs) (ns := ns) (c := c) (k := k) (rest := rest) (m := m)
  have hpos : (0 : Int) < (m : Int) := by omega
  have h0 : 0 ≤ c1 % (m : Int) := Int.emod_nonneg _ (by omega)
  have h1 : c1 % (m : Int) < (m : Int) := Int.emod_lt_of_pos _ hpos
  refine ⟨(c1 % (m : Int)).toNat, c1 / (m : Int), k1, by omega, ?_⟩
  rw [cf_succ tab_next]
  have hd : ((c1 % (m : Int)).toNat : Int) = c1 % (m : Int) := Int.toNat_of_nonneg h0
  have e1' : ex (cf n) (xcOf excs) (.ifs (.cmp .Eq (.idx (.var 0) (.con (.int 1))) (.con (.int 0))) [
    .asg (.name 2) (.idx (.var 0) (.con (.int 2))),
    .asg (.name 3) (.bin .Add (.con (.int 7)) (.var 2)),
    .ifs (.cmp .Lt (.var 2) (.bi "len" [(.idx (.var 0) (.con (.int 0)))])) [
      .asg (.name 3) (.bi "abs" [(.idx (.idx (.var 0) (.con (.int 0))) (.var 2))])] [],
    .ifs (.cmp .Lt (.var 3) (.bin .Pow (.con (.int 10)) (.con (.int 18)))) [
      .asg (.name 3) (.bin .Mod (.bi "int" [(.bin .Add (.bin .Add (.bin .Mult (.var 3) (.con (.int 48271))) (.bin .Mult (.var 2) (.con (.int 69621)))) (.con (.int 11)))]) (.con (.int 2147483647))),
      .asg (.name 3) (.bin .Add (.bin .Mult (.bin .Mod (.bi "int" [(.bin .Add (.bin .Mult (.var 3) (.con (.int 16807))) (.con (.int 13)))]) (.con (.int 2147483647))) (.con (.int 65537))) (.var 3))] [],
    .put (.var 0) (.con (.int 1)) (.var 3),
    .put (.var 0) (.con (.int 2)) (.bin .Add (.var 2) (.con (.int 1)))] []) [some (.ref 0), some (.int (m : Int)), none, none, none] (sS ns c k rest) = .next [some (.ref 0), some (.int (m : Int)), x, y, none] (sS ns c1 k1 rest) := by
    rw [exs] at e1
    revert e1
    generalize ex (cf n) (xcOf excs) _ _ _ = r
    intro e1
    cases r <;> first | (simp only [RS.seq, exs] at e1; exact e1) | (simp only [RS.seq] at e1; cases e1)
  have b : exs (cf n) (xcOf excs) df__law_next.body [some (.ref 0), some (.int (m : Int)), none, none, none] (sS ns c k rest) = .ret (.int ((c1 % (m : Int)).toNat : Int)) (sS ns (c1 / (m : Int)) k1 rest) := by
    refine (x_next e1').trans ?_
    refine (x_next (st1 := sS ns c1 k1 rest) (ρ' := [some (.ref 0), some (.int (m : Int)), x, y, some (.int ((c1 % (m : Int)).toNat : Int))]) ?_).trans ?_
    · rw [hd]
      simp only [ex, ev, evs, Ev.mk1, R.bind, R.d, R.of, Bv.d, i1, modI hpos, biOf_int, Option.bind_some, biB, arg1, intOf, Option.map_some, R.then_, bindT, List.getElem?_cons_succ, List.getElem?_cons_zero]
      rfl
    refine (x_next (st1 := sS ns (c1 / (m : Int)) k1 rest) (ρ' := [some (.ref 0), some (.int (m : Int)), x, y, some (.int ((c1 % (m : Int)).toNat : Int))]) ?_).trans ?_
    · have hm3 : (m : Int) < 1073741824 := by omega
      simp only [ex, ev, Ev.mk1, R.bind, R.d, R.of, Bv.d, i1, fdvI hpos hm3, p1, R.then_, List.getElem?_cons_succ, List.getElem?_cons_zero]
    · exact x_ret (by simp [Df.run, exs, ex, ev, evs, evI, Ev.mk1, Ev.mkT, R.bind, R.d, R.of, R.ofS, Bv.d, R.then_, RS.seq, RS.loop, bindT, bindTs, truB, biOf_len, biOf_abs, biOf_max, biOf_int, biOf_list, biOf_all, biOf_tuple, mtOf_append, mtOf_join, mtOf_count, mtOf_rfind, arg1, arg2, biB, metB, recvB, cmpB, binB, List.replicate])
  refine (run_ret' rfl b).trans ?_
  rw [show df__law_next.keep = false from rfl]
  have et : (sS ns (c1 / (m : Int)) k1 rest).take (sS ns c k rest).length = sS ns (c1 / (m : Int)) k1 rest := List.take_of_length_le (by simp)
  simp only [close, oldOk_s h, if_true, Bool.false_eq_true, if_false, fin, D.okRef, et]
end
end K70

set_option Elab.async false
set_option linter.all false
set_option maxRecDepth 100000
set_option autoImplicit false
/-! The law's gaps. -/
namespace K70
open Ip PySem
theorem tab_gap : tab "_law_gap" = some df__law_gap := rfl
theorem tab_is_word : tab "_law_is_word" = some df__law_is_word := rfl
theorem tab_is_tight : tab "_law_is_tight" = some df__law_is_tight := rfl
def gapsL : List (List Nat) := [tx "", tx " ", tx "\n", tx "\t", tx "  ", tx "\n\n ", tx " # a (remark) ! ~ ;\n", tx "#\n", tx " #)\n\t"]
theorem gaps_skip : ∀ g ∈ gapsL, Skip g := by
  have h0 : Skip [] := .nil
  have bl : ∀ {c g}, c ∈ [32, 10, 9] → Skip g → Skip (c :: g) := fun h k => .blank h k
  intro g hg
  simp only [gapsL, List.mem_cons, List.not_mem_nil, or_false] at hg
  rcases hg with rfl | rfl | rfl | rfl | rfl | rfl | rfl | rfl | rfl
  · rw [show tx "" = [] by decide +kernel]; exact h0
  · rw [show tx " " = [32] by decide +kernel]; exact bl (by decide) h0
  · rw [show tx "\n" = [10] by decide +kernel]; exact bl (by decide) h0
  · rw [show tx "\t" = [9] by decide +kernel]; exact bl (by decide) h0
  · rw [show tx "  " = [32, 32] by decide +kernel]; exact bl (by decide) (bl (by decide) h0)
  · rw [show tx "\n\n " = [10, 10, 32] by decide +kernel]; exact bl (by decide) (bl (by decide) (bl (by decide) h0))
  · rw [show tx " # a (remark) ! ~ ;\n" = 32 :: 35 :: ([32, 97, 32, 40, 114, 101, 109, 97, 114, 107, 41, 32, 33, 32, 126, 32, 59] ++ 10 :: []) by decide +kernel]
    exact bl (by decide) (.comm (by decide) (bl (by decide) h0))
  · rw [show tx "#\n" = 35 :: ([] ++ 10 :: []) by decide +kernel]
    exact .comm (by decide) (bl (by decide) h0)
  · rw [show tx " #)\n\t" = 32 :: 35 :: ([41] ++ 10 :: [9]) by decide +kernel]
    exact bl (by decide) (.comm (by decide) (bl (by decide) (bl (by decide) h0)))
theorem gaps_len : ∀ g ∈ gapsL, g.length ≤ 30 := by decide +kernel
theorem gaps_head : ∀ g ∈ gapsL, ∀ c ∈ g.head?, c ∉ isw ∧ c ≠ 61 := by decide +kernel
theorem gaps_tail : ∀ g ∈ gapsL.tail, g ≠ [] := by decide +kernel
section
variable {n : Nat} {ns : List Int} {c : Int} {k : Nat} {rest : Store}
theorem close_s {d : D} {c' : Int} {k' : Nat} (h : RestOk rest (rest.length + 1)) (hd : d.okRef (rest.length + 1) = true) : close false (sS ns c k rest) d (sS ns c' k' rest) = .ok d (sS ns c' k' rest) := by
  have et : (sS ns c' k' rest).take (sS ns c k rest).length = sS ns c' k' rest := List.take_of_length_le (by simp)
  have hd' : d.okRef (sS ns c k rest).length = true := hd
  simp only [close, oldOk_s h, if_true, Bool.false_eq_true, if_false, fin, hd', et]
theorem gap_ok {tight : Bool} {many : Nat} (h : RestOk rest (rest.length + 1)) : ∃ (g : List Nat) (c' : Int) (k' : Nat), g ∈ gapsL ∧ (tight = false → g ≠ []) ∧ cf (n + 2) "_law_gap" [.ref 0, .bl tight, .int (many : Int)] (sS ns c k rest) = .ok (T g) (sS ns c' k' rest) := by
  -- how many gaps
  obtain ⟨most, hm, hmI⟩ : ∃ most : Nat, (2 ≤ most ∧ most ≤ 9) ∧ ∀ {Φ : Fn} {x : Option D}, (ev Φ (.ite (.cmp .Lt (.var 2) (.con (.int 600))) (.con (.int 9)) (.con (.int 5)))).b [some (.ref 0), some (.bl tight), some (.int (many : Int)), x, none] (sS ns c k rest) = .ok (.val (.int (most : Int))) (sS ns c k rest) := by
    by_cases hh : (many : Int) < 600
    · exact ⟨9, by omega, fun {Φ x} => by simp [Df.run, exs, ex, ev, evs, evI, Ev.mk1, Ev.mkT, R.bind, R.d, R.of, R.ofS, Bv.d, R.then_, RS.seq, RS.loop, bindT, bindTs, truB, biOf_len, biOf_abs, biOf_max, biOf_int, biOf_list, biOf_all, biOf_tuple, mtOf_append, mtOf_join, mtOf_count, mtOf_rfind, arg1, arg2, biB, metB, recvB, cmpB, binB, List.replicate, ltB, hh]⟩
    · exact ⟨5, by omega, fun {Φ x} => by simp [Df.run, exs, ex, ev, evs, evI, Ev.mk1, Ev.mkT, R.bind, R.d, R.of, R.ofS, Bv.d, R.then_, RS.seq, RS.loop, bindT, bindTs, truB, biOf_len, biOf_abs, biOf_max, biOf_int, biOf_list, biOf_all, biOf_tuple, mtOf_append, mtOf_join, mtOf_count, mtOf_rfind, arg1, arg2, biB, metB, recvB, cmpB, binB, List.replicate, ltB, hh]⟩
  have s1 : ex (cf (n + 1)) (xcOf excs) (.asg (.name 3) (.lst [(.con (.str "")), (.con (.str " ")), (.con (.str "\n")), (.con (.str "\t")), (.con (.str "  ")), (.con (.str "\n\n ")), (.con (.str " # a (remark) ! ~ ;\n")), (.con (.str "#\n")), (.con (.str " #)\n\t"))])) [some (.ref 0), some (.bl tight), some (.int (many : Int)), none, none] (sS ns c k rest)
      = .next [some (.ref 0), some (.bl tight), some (.int (many : Int)), some (.lst (gapsL.map T)), none] (sS ns c k rest) := by
    simp [Df.run, exs, ex, ev, evs, evI, Ev.mk1, Ev.mkT, R.bind, R.d, R.of, R.ofS, Bv.d, R.then_, RS.seq, RS.loop, bindT, bindTs, truB, biOf_len, biOf_abs, biOf_max, biOf_int, biOf_list, biOf_all, biOf_tuple, mtOf_append, mtOf_join, mtOf_count, mtOf_rfind, arg1, arg2, biB, metB, recvB, cmpB, binB, List.replicate, tx_T, maxLen, gapsL]
  have s2 : ex (cf (n + 1)) (xcOf excs) (.asg (.name 4) (.ite (.cmp .Lt (.var 2) (.con (.int 600))) (.con (.int 9)) (.con (.int 5)))) [some (.ref 0), some (.bl tight), some (.int (many : Int)), some (.lst (gapsL.map T)), none] (sS ns c k rest)
      = .next [some (.ref 0), some (.bl tight), some (.int (many : Int)), some (.lst (gapsL.map T)), some (.int (most : Int))] (sS ns c k rest) := by
    simp only [ex, hmI, R.d, R.bind, R.of, Bv.d, R.then_, bindT]
    rfl
  have hget : ∀ {d : Nat} {st : Store}, d < 9 → ∃ g, g ∈ gapsL ∧ gapsL[d]? = some g ∧ idxB st (.lst (gapsL.map T)) (.int (d : Int)) = some (T g) := fun {d st} hd => by
    have hl : d < gapsL.length := hd
    exact ⟨gapsL[d], List.getElem_mem hl, List.getElem?_eq_getElem hl, by rw [idxB_lst, List.getElem?_map, List.getElem?_eq_getElem hl]; rfl⟩
  cases tight with
  | true =>
    obtain ⟨d, c', k', hd, e⟩ := next_ok (n := n) (ns := ns) (c := c) (k := k) (rest := rest) (m := most) (by omega) (by omega) h
    obtain ⟨g, hg, hg2, hi⟩ := hget (d := d) (st := sS ns c' k' rest) (by omega)
    refine ⟨g, c', k', hg, fun z => Bool.noConfusion z, ?_⟩
    rw [cf_succ tab_gap]
    refine (run_ret' rfl ((x_next s1).trans ((x_next s2).trans (if_ret (st1 := sS ns c k rest) (st2 := sS ns c' k' rest) (d := T g) ?_ (x_ret ?_))))).trans ?_
    · simp [Df.run, exs, ex, ev, evs, evI, Ev.mk1, Ev.mkT, R.bind, R.d, R.of, R.ofS, Bv.d, R.then_, RS.seq, RS.loop, bindT, bindTs, truB, biOf_len, biOf_abs, biOf_max, biOf_int, biOf_list, biOf_all, biOf_tuple, mtOf_append, mtOf_join, mtOf_count, mtOf_rfind, arg1, arg2, biB, metB, recvB, cmpB, binB, List.replicate]
    · simp only [ex, ev, evs, Ev.mk1, R.bind, R.d, R.of, Bv.d, e, hi, R.then_, List.getElem?_cons_succ, List.getElem?_cons_zero]
    · exact close_s h rfl
  | false =>
    obtain ⟨d, c', k', hd, e⟩ := next_ok (n := n) (ns := ns) (c := c) (k := k) (rest := rest) (m := most - 1) (by omega) (by omega) h
    obtain ⟨g, hg, hg2, hi⟩ := hget (d := 1 + d) (st := sS ns c' k' rest) (by omega)
    refine ⟨g, c', k', hg, fun _ => ?_, ?_⟩
    · refine gaps_tail g ?_
      rw [show 1 + d = d + 1 by omega] at hg2
      exact List.mem_of_getElem? (show gapsL.tail[d]? = some g by simpa [List.getElem?_tail] using hg2)
    rw [cf_succ tab_gap]
    have em : ((most : Int) - 1) = ((most - 1 : Nat) : Int) := by omega
    have ed : (1 : Int) + (d : Int) = ((1 + d : Nat) : Int) := by omega
    refine (run_ret' rfl ((x_next s1).trans ((x_next s2).trans ((if_skip (st1 := sS ns c k rest) ?_).trans (x_ret (st1 := sS ns c' k' rest) (d := T g) ?_))))).trans ?_
    · simp [Df.run, exs, ex, ev, evs, evI, Ev.mk1, Ev.mkT, R.bind, R.d, R.of, R.ofS, Bv.d, R.then_, RS.seq, RS.loop, bindT, bindTs, truB, biOf_len, biOf_abs, biOf_max, biOf_int, biOf_list, biOf_all, biOf_tuple, mtOf_append, mtOf_join, mtOf_count, mtOf_rfind, arg1, arg2, biB, metB, recvB, cmpB, binB, List.replicate]
    · simp only [ex, ev, evs, Ev.mk1, R.bind, R.d, R.of, Bv.d, subI, em, e, addI, ed, hi, R.then_, List.getElem?_cons_succ, List.getElem?_cons_zero]
    · exact close_s h rfl
theorem is_word_ok {w v : List Nat} {c0 : Nat} {st : Store} (e : w = c0 :: v) (hl : w.length ≤ maxLen) : cf (n + 1) "_law_is_word" [T w] st = .ok (.bl (decide (c0 ∈ isw))) st := by
  rw [cf_succ tab_is_word]
  have et : tx "abcdefghijklmnopqrstuvwxyz0123456789_?" = isw := by decide +kernel
  have i : idxB st (T w) (.int 0) = some (T [c0]) := by
    have := idxB_T (st := st) (k := 0) hl
    rw [e] at this ⊢
    exact this
  refine run_ret rfl rfl rfl (x_ret ?_)
  simp only [ex, ev, Ev.mk1, Ev.mkT, R.bind, R.d, R.of, Bv.d, tx_T, et, cmpB, inB_T1, List.map_cons, List.map_nil, List.cons_append, List.nil_append, List.getElem?_cons_zero]
  have i : idxB st (T w) (.int 0) = some (T [c0]) := i
  simp only [i, R.bind, R.of, Bv.d, inB_T1, R.then_]
/-- nothing needs to stand between -/
def tight (c1 c2 : Nat) (w2 : List Nat) : Bool := if c1 ∈ isw ∧ c2 ∈ isw then false else decide (w2 ≠ [61])
theorem is_tight_ok {w1 v1 w2 v2 : List Nat} {c1 c2 : Nat} {st : Store} (e1 : w1 = c1 :: v1) (e2 : w2 = c2 :: v2) (h1 : w1.length ≤ maxLen) (h2 : w2.length ≤ maxLen) : cf (n + 2) "_law_is_tight" [T w1, T w2] st = .ok (.bl (tight c1 c2 w2)) st := by
  rw [cf_succ tab_is_tight]
  have a1 := is_word_ok (n := n) (st := st) e1 h1
  have a2 := is_word_ok (n := n) (st := st) e2 h2
  have eq : tx "=" = [61] := by decide +kernel
  by_cases b1 : c1 ∈ isw
  · by_cases b2 : c2 ∈ isw
    · have et : tight c1 c2 w2 = false := by simp [tight, b1, b2]
      rw [et]
      refine run_ret rfl rfl rfl (if_ret (st1 := st) ?_ (x_ret ?_))
      · rw [decide_eq_true b1] at a1; rw [decide_eq_true b2] at a2
        simp [Df.run, exs, ex, ev, evs, evI, Ev.mk1, Ev.mkT, R.bind, R.d, R.of, R.ofS, Bv.d, R.then_, RS.seq, RS.loop, bindT, bindTs, truB, biOf_len, biOf_abs, biOf_max, biOf_int, biOf_list, biOf_all, biOf_tuple, mtOf_append, mtOf_join, mtOf_count, mtOf_rfind, arg1, arg2, biB, metB, recvB, cmpB, binB, List.replicate, a1, a2]
      · simp [Df.run, exs, ex, ev, evs, evI, Ev.mk1, Ev.mkT, R.bind, R.d, R.of, R.ofS, Bv.d, R.then_, RS.seq, RS.loop, bindT, bindTs, truB, biOf_len, biOf_abs, biOf_max, biOf_int, biOf_list, biOf_all, biOf_tuple, mtOf_append, mtOf_join, mtOf_count, mtOf_rfind, arg1, arg2, biB, metB, recvB, cmpB, binB, List.replicate]
    · have et : tight c1 c2 w2 = decide (w2 ≠ [61]) := by simp [tight, b2]
      rw [et]
      refine run_ret rfl rfl rfl ((if_skip (st1 := st) ?_).trans (x_ret ?_))
      · rw [decide_eq_true b1] at a1; rw [decide_eq_false b2] at a2
        simp [Df.run, exs, ex, ev, evs, evI, Ev.mk1, Ev.mkT, R.bind, R.d, R.of, R.ofS, Bv.d, R.then_, RS.seq, RS.loop, bindT, bindTs, truB, biOf_len, biOf_abs, biOf_max, biOf_int, biOf_list, biOf_all, biOf_tuple, mtOf_append, mtOf_join, mtOf_count, mtOf_rfind, arg1, arg2, biB, metB, recvB, cmpB, binB, List.replicate, a1, a2]
      · simp [Df.run, exs, ex, ev, evs, evI, Ev.mk1, Ev.mkT, R.bind, R.d, R.of, R.ofS, Bv.d, R.then_, RS.seq, RS.loop, bindT, bindTs, truB, biOf_len, biOf_abs, biOf_max, biOf_int, biOf_list, biOf_all, biOf_tuple, mtOf_append, mtOf_join, mtOf_count, mtOf_rfind, arg1, arg2, biB, metB, recvB, cmpB, binB, List.replicate, tx_T, eq, eqB_T]
  · have et : tight c1 c2 w2 = decide (w2 ≠ [61]) := by simp [tight, b1]
    rw [et]
    refine run_ret rfl rfl rfl ((if_skip (st1 := st) ?_).trans (x_ret ?_))
    · rw [decide_eq_false b1] at a1
      simp [Df.run, exs, ex, ev, evs, evI, Ev.mk1, Ev.mkT, R.bind, R.d, R.of, R.ofS, Bv.d, R.then_, RS.seq, RS.loop, bindT, bindTs, truB, biOf_len, biOf_abs, biOf_max, biOf_int, biOf_list, biOf_all, biOf_tuple, mtOf_append, mtOf_join, mtOf_count, mtOf_rfind, arg1, arg2, biB, metB, recvB, cmpB, binB, List.replicate, a1]
    · simp [Df.run, exs, ex, ev, evs, evI, Ev.mk1, Ev.mkT, R.bind, R.d, R.of, R.ofS, Bv.d, R.then_, RS.seq, RS.loop, bindT, bindTs, truB, biOf_len, biOf_abs, biOf_max, biOf_int, biOf_list, biOf_all, biOf_tuple, mtOf_append, mtOf_join, mtOf_count, mtOf_rfind, arg1, arg2, biB, metB, recvB, cmpB, binB, List.replicate, tx_T, eq, eqB_T]
end
end K70

set_option Elab.async false
set_option linter.all false
set_option maxRecDepth 100000
set_option autoImplicit false
/-! The law's places, its laying. -/
namespace K70
open Ip PySem
theorem cnt_count (c : Nat) : ∀ l : List Nat, PyProof.Rows.cnt c l = (l.count c : Int)
  | [] => rfl
  | x :: l => by
    rw [PyProof.Rows.cnt_cons, cnt_count c l, List.count_cons]
    by_cases h : x = c
    · subst h; simp; omega
    · simp [h]
theorem count_T {t : List Nat} : Txt.count ⟨t.toArray⟩ ⟨[10].toArray⟩ = (t.count 10 : Int) := by
  have := PyProof.Rows.count_cnt ⟨t.toArray⟩ 10
  rw [cnt_count] at this
  exact this
theorem bg_spec : ∀ p : List Nat, (bg p = 0 ∧ 10 ∉ p) ∨ ∃ i, bg p = i + 1 ∧ p[i]? = some 10 ∧ ∀ k, i < k → p[k]? ≠ some 10 := by
  have key : ∀ q : List Nat, (bg q.reverse = 0 ∧ 10 ∉ q.reverse) ∨ ∃ i, bg q.reverse = i + 1 ∧ q.reverse[i]? = some 10 ∧ ∀ k, i < k → q.reverse[k]? ≠ some 10 := by
    intro q
    induction q with
    | nil => exact .inl ⟨rfl, by simp⟩
    | cons c q ih =>
      rw [List.reverse_cons, bg_snoc]
      by_cases h : c = 10
      · subst h
        rw [if_pos rfl]
        refine .inr ⟨q.reverse.length, rfl, by simp, fun k hk => ?_⟩
        rw [List.getElem?_eq_none (by simp at hk ⊢; omega)]
        simp
      · rw [if_neg h]
        rcases ih with ⟨h1, h2⟩ | ⟨i, h1, h2, h3⟩
        · refine .inl ⟨h1, ?_⟩
          rw [List.mem_append]
          rintro (e | e)
          · exact h2 e
          · simp at e; exact h e.symm
        · have hi : i < q.reverse.length := (List.getElem?_eq_some_iff.mp h2).1
          refine .inr ⟨i, h1, by rw [List.getElem?_append_left hi]; exact h2, fun k hk => ?_⟩
          by_cases hkl : k < q.reverse.length
          · rw [List.getElem?_append_left hkl]; exact h3 k hk
          · by_cases hke : k = q.reverse.length
            · subst hke; simp; exact h
            · rw [List.getElem?_eq_none (by simp at hkl hke ⊢; omega)]; simp
  intro p
  have := key p.reverse
  rwa [List.reverse_reverse] at this
theorem rfind_T {t : List Nat} : Txt.rfind ⟨t.toArray⟩ ⟨[10].toArray⟩ = (bg t : Int) - 1 := by
  have at_ : ∀ i, PySem.StrLaws.At ⟨t.toArray⟩ ⟨#[10]⟩ (⟨t.toArray⟩ : Str).length i ↔ t[i]? = some 10 := fun i => StrLaws.subAt_one ⟨t.toArray⟩ 10 i
  rcases PyProof.Rows.rfind_whole ⟨t.toArray⟩ ⟨#[10]⟩ with ⟨h1, h2⟩ | ⟨i, h1, h2, h3⟩
  · refine h1.trans ?_
    rcases bg_spec t with ⟨b1, b2⟩ | ⟨j, b1, b2, b3⟩
    · rw [b1]; rfl
    · exact absurd ((at_ j).mpr b2) (h2 j)
  · refine h1.trans ?_
    have e := (at_ i).mp h2
    rcases bg_spec t with ⟨b1, b2⟩ | ⟨j, b1, b2, b3⟩
    · exact absurd (List.mem_of_getElem? e) b2
    · have : i = j := by
        rcases Nat.lt_trichotomy i j with z | z | z
        · exact absurd ((at_ j).mpr b2) (h3 j z)
        · exact z
        · exact absurd e (b3 i z)
      subst this
      rw [b1]; omega
theorem tab_laid : tab "_law_laid" = some df__law_laid := rfl
/-- the place of what comes next -/
def plc (p : List Nat) : D := .tup [.int (ln p), .int (col p)]
abbrev plcE : E := .tup [(.bin .Add (.con (.int 1)) (.met "count" (.var 2) [(.con (.str "\n"))])), (.bin .Sub (.bi "len" [(.var 2)]) (.met "rfind" (.var 2) [(.con (.str "\n"))]))]
section
variable {n : Nat} {ns : List Int} {c : Int} {k : Nat} {t : List Nat} {Φ : Fn} {st : Store} {xc : XC}
theorem evs_ok {e : E} {es : List E} {ρ : Ip.Env} {d : D} {ds : List D} {st1 st2 : Store} (h : (ev Φ e).b ρ st = .ok (.val d) st1) (h2 : evs Φ es ρ st1 = .ok ds st2) : evs Φ (e :: es) ρ st = .ok (d :: ds) st2 := by
  simp only [evs, h, h2, R.d, R.bind, R.of, Bv.d]
theorem plc_e (hf : Fits t) {a b : Option D} {r : List (Option D)} : (ev Φ plcE).b (a :: b :: some (T t) :: r) st = .ok (.val (plc t)) st := by
  have cn : metB st .count (T t) [T (tx "\n")] = some (.val (.int (t.count 10 : Int)), st) := by
    rw [tx_nl]
    simp only [metB, arg1, asStr, T, Option.bind_some, Option.map_some, count_T]
  have rf : metB st .rfind (T t) [T (tx "\n")] = some (.val (.int ((bg t : Int) - 1)), st) := by
    rw [tx_nl]
    simp only [metB, arg1, asStr, T, Option.bind_some, Option.map_some, rfind_T]
  have rc1 : recvB st .count (T t) = some .count := rfl
  have rc2 : recvB st .rfind (T t) = some .rfind := rfl
  have e1 : (1 : Int) + (t.count 10 : Int) = (ln t : Int) := by unfold ln; omega
  have e2 : (t.length : Int) - ((bg t : Int) - 1) = (col t : Int) := by
    have := @bg_le t
    unfold col; omega
  simp only [ev, evs, Ev.mk1, R.bind, R.d, R.of, R.ofS, Bv.d, mtOf_count, mtOf_rfind, Option.bind_some, rc1, rc2, cn, rf, biOf_len, biB, arg1, lenB_T hf.max, Option.map_some, addI, subI, e1, e2, tx_T, List.getElem?_cons_succ, List.getElem?_cons_zero]
  rw [if_pos (by show 2 ≤ maxLen; unfold maxLen; omega)]
  rfl
end
end K70

set_option Elab.async false
set_option linter.all false
set_option maxRecDepth 100000
set_option autoImplicit false
/-! The law's laying. -/
namespace K70
open Ip PySem
def placesOf (p : List Nat) : List (List Nat × List Nat) → List D
  | [] => []
  | (w, g) :: l => plc p :: placesOf (p ++ w ++ g) l
theorem places_ok {L : Nat} : ∀ {l : List (List Nat × List Nat)} {p : List Nat}, okRefs L (placesOf p l) = true
  | [], _ => rfl
  | (w, g) :: l, p => by
    simp only [placesOf, okRefs, places_ok, Bool.and_true]
    rfl
/-- the last word's end, or a word from which the first need not be kept apart -/
def TightAt (W : List (List Nat)) (i : Nat) (c0 : Nat) : Prop := i + 1 = W.length ∨ ∃ c2 v2, W[i + 1]? = some (c2 :: v2) ∧ tight c0 c2 (c2 :: v2) = true
def bodyL : List S := [
    .ex (.met "append" (.var 3) [plcE]),
    .asg (.name 2) (.bin .Add (.var 2) (.var 5)),
    .asg (.name 6) (.or_ (.cmp .Eq (.bin .Add (.var 4) (.con (.int 1))) (.bi "len" [(.var 1)])) (.call "_law_is_tight" [(.var 5), (.idx (.var 1) (.bin .Add (.var 4) (.con (.int 1))))])),
    .asg (.name 2) (.bin .Add (.var 2) (.call "_law_gap" [(.var 0), (.var 6), (.bi "len" [(.var 1)])]))]
theorem laid_body : df__law_laid.body = [
  .asg (.name 2) (.call "_law_gap" [(.var 0), (.con (.bl true)), (.bi "len" [(.var 1)])]),
  .asg (.name 3) (.mt (.lst [])),
  .for_ (.tup [(.name 4), (.name 5)]) (.enum (.var 1)) bodyL,
  .ex (.met "append" (.var 3) [plcE]),
  .ret (.tup [(.var 2), (.var 3)])] := rfl
section
variable {n : Nat} {ns : List Int} {c : Int} {k : Nat} {t : List Nat} {W : List (List Nat)}
theorem evs_nil {Φ : Fn} {ρ : Ip.Env} {st : Store} : evs Φ [] ρ st = .ok [] st := by simp only [evs]
theorem addT {st : Store} {a b : List Nat} (h : a.length + b.length ≤ maxLen) : binB st .Add (T a) (T b) = some (.val (T (a ++ b))) := addB_T (st := st) h
abbrev envL (W : List (List Nat)) (t : List Nat) (x4 x5 x6 : Option D) : Ip.Env := [some (.ref 0), some (.lst (W.map T)), some (T t), some (.ref 1), x4, x5, x6]
theorem rest1 {acc : List D} (h : okRefs 2 acc = true) : RestOk [.lst acc] (([.lst acc] : Store).length + 1) := fun o ho => by
  rcases List.mem_singleton.mp ho with rfl
  exact h
theorem l_app {acc : List D} {x4 x5 x6 : Option D} (hf : Fits t) (ha : acc.length < maxLen) : ex (cf (n + 3)) (xcOf excs) (.ex (.met "append" (.var 3) [plcE])) (envL W t x4 x5 x6) (sS ns c k [.lst acc]) = .next (envL W t x4 x5 x6) (sS ns c k [.lst (acc ++ [plc t])]) := by
  have rc : recvB (sS ns c k [.lst acc]) .append (.ref 1) = some .append := rfl
  have ap : metB (sS ns c k [.lst acc]) .append (.ref 1) [plc t] = some (.val .non, sS ns c k [.lst (acc ++ [plc t])]) := by
    show (if acc.length < maxLen then _ else _) = _
    rw [if_pos ha]; rfl
  have hp := plc_e (Φ := cf (n + 3)) (st := sS ns c k [.lst acc]) hf (a := some (.ref 0)) (b := some (.lst (W.map T))) (r := [some (.ref 1), x4, x5, x6])
  have he : evs (cf (n + 3)) [plcE] (envL W t x4 x5 x6) (sS ns c k [.lst acc]) = .ok [plc t] (sS ns c k [.lst acc]) := evs_ok hp evs_nil
  generalize plcE = pe at he ⊢
  simp only [ex, ev, Ev.mk1, R.bind, R.d, R.of, R.ofS, Bv.d, mtOf_append, Option.bind_some, rc, he, ap, R.then_, List.getElem?_cons_succ, List.getElem?_cons_zero]
theorem turn_ok {i : Nat} {w : List Nat} {acc : List D} {x4 x5 x6 : Option D} (hf : t.length ≤ 50000) (ha : acc.length < maxLen) (hacc : okRefs 2 acc = true) (hw : W[i]? = some w) (hlen : w.length ≤ 13) (hne : ∀ w ∈ W, w ≠ [] ∧ w.length ≤ 13) (hW : W.length ≤ 100) :
    ∃ (g : List Nat) (c' : Int) (k' : Nat) (x6' : Option D), g ∈ gapsL ∧ (g = [] → ∀ c0 v, w = c0 :: v → TightAt W i c0) ∧ exs (cf (n + 3)) (xcOf excs) bodyL (envL W t (some (.int (i : Int))) (some (T w)) x6) (sS ns c k [.lst acc])
      = .next (envL W (t ++ w ++ g) (some (.int (i : Int))) (some (T w)) x6') (sS ns c' k' [.lst (acc ++ [plc t])]) := by
  have hfT : Fits t := by unfold Fits; omega
  have hok : okRefs 2 (acc ++ [plc t]) = true := okRefs_append hacc rfl
  have s1 := l_app (n := n) (ns := ns) (c := c) (k := k) (W := W) (x4 := some (.int (i : Int))) (x5 := some (T w)) (x6 := x6) hfT ha
  have ad : binB (sS ns c k [.lst (acc ++ [plc t])]) .Add (T t) (T w) = some (.val (T (t ++ w))) := addT (by unfold maxLen; omega)
  have s2 : ex (cf (n + 3)) (xcOf excs) (.asg (.name 2) (.bin .Add (.var 2) (.var 5))) (envL W t (some (.int (i : Int))) (some (T w)) x6) (sS ns c k [.lst (acc ++ [plc t])]) = .next (envL W (t ++ w) (some (.int (i : Int))) (some (T w)) x6) (sS ns c k [.lst (acc ++ [plc t])]) := by
    simp only [ex, ev, Ev.mk1, R.bind, R.d, R.of, Bv.d, ad, R.then_, bindT, List.getElem?_cons_succ, List.getElem?_cons_zero, List.set_cons_succ, List.set_cons_zero]
  have hwm : w ∈ W := List.mem_of_getElem? hw
  obtain ⟨c0, v, rfl⟩ : ∃ c0 v, w = c0 :: v := by
    cases w with
    | nil => exact absurd rfl (hne _ hwm).1
    | cons c0 v => exact ⟨c0, v, rfl⟩
  have hi : i < W.length := (List.getElem?_eq_some_iff.mp hw).1
  have hln : lenB (sS ns c k [.lst (acc ++ [plc t])]) (.lst (W.map T)) = some (W.length : Int) := by
    show some ((W.map T).length : Int) = _
    rw [List.length_map]
  have hi1 : (i : Int) + 1 = ((i + 1 : Nat) : Int) := by omega
  -- whether it is tight
  obtain ⟨tg, htg, s3⟩ : ∃ tg : Bool, (tg = true → TightAt W i c0) ∧ ex (cf (n + 3)) (xcOf excs) (.asg (.name 6) (.or_ (.cmp .Eq (.bin .Add (.var 4) (.con (.int 1))) (.bi "len" [(.var 1)])) (.call "_law_is_tight" [(.var 5), (.idx (.var 1) (.bin .Add (.var 4) (.con (.int 1))))]))) (envL W (t ++ c0 :: v) (some (.int (i : Int))) (some (T (c0 :: v))) x6) (sS ns c k [.lst (acc ++ [plc t])])
      = .next (envL W (t ++ c0 :: v) (some (.int (i : Int))) (some (T (c0 :: v))) (some (.bl tg))) (sS ns c k [.lst (acc ++ [plc t])]) := by
    by_cases hl : i + 1 = W.length
    · refine ⟨true, fun _ => .inl hl, ?_⟩
      have e : decide (((i + 1 : Nat) : Int) = (W.length : Int)) = true := decide_eq_true (by omega)
      simp only [ex, ev, evs, Ev.mk1, Ev.mkT, R.bind, R.d, R.of, Bv.d, addI, hi1, biOf_len, Option.bind_some, biB, arg1, hln, Option.map_some, cmpB, eqB_int, e, truB, if_true, R.then_, bindT, List.getElem?_cons_succ, List.getElem?_cons_zero, List.set_cons_succ, List.set_cons_zero]
    · have hlt : i + 1 < W.length := by omega
      have e : decide (((i + 1 : Nat) : Int) = (W.length : Int)) = false := decide_eq_false (by omega)
      obtain ⟨n1, n2⟩ := hne W[i + 1] (List.getElem_mem hlt)
      obtain ⟨c2, v2, hw2⟩ : ∃ c2 v2, W[i + 1] = c2 :: v2 := by
        cases q : W[i + 1] with
        | nil => exact absurd q n1
        | cons c2 v2 => exact ⟨c2, v2, rfl⟩
      have hg2 : W[i + 1]? = some (c2 :: v2) := by rw [List.getElem?_eq_getElem hlt, hw2]
      have hix : idxB (sS ns c k [.lst (acc ++ [plc t])]) (.lst (W.map T)) (.int ((i + 1 : Nat) : Int)) = some (T (c2 :: v2)) := by
        rw [idxB_lst, List.getElem?_map, hg2]; rfl
      have hti := is_tight_ok (n := n + 1) (w1 := c0 :: v) (w2 := c2 :: v2) (st := sS ns c k [.lst (acc ++ [plc t])]) rfl rfl (by unfold maxLen; omega) (by rw [hw2] at n2; unfold maxLen; omega)
      refine ⟨tight c0 c2 (c2 :: v2), fun h => .inr ⟨c2, v2, hg2, h⟩, ?_⟩
      simp only [ex, ev, evs, Ev.mk1, Ev.mkT, R.bind, R.d, R.of, Bv.d, addI, hi1, biOf_len, Option.bind_some, biB, arg1, hln, Option.map_some, cmpB, eqB_int, e, truB, Bool.false_eq_true, if_false, hix, hti, R.then_, bindT, List.getElem?_cons_succ, List.getElem?_cons_zero, List.set_cons_succ, List.set_cons_zero]
  obtain ⟨g, c', k', hg, hgt, eg⟩ := gap_ok (n := n + 1) (ns := ns) (c := c) (k := k) (rest := [.lst (acc ++ [plc t])]) (tight := tg) (many := W.length) (rest1 hok)
  have hgl := gaps_len g hg
  refine ⟨g, c', k', some (.bl tg), hg, fun e c1 v1 e1 => ?_, ?_⟩
  · cases e1
    cases tg with
    | true => exact htg rfl
    | false => exact absurd e (hgt rfl)
  · have ad2 : binB (sS ns c' k' [.lst (acc ++ [plc t])]) .Add (T (t ++ c0 :: v)) (T g) = some (.val (T (t ++ (c0 :: v) ++ g))) := addT (by simp at hlen ⊢; unfold maxLen; omega)
    refine (x_next s1).trans ((x_next s2).trans ((x_next s3).trans ((x_next ?_).trans x_nil)))
    simp only [ex, ev, evs, Ev.mk1, R.bind, R.d, R.of, Bv.d, biOf_len, Option.bind_some, biB, arg1, hln, Option.map_some, eg, ad2, R.then_, bindT, List.getElem?_cons_succ, List.getElem?_cons_zero, List.set_cons_succ, List.set_cons_zero]
theorem word61 {v : List Nat} (h : Word (61 :: v)) : v = [] := by
  generalize e : 61 :: v = w at h
  cases h with
  | sgn h =>
    have : ∀ w ∈ sgns, w.head? = some 61 → w = [61] := by decide +kernel
    have := this w h (by rw [← e]; rfl)
    rw [this] at e; simpa using e
  | res h =>
    have : ∀ w ∈ resv, w.head? ≠ some 61 := by decide +kernel
    exact absurd (by rw [← e]; rfl) (this w h)
  | num h =>
    have : ∀ w ∈ nums, w.head? ≠ some 61 := by decide +kernel
    exact absurd (by rw [← e]; rfl) (this w h)
  | var h1 h2 h3 => simp at e
  | name h1 h2 h3 =>
    simp at e
    have : (61 : Nat) ∉ small := by decide
    rw [← e.1] at h1
    exact absurd h1 this
  | odd1 h =>
    have : ∀ w ∈ odd1, w.head? ≠ some 61 := by decide +kernel
    exact absurd (by rw [← e]; rfl) (this w h)
  | odd2 h =>
    have : ∀ w ∈ odd2, w.head? ≠ some 61 := by decide +kernel
    exact absurd (by rw [← e]; rfl) (this w h)
theorem stop_of {w g rest : List Nat} {c0 : Nat} {v : List Nat} (e : w = c0 :: v) (hg : g ∈ gapsL) (h : g = [] → ∀ c r, rest = c :: r → c ≠ 61 ∧ (c0 ∈ isw → c ∉ isw)) : Stop w (g ++ rest) := by
  intro c r hr
  cases g with
  | nil =>
    obtain ⟨h1, h2⟩ := h rfl c r hr
    refine ⟨h1, fun c1 w' e1 => ?_⟩
    rw [e] at e1
    cases e1
    exact h2
  | cons a g =>
    obtain ⟨h1, h2⟩ := gaps_head _ hg a (by simp)
    have : a = c := by simp at hr; exact hr.1
    subst this
    exact ⟨h2, fun _ _ _ _ => h1⟩
/-- the words laid -/
theorem laid_loop (hne : ∀ w ∈ W, w ≠ [] ∧ w.length ≤ 13) (hW : W.length ≤ 100) (hwd : ∀ w ∈ W, Word w) : ∀ (ws : List (List Nat)) (i : Nat) (t : List Nat) (acc : List D) (c : Int) (k : Nat) (x4 x5 x6 : Option D), W.drop i = ws → t.length + 43 * ws.length ≤ 50000 → acc.length + ws.length < maxLen → okRefs 2 acc = true →
    ∃ (l : List (List Nat × List Nat)) (c' : Int) (k' : Nat) (y4 y5 y6 : Option D), l.map (·.1) = ws ∧ (∀ tl, tailOk tl → Laid l tl) ∧ (lay l).length ≤ 43 * ws.length ∧
      forF ⟨numbered 0 (W.map T), []⟩ (fun d ρ st => match bindT st (.tup [(.name 4), (.name 5)]) d ρ with
        | some ρ' => exs (cf (n + 3)) (xcOf excs) bodyL ρ' st
        | none => .stuck) (numbered i (ws.map T)) (envL W t x4 x5 x6) (sS ns c k [.lst acc]) = .next (envL W (t ++ lay l) y4 y5 y6) (sS ns c' k' [.lst (acc ++ placesOf t l)])
  | [], i, t, acc, c, k, x4, x5, x6, hd, ht, ha, hacc => by
    refine ⟨[], c, k, x4, x5, x6, rfl, fun _ _ => trivial, by simp [lay], ?_⟩
    simp [forF, Ip.numbered, Its.ok, lay, placesOf]
  | w :: ws, i, t, acc, c, k, x4, x5, x6, hd, ht, ha, hacc => by
    have hw : W[i]? = some w := by
      have : (W.drop i)[0]? = some w := by rw [hd]; rfl
      simpa using this
    have hwm := List.mem_of_getElem? hw
    have hd' : W.drop (i + 1) = ws := by
      have : (W.drop i).drop 1 = ws := by rw [hd]; rfl
      simpa [List.drop_drop, Nat.add_comm] using this
    have hWl : W.length = i + 1 + ws.length := by
      have h1 := congrArg List.length hd
      have h2 := (List.getElem?_eq_some_iff.mp hw).1
      simp at h1; omega
    simp only [List.length_cons] at ht ha
    obtain ⟨g, c1, k1, z6, hg, hgt, e⟩ := turn_ok (n := n) (ns := ns) (c := c) (k := k) (t := t) (W := W) (i := i) (w := w) (acc := acc) (x4 := x4) (x5 := x5) (x6 := x6) (by omega) (by omega) hacc hw (hne w hwm).2 hne hW
    have hgl := gaps_len g hg
    have hwl := (hne w hwm).2
    obtain ⟨l, c2, k2, y4, y5, y6, hl, hL, hlen, e2⟩ := laid_loop hne hW hwd ws (i + 1) (t ++ w ++ g) (acc ++ [plc t]) c1 k1 (some (.int (i : Int))) (some (T w)) z6 hd' (by simp; omega) (by simp; omega) (okRefs_append hacc rfl)
    refine ⟨(w, g) :: l, c2, k2, y4, y5, y6, by simp [hl], fun tl htl => ⟨hwd w hwm, gaps_skip g hg, ?_, hL tl htl⟩, by simp [lay]; omega, ?_⟩
    · obtain ⟨c0, v, rfl⟩ : ∃ c0 v, w = c0 :: v := by
        cases w with
        | nil => exact absurd rfl (hne _ hwm).1
        | cons c0 v => exact ⟨c0, v, rfl⟩
      refine stop_of rfl hg fun eg cc r hr => ?_
      rcases hgt eg c0 v rfl with hlast | ⟨c2', v2, hw2, htg⟩
      · have : ws = [] := List.eq_nil_of_length_eq_zero (by omega)
        subst this
        have : l = [] := by simpa using hl
        subst this
        rcases htl with rfl | ⟨y, rfl, _⟩
        · simp [lay] at hr
        · have : cc = 35 := by simp [lay] at hr; exact hr.1.symm
          subst this
          exact ⟨by decide, fun _ => by decide⟩
      · have hws : ws[0]? = some (c2' :: v2) := by
          rw [← hd']; simpa using hw2
        cases ws with
        | nil => simp at hws
        | cons w2 ws =>
          have : w2 = c2' :: v2 := by simpa using hws
          subst this
          cases l with
          | nil => simp at hl
          | cons p l =>
            obtain ⟨wp, gp⟩ := p
            have : wp = c2' :: v2 := by simp at hl; exact hl.1
            subst this
            have : cc = c2' := by simp [lay] at hr; exact hr.1.symm
            subst this
            refine ⟨fun e61 => ?_, fun h0 h1 => ?_⟩
            · subst e61
              have := word61 (hwd _ (List.mem_of_getElem? hw2))
              subst this
              simp [tight] at htg
            · simp [tight, h0, h1] at htg
    · have hb : bindT (sS ns c k [.lst acc]) (.tup [(.name 4), (.name 5)]) (.tup [.int (i : Int), T w]) (envL W t x4 x5 x6) = some (envL W t (some (.int (i : Int))) (some (T w)) x6) := by
        simp only [bindT, bindTs, sqOf]
        rfl
      have hok : (Its.mk (numbered 0 (W.map T)) []).ok (sS ns c k [.lst acc]) = true := rfl
      simp only [List.map_cons, Ip.numbered, forF, hok, if_true, hb, e, RS.loop, e2]
      simp [lay, placesOf, List.append_assoc]
end
end K70

set_option Elab.async false
set_option linter.all false
set_option maxRecDepth 100000
set_option autoImplicit false
/-! The law's laying as a whole; kinds; problems. -/
namespace K70
open Ip PySem
theorem tab_reserved : tab "_law_reserved" = some df__law_reserved := rfl
theorem tab_kind : tab "_law_kind" = some df__law_kind := rfl
theorem tab_problem : tab "_law_problem" = some df__law_problem := rfl
theorem ex_for {Φ : Fn} {xc : XC} {t : Tg} {it : Ip.It} {b : List S} {ρ : Ip.Env} {st st1 : Store} {its : Its} (h : evI Φ it ρ st = .ok its st1) : ex Φ xc (.for_ t it b) ρ st = forF its (fun d ρ st => match bindT st t d ρ with
    | some ρ' => exs Φ xc b ρ' st
    | none => .stuck) its.items ρ st1 := by
  simp only [ex, h, R.then_]
  try rfl
section
variable {n : Nat} {ns : List Int} {c : Int} {k : Nat} {t : List Nat} {W : List (List Nat)} {st : Store}
theorem laid_ok (hne : ∀ w ∈ W, w ≠ [] ∧ w.length ≤ 13) (hW : W.length ≤ 100) (hwd : ∀ w ∈ W, Word w) :
    ∃ (g0 : List Nat) (l : List (List Nat × List Nat)) (c' : Int) (k' : Nat), g0 ∈ gapsL ∧ l.map (·.1) = W ∧ (∀ tl, tailOk tl → Laid l tl) ∧ (lay l).length ≤ 4300 ∧
      cf (n + 4) "_law_laid" [.ref 0, .lst (W.map T)] (sS ns c k []) = .ok (.tup [T (g0 ++ lay l), .ref 1]) (sS ns c' k' [.lst (placesOf g0 l ++ [plc (g0 ++ lay l)])]) := by
  obtain ⟨g0, c1, k1, hg, _, e1⟩ := gap_ok (n := n + 1) (ns := ns) (c := c) (k := k) (rest := []) (tight := true) (many := W.length) (fun o h => nomatch h)
  have hgl := gaps_len g0 hg
  obtain ⟨l, c2, k2, y4, y5, y6, hl, hL, hlen, e2⟩ := laid_loop (n := n) (ns := ns) hne hW hwd W 0 g0 [] c1 k1 none none none rfl (by omega) (by simp; unfold maxLen; omega) rfl
  have hll : (placesOf g0 l).length < maxLen := by
    have : ∀ (l : List (List Nat × List Nat)) (p : List Nat), (placesOf p l).length = l.length := by
      intro l
      induction l with
      | nil => intro p; rfl
      | cons a l ih => intro p; obtain ⟨w, g⟩ := a; simp [placesOf, ih]
    rw [this]
    have := congrArg List.length hl
    simp at this; unfold maxLen; omega
  refine ⟨g0, l, c2, k2, hg, hl, hL, by omega, ?_⟩
  rw [cf_succ tab_laid]
  have hln : ∀ s : Store, lenB s (.lst (W.map T)) = some (W.length : Int) := fun s => by
    show some ((W.map T).length : Int) = _
    rw [List.length_map]
  have b : exs (cf (n + 3)) (xcOf excs) df__law_laid.body [some (.ref 0), some (.lst (W.map T)), none, none, none, none, none] (sS ns c k []) = .ret (.tup [T (g0 ++ lay l), .ref 1]) (sS ns c2 k2 [.lst (placesOf g0 l ++ [plc (g0 ++ lay l)])]) := by
    rw [laid_body]
    refine (x_next (ρ' := [some (.ref 0), some (.lst (W.map T)), some (T g0), none, none, none, none]) (st1 := sS ns c1 k1 []) ?_).trans ?_
    · simp only [ex, ev, evs, Ev.mk1, R.bind, R.d, R.of, Bv.d, biOf_len, Option.bind_some, biB, arg1, hln, Option.map_some, e1, R.then_, bindT, List.getElem?_cons_succ, List.getElem?_cons_zero, List.set_cons_succ, List.set_cons_zero]
    refine (x_next (ρ' := envL W g0 none none none) (st1 := sS ns c1 k1 [.lst []]) ?_).trans ?_
    · simp [Df.run, exs, ex, ev, evs, evI, Ev.mk1, Ev.mkT, R.bind, R.d, R.of, R.ofS, Bv.d, R.then_, RS.seq, RS.loop, bindT, bindTs, truB, biOf_len, biOf_abs, biOf_max, biOf_int, biOf_list, biOf_all, biOf_tuple, mtOf_append, mtOf_join, mtOf_count, mtOf_rfind, arg1, arg2, biB, metB, recvB, cmpB, binB, List.replicate, live, maxLen]
    refine (x_next (ρ' := envL W (g0 ++ lay l) y4 y5 y6) (st1 := sS ns c2 k2 [.lst (placesOf g0 l)]) ?_).trans ?_
    · have hi : evI (cf (n + 3)) (.enum (.var 1)) (envL W g0 none none none) (sS ns c1 k1 [.lst []]) = .ok ⟨Ip.numbered 0 (W.map T), []⟩ (sS ns c1 k1 [.lst []]) := by
        simp [Df.run, exs, ex, ev, evs, evI, Ev.mk1, Ev.mkT, R.bind, R.d, R.of, R.ofS, Bv.d, R.then_, RS.seq, RS.loop, bindT, bindTs, truB, biOf_len, biOf_abs, biOf_max, biOf_int, biOf_list, biOf_all, biOf_tuple, mtOf_append, mtOf_join, mtOf_count, mtOf_rfind, arg1, arg2, biB, metB, recvB, cmpB, binB, List.replicate, enumOf, isLs, itsOf]
      refine (ex_for hi).trans ?_
      exact e2
    refine (x_next (l_app (by unfold Fits; simp; omega) hll)).trans (x_ret ?_)
    simp only [ex, ev, evs, Ev.mk1, R.bind, R.d, R.of, Bv.d, R.then_, List.getElem?_cons_succ, List.getElem?_cons_zero, List.length_cons, List.length_nil]
    rw [if_pos (by unfold maxLen; omega)]
  exact run_ret' rfl b
theorem reserved_ok : cf (n + 1) "_law_reserved" [] st = .ok (.lst (resv.map T)) st := by
  rw [cf_succ tab_reserved]
  refine run_ret rfl rfl rfl (x_ret ?_)
  simp [Df.run, exs, ex, ev, evs, evI, Ev.mk1, Ev.mkT, R.bind, R.d, R.of, R.ofS, Bv.d, R.then_, RS.seq, RS.loop, bindT, bindTs, truB, biOf_len, biOf_abs, biOf_max, biOf_int, biOf_list, biOf_all, biOf_tuple, mtOf_append, mtOf_join, mtOf_count, mtOf_rfind, arg1, arg2, biB, metB, recvB, cmpB, binB, List.replicate, tx_T, maxLen, resv]
theorem T_idx0 {w v : List Nat} {c0 : Nat} (e : w = c0 :: v) (hl : w.length ≤ maxLen) : idxB st (T w) (.int 0) = some (T [c0]) := by
  have := idxB_T (st := st) (k := 0) hl
  rw [e] at this ⊢
  exact this
theorem kind_ok {w : List Nat} (hl : w.length ≤ maxLen) : cf (n + 2) "_law_kind" [T w] st = .ok (T (kd w)) st := by
  rw [cf_succ tab_kind]
  have hr := reserved_ok (n := n) (st := st)
  have t1 : ∀ b, b = decide (w ∈ resv) → (ev (cf (n + 1)) (.cmp .In (.var 0) (.call "_law_reserved" []))).t [some (T w)] st = .ok b st := fun b hb => by
    subst hb
    simp only [ev, evs, Ev.mk1, Ev.mkT, R.bind, R.d, R.of, Bv.d, hr, cmpB, inB_lst, List.getElem?_cons_zero]
  by_cases h1 : w ∈ resv
  · have e : kd w = kReserved := by unfold kd; rw [if_pos h1]
    rw [e]
    refine run_ret rfl rfl rfl (if_ret (t1 true (by simp [h1])) (x_ret ?_))
    simp [Df.run, exs, ex, ev, evs, evI, Ev.mk1, Ev.mkT, R.bind, R.d, R.of, R.ofS, Bv.d, R.then_, RS.seq, RS.loop, bindT, bindTs, truB, biOf_len, biOf_abs, biOf_max, biOf_int, biOf_list, biOf_all, biOf_tuple, mtOf_append, mtOf_join, mtOf_count, mtOf_rfind, arg1, arg2, biB, metB, recvB, cmpB, binB, List.replicate, tx_T]
  · have t2 : ∀ b, b = decide (w = []) → (ev (cf (n + 1)) (.cmp .Eq (.var 0) (.con (.str "")))).t [some (T w)] st = .ok b st := fun b hb => by
      subst hb
      have k3 : D.str (Str.ofString "") = T [] := tx_T ""
      simp only [ev, Ev.mk1, Ev.mkT, R.bind, R.d, R.of, Bv.d, cmpB, k3, eqB_T, List.getElem?_cons_zero]
    cases w with
    | nil =>
      have e : kd [] = kEnd := by unfold kd; rw [if_neg h1]
      rw [e]
      refine run_ret rfl rfl rfl ((if_skip (t1 false (by simp [h1]))).trans (if_ret (t2 true (by simp)) (x_ret ?_)))
      simp [Df.run, exs, ex, ev, evs, evI, Ev.mk1, Ev.mkT, R.bind, R.d, R.of, R.ofS, Bv.d, R.then_, RS.seq, RS.loop, bindT, bindTs, truB, biOf_len, biOf_abs, biOf_max, biOf_int, biOf_list, biOf_all, biOf_tuple, mtOf_append, mtOf_join, mtOf_count, mtOf_rfind, arg1, arg2, biB, metB, recvB, cmpB, binB, List.replicate, tx_T]
    | cons c0 v =>
      have i := T_idx0 (st := st) (w := c0 :: v) rfl hl
      have ed : tx "0123456789" = digs := by decide +kernel
      have eq : tx "?" = [63] := by decide +kernel
      have es : tx "abcdefghijklmnopqrstuvwxyz" = small := by decide +kernel
      have t3 : ∀ b, b = decide (c0 ∈ digs) → (ev (cf (n + 1)) (.cmp .In (.idx (.var 0) (.con (.int 0))) (.con (.str "0123456789")))).t [some (T (c0 :: v))] st = .ok b st := fun b hb => by
        subst hb
        simp only [ev, Ev.mk1, Ev.mkT, R.bind, R.d, R.of, Bv.d, i, cmpB, tx_T, ed, inB_T1, List.getElem?_cons_zero]
      have t4 : ∀ b, b = decide (c0 = 63) → (ev (cf (n + 1)) (.cmp .Eq (.idx (.var 0) (.con (.int 0))) (.con (.str "?")))).t [some (T (c0 :: v))] st = .ok b st := fun b hb => by
        subst hb
        simp only [ev, Ev.mk1, Ev.mkT, R.bind, R.d, R.of, Bv.d, i, cmpB, tx_T, eq, eqB_T, List.getElem?_cons_zero]
        simp
      have k0 := (if_skip (ss := [.ifs (.cmp .Eq (.var 0) (.con (.str ""))) [
    .ret (.con (.str "end"))] [],
  .ifs (.cmp .In (.idx (.var 0) (.con (.int 0))) (.con (.str "0123456789"))) [
    .ret (.con (.str "number"))] [],
  .ifs (.cmp .Eq (.idx (.var 0) (.con (.int 0))) (.con (.str "?"))) [
    .ret (.con (.str "variable"))] [],
  .ret (.ite (.cmp .In (.idx (.var 0) (.con (.int 0))) (.con (.str "abcdefghijklmnopqrstuvwxyz"))) (.con (.str "name")) (.con (.str "sign")))]) (xc := xcOf excs) (a := [.ret (.con (.str "reserved"))]) (t1 false (by simp [h1]))).trans (if_skip (t2 false (by simp)))
      by_cases h3 : c0 ∈ digs
      · have e : kd (c0 :: v) = kNumber := by unfold kd; rw [if_neg h1]; simp only [h3, if_true]
        rw [e]
        refine run_ret rfl rfl rfl (k0.trans (if_ret (t3 true (by simp [h3])) (x_ret ?_)))
        simp [Df.run, exs, ex, ev, evs, evI, Ev.mk1, Ev.mkT, R.bind, R.d, R.of, R.ofS, Bv.d, R.then_, RS.seq, RS.loop, bindT, bindTs, truB, biOf_len, biOf_abs, biOf_max, biOf_int, biOf_list, biOf_all, biOf_tuple, mtOf_append, mtOf_join, mtOf_count, mtOf_rfind, arg1, arg2, biB, metB, recvB, cmpB, binB, List.replicate, tx_T]
      · by_cases h4 : c0 = 63
        · have e : kd (c0 :: v) = kVariable := by subst h4; unfold kd; rw [if_neg h1]; simp only [h3, if_false, if_true]
          rw [e]
          refine run_ret rfl rfl rfl (k0.trans ((if_skip (t3 false (by simp [h3]))).trans (if_ret (t4 true (by simp [h4])) (x_ret ?_))))
          simp [Df.run, exs, ex, ev, evs, evI, Ev.mk1, Ev.mkT, R.bind, R.d, R.of, R.ofS, Bv.d, R.then_, RS.seq, RS.loop, bindT, bindTs, truB, biOf_len, biOf_abs, biOf_max, biOf_int, biOf_list, biOf_all, biOf_tuple, mtOf_append, mtOf_join, mtOf_count, mtOf_rfind, arg1, arg2, biB, metB, recvB, cmpB, binB, List.replicate, tx_T]
        · have e : kd (c0 :: v) = if c0 ∈ small then kName else kSign := by unfold kd; rw [if_neg h1]; simp only [h3, if_false, h4]
          rw [e]
          refine run_ret rfl rfl rfl (k0.trans ((if_skip (t3 false (by simp [h3]))).trans ((if_skip (t4 false (by simp [h4]))).trans (x_ret ?_))))
          by_cases h5 : c0 ∈ small
          · simp [Df.run, exs, ex, ev, evs, evI, Ev.mk1, Ev.mkT, R.bind, R.d, R.of, R.ofS, Bv.d, R.then_, RS.seq, RS.loop, bindT, bindTs, truB, biOf_len, biOf_abs, biOf_max, biOf_int, biOf_list, biOf_all, biOf_tuple, mtOf_append, mtOf_join, mtOf_count, mtOf_rfind, arg1, arg2, biB, metB, recvB, cmpB, binB, List.replicate, tx_T, i, es, inB_T1, h5]
          · simp [Df.run, exs, ex, ev, evs, evI, Ev.mk1, Ev.mkT, R.bind, R.d, R.of, R.ofS, Bv.d, R.then_, RS.seq, RS.loop, bindT, bindTs, truB, biOf_len, biOf_abs, biOf_max, biOf_int, biOf_list, biOf_all, biOf_tuple, mtOf_append, mtOf_join, mtOf_count, mtOf_rfind, arg1, arg2, biB, metB, recvB, cmpB, binB, List.replicate, tx_T, i, es, inB_T1, h5]
end
end K70

set_option Elab.async false
set_option linter.all false
set_option maxRecDepth 100000
set_option autoImplicit false
/-! The law's problem. -/
namespace K70
open Ip PySem
/-- the first problem, as the law finds it -/
def prob (i d : Nat) : List (List Nat) → Option (Nat × List Nat)
  | [] => none
  | w :: ws => match bad w with
    | some m => some (i, m)
    | none => if w ∈ [[40], [123]] then (if d = 12 then some (i, mDeep) else prob (i + 1) (d + 1) ws)
      else if w ∈ [[41], [125]] then prob (i + 1) (d - 1) ws else prob (i + 1) d ws
def probD : Option (Nat × List Nat) → D
  | none => .non
  | some (i, m) => .tup [.int (i : Int), T m]
theorem f_odd2 : ∀ w ∈ odd2, kd w = kNumber → w.length ≤ 4 → (intOf (T w)).isSome = true := by decide +kernel
theorem f_sgnK : ∀ w ∈ sgns, kd w ≠ kNumber := by decide +kernel
theorem f_resK : ∀ w ∈ resv, kd w ≠ kNumber := by decide +kernel
theorem f_odd1K : ∀ w ∈ odd1, kd w ≠ kNumber := by decide +kernel
theorem num_some {w : List Nat} (h : Word w) (hk : kd w = kNumber) (hl : w.length ≤ 4) : (intOf (T w)).isSome = true := by
  cases h with
  | sgn h => exact absurd hk (f_sgnK w h)
  | res h => exact absurd hk (f_resK w h)
  | num h => exact (f_nums w h).2.2.2.2.2.2
  | @var v h1 h2 h3 =>
    have hn2 := fun h : (63 :: v) ∈ resv => resv_head _ h 63 (by simp) rfl
    unfold kd at hk
    rw [if_neg hn2] at hk
    simp only at hk
    rw [if_neg (by decide)] at hk
    simp only [if_true] at hk
    exact absurd hk kinds.2.2.2.2.2.2.1
  | @name c v h1 h2 h3 =>
    obtain ⟨x1, x2, x3, x4, x5⟩ := small_x c h1
    unfold kd at hk
    split at hk
    · exact absurd hk kinds.2.2.2.1
    · simp only at hk
      rw [if_neg x1, if_neg x4, if_pos h1] at hk
      exact absurd hk kinds.2.1
  | odd1 h => exact absurd hk (f_odd1K w h)
  | odd2 h => exact f_odd2 w h hk hl
def bodyP : List S := [
    .asg (.name 4) (.call "_law_kind" [(.var 3)]),
    .ifs (.cmp .In (.var 3) (.lst [(.con (.str "A")), (.con (.str "_")), (.con (.str "!")), (.con (.str "$")), (.con (.str "&")), (.con (.str ";")), (.con (.str "[")), (.con (.str "@")), (.con (.str "^")), (.con (.str "~")), (.con (.str "'")), (.con (.str "/")), (.con (.str "?"))])) [
      .ret (.tup [(.var 2), (.con (.str "no token begins here"))])] [],
    .ifs (.and_ (.cmp .In (.var 4) (.lst [(.con (.str "name")), (.con (.str "reserved"))])) (.cmp .Gt (.bi "len" [(.var 3)]) (.con (.int 12)))) [
      .ret (.tup [(.var 2), (.con (.str "a word has at most 12 characters"))])] [],
    .ifs (.and_ (.cmp .Eq (.var 4) (.con (.str "variable"))) (.cmp .Gt (.bi "len" [(.var 3)]) (.con (.int 9)))) [
      .ret (.tup [(.var 2), (.con (.str "a variable has at most 8 characters"))])] [],
    .ifs (.and_ (.cmp .Eq (.var 4) (.con (.str "number"))) (.or_ (.cmp .Gt (.bi "len" [(.var 3)]) (.con (.int 4))) (.cmp .Gt (.bi "int" [(.var 3)]) (.con (.int 1000))))) [
      .ret (.tup [(.var 2), (.con (.str "a number is at most 1000"))])] [],
    .ifs (.cmp .In (.var 3) (.lst [(.con (.str "(")), (.con (.str "{"))])) [
      .ifs (.cmp .Eq (.var 1) (.con (.int 12))) [
        .ret (.tup [(.var 2), (.con (.str "nested too deep"))])] [],
      .asg (.name 1) (.bin .Add (.var 1) (.con (.int 1)))] [],
    .ifs (.and_ (.cmp .In (.var 3) (.lst [(.con (.str ")")), (.con (.str "}"))])) (.cmp .Gt (.var 1) (.con (.int 0)))) [
      .asg (.name 1) (.bin .Sub (.var 1) (.con (.int 1)))] []]
theorem problem_body : df__law_problem.body = [
  .asg (.name 1) (.con (.int 0)),
  .for_ (.tup [(.name 2), (.name 3)]) (.enum (.var 0)) bodyP,
  .ret (.con .non)] := rfl
section
variable {n : Nat} {st : Store} {X : D} {i d : Nat} {w : List Nat} {x4 : Option D} {Φ : Fn}
abbrev envP (X : D) (d i : Nat) (w : List Nat) (x4 : Option D) : Ip.Env := [some X, some (.int (d : Int)), some (.int (i : Int)), some (T w), x4]
theorem p_kind (hl : w.length ≤ 13) : ex (cf (n + 2)) (xcOf excs) (.asg (.name 4) (.call "_law_kind" [(.var 3)])) (envP X d i w x4) st = .next (envP X d i w (some (T (kd w)))) st := by
  have e := kind_ok (n := n) (st := st) (w := w) (by unfold maxLen; omega)
  simp only [ex, ev, evs, Ev.mk1, R.bind, R.d, R.of, Bv.d, e, R.then_, bindT, List.getElem?_cons_succ, List.getElem?_cons_zero, List.set_cons_succ, List.set_cons_zero]
theorem p_odd {b : Bool} (hb : decide (w ∈ odd1) = b) : (ev Φ (.cmp .In (.var 3) (.lst [(.con (.str "A")), (.con (.str "_")), (.con (.str "!")), (.con (.str "$")), (.con (.str "&")), (.con (.str ";")), (.con (.str "[")), (.con (.str "@")), (.con (.str "^")), (.con (.str "~")), (.con (.str "'")), (.con (.str "/")), (.con (.str "?"))]))).t (envP X d i w x4) st = .ok b st := by
  subst hb
  have e := inB_lst (st := st) (a := w) (ls := odd1)
  simp only [odd1, List.map_cons, List.map_nil] at e
  simp only [ev, evs, Ev.mk1, Ev.mkT, R.bind, R.d, R.of, Bv.d, tx_T, List.length_cons, List.length_nil, List.getElem?_cons_succ, List.getElem?_cons_zero]
  rw [if_pos (by unfold maxLen; omega)]
  simp only [R.bind, R.of, Bv.d, cmpB, e]
  rfl
theorem p_long {b : Bool} (hl : w.length ≤ 13) (hb : decide ((kd w = kName ∨ kd w = kReserved) ∧ w.length > 12) = b) : (ev Φ (.and_ (.cmp .In (.var 4) (.lst [(.con (.str "name")), (.con (.str "reserved"))])) (.cmp .Gt (.bi "len" [(.var 3)]) (.con (.int 12))))).t (envP X d i w (some (T (kd w)))) st = .ok b st := by
  subst hb
  have e := inB_lst (st := st) (a := kd w) (ls := [tx "name", tx "reserved"])
  simp only [List.map_cons, List.map_nil] at e
  have hln := lenB_T (st := st) (l := w) (by unfold maxLen; omega)
  simp only [ev, evs, Ev.mk1, Ev.mkT, R.bind, R.d, R.of, Bv.d, tx_T, List.length_cons, List.length_nil, List.getElem?_cons_succ, List.getElem?_cons_zero]
  rw [if_pos (by unfold maxLen; omega)]
  simp only [R.bind, R.of, Bv.d, cmpB, e]
  by_cases h1 : kd w = kName ∨ kd w = kReserved
  · have h1' : kd w ∈ [tx "name", tx "reserved"] := by simpa using h1
    have e2 : decide ((12 : Int) < (w.length : Int)) = decide ((kd w = kName ∨ kd w = kReserved) ∧ w.length > 12) := by
      simp only [h1, true_and]
      by_cases h : w.length > 12
      · rw [decide_eq_true h, decide_eq_true (by omega)]
      · rw [decide_eq_false h, decide_eq_false (by omega)]
    simp only [decide_eq_true h1', if_true, biOf_len, Option.bind_some, biB, arg1, hln, Option.map_some, ltB, e2]
  · have h1' : ¬ kd w ∈ [tx "name", tx "reserved"] := by simpa using h1
    simp only [decide_eq_false h1', h1, false_and, decide_false]
    rfl
theorem p_var {b : Bool} (hl : w.length ≤ 13) (hb : decide (kd w = kVariable ∧ w.length > 9) = b) : (ev Φ (.and_ (.cmp .Eq (.var 4) (.con (.str "variable"))) (.cmp .Gt (.bi "len" [(.var 3)]) (.con (.int 9))))).t (envP X d i w (some (T (kd w)))) st = .ok b st := by
  subst hb
  have hln := lenB_T (st := st) (l := w) (by unfold maxLen; omega)
  simp only [ev, evs, Ev.mk1, Ev.mkT, R.bind, R.d, R.of, Bv.d, tx_T, cmpB, eqB_T, List.getElem?_cons_succ, List.getElem?_cons_zero]
  by_cases h1 : kd w = kVariable
  · have h1' : kd w = tx "variable" := h1
    have e2 : decide ((9 : Int) < (w.length : Int)) = decide (kd w = kVariable ∧ w.length > 9) := by
      by_cases h : w.length > 9
      · rw [decide_eq_true (show kd w = kVariable ∧ w.length > 9 from ⟨h1, h⟩), decide_eq_true (by omega)]
      · rw [decide_eq_false (show ¬ (kd w = kVariable ∧ w.length > 9) from fun z => h z.2), decide_eq_false (by omega)]
    simp only [decide_eq_true h1', if_true, biOf_len, Option.bind_some, biB, arg1, hln, Option.map_some, ltB, e2]
  · have h1' : ¬ kd w = tx "variable" := h1
    simp only [decide_eq_false h1', decide_eq_false (show ¬ (kd w = kVariable ∧ w.length > 9) from fun z => h1 z.1)]
    rfl
theorem p_num {b : Bool} (hl : w.length ≤ 13) (hs : kd w = kNumber → w.length ≤ 4 → (intOf (T w)).isSome = true) (hb : decide (kd w = kNumber ∧ (w.length > 4 ∨ worth w > 1000)) = b) : (ev Φ (.and_ (.cmp .Eq (.var 4) (.con (.str "number"))) (.or_ (.cmp .Gt (.bi "len" [(.var 3)]) (.con (.int 4))) (.cmp .Gt (.bi "int" [(.var 3)]) (.con (.int 1000)))))).t (envP X d i w (some (T (kd w)))) st = .ok b st := by
  subst hb
  have hln := lenB_T (st := st) (l := w) (by unfold maxLen; omega)
  simp only [ev, evs, Ev.mk1, Ev.mkT, R.bind, R.d, R.of, Bv.d, tx_T, cmpB, eqB_T, List.getElem?_cons_succ, List.getElem?_cons_zero]
  by_cases h1 : kd w = kNumber
  · have h1' : kd w = tx "number" := h1
    simp only [decide_eq_true h1', if_true, biOf_len, biOf_int, Option.bind_some, biB, arg1, hln, Option.map_some, ltB]
    by_cases h4 : w.length > 4
    · have e4 : decide ((4 : Int) < (w.length : Int)) = true := decide_eq_true (by omega)
      simp only [e4, if_true, decide_eq_true (show kd w = kNumber ∧ (w.length > 4 ∨ worth w > 1000) from ⟨h1, .inl h4⟩)]
    · have e4 : decide ((4 : Int) < (w.length : Int)) = false := decide_eq_false (by omega)
      have hw := worth_eq (hs h1 (by omega))
      have e5 : decide ((1000 : Int) < worth w) = decide (kd w = kNumber ∧ (w.length > 4 ∨ worth w > 1000)) := by
        by_cases h : worth w > 1000
        · rw [decide_eq_true (show kd w = kNumber ∧ (w.length > 4 ∨ worth w > 1000) from ⟨h1, .inr h⟩), decide_eq_true (by omega)]
        · rw [decide_eq_false (show ¬ (kd w = kNumber ∧ (w.length > 4 ∨ worth w > 1000)) from fun z => z.2.elim h4 h), decide_eq_false (by omega)]
      simp only [e4, Bool.false_eq_true, if_false, hw, Option.map_some, ltB, e5]
  · have h1' : ¬ kd w = tx "number" := h1
    simp only [decide_eq_false h1', decide_eq_false (show ¬ (kd w = kNumber ∧ (w.length > 4 ∨ worth w > 1000)) from fun z => h1 z.1)]
    rfl
theorem p_two {a b : String} {la lb : List Nat} {r : Bool} (ha : tx a = la) (hb : tx b = lb) (hr : decide (w ∈ [la, lb]) = r) : (ev Φ (.cmp .In (.var 3) (.lst [(.con (.str (Str.ofString a))), (.con (.str (Str.ofString b)))]))).t (envP X d i w x4) st = .ok r st := by
  subst hr
  have e := inB_lst (st := st) (a := w) (ls := [la, lb])
  simp only [List.map_cons, List.map_nil] at e
  simp only [ev, evs, Ev.mk1, Ev.mkT, R.bind, R.d, R.of, Bv.d, tx_T, ha, hb, List.length_cons, List.length_nil, List.getElem?_cons_succ, List.getElem?_cons_zero]
  rw [if_pos (by unfold maxLen; omega)]
  simp only [R.bind, R.of, Bv.d, cmpB, e]
theorem p_ret {m : String} {x : Option D} : exs Φ (xcOf excs) [.ret (.tup [(.var 2), (.con (.str (Str.ofString m)))])] (envP X d i w x) st = .ret (.tup [.int (i : Int), T (tx m)]) st := by
  refine x_ret ?_
  simp only [ex, ev, evs, Ev.mk1, R.bind, R.d, R.of, Bv.d, tx_T, R.then_, List.length_cons, List.length_nil, List.getElem?_cons_succ, List.getElem?_cons_zero]
  rw [if_pos (by unfold maxLen; omega)]
theorem p_turn (hl : w.length ≤ 13) (hw : Word w) : (∀ m, bad w = some m → exs (cf (n + 2)) (xcOf excs) bodyP (envP X d i w x4) st = .ret (.tup [.int (i : Int), T m]) st) ∧
    (bad w = none → (w ∈ [[40], [123]] → d = 12 → exs (cf (n + 2)) (xcOf excs) bodyP (envP X d i w x4) st = .ret (.tup [.int (i : Int), T mDeep]) st) ∧
      ∀ d', (w ∈ [[40], [123]] → d ≠ 12) → d' = (if w ∈ [[40], [123]] then d + 1 else if w ∈ [[41], [125]] then d - 1 else d) → ∃ x', exs (cf (n + 2)) (xcOf excs) bodyP (envP X d i w x4) st = .next (envP X d' i w x') st) := by
  have k0 := p_kind (n := n) (st := st) (X := X) (i := i) (d := d) (x4 := x4) hl
  have hb : bad w = if w ∈ odd1 then some mNone
    else if (kd w = kName ∨ kd w = kReserved) ∧ w.length > 12 then some mWord
    else if kd w = kVariable ∧ w.length > 9 then some mVariable
    else if kd w = kNumber ∧ (w.length > 4 ∨ worth w > 1000) then some mNumber else none := rfl
  by_cases c1 : w ∈ odd1
  · rw [if_pos c1] at hb
    refine ⟨fun m hm => ?_, fun z => by rw [hb] at z; cases z⟩
    rw [hb] at hm
    cases hm
    exact (x_next k0).trans (if_ret (p_odd (decide_eq_true c1)) p_ret)
  rw [if_neg c1] at hb
  by_cases c2 : (kd w = kName ∨ kd w = kReserved) ∧ w.length > 12
  · rw [if_pos c2] at hb
    refine ⟨fun m hm => ?_, fun z => by rw [hb] at z; cases z⟩
    rw [hb] at hm
    cases hm
    exact (x_next k0).trans ((if_skip (p_odd (decide_eq_false c1))).trans (if_ret (p_long hl (decide_eq_true c2)) p_ret))
  rw [if_neg c2] at hb
  by_cases c3 : kd w = kVariable ∧ w.length > 9
  · rw [if_pos c3] at hb
    refine ⟨fun m hm => ?_, fun z => by rw [hb] at z; cases z⟩
    rw [hb] at hm
    cases hm
    exact (x_next k0).trans ((if_skip (p_odd (decide_eq_false c1))).trans ((if_skip (p_long hl (decide_eq_false c2))).trans (if_ret (p_var hl (decide_eq_true c3)) p_ret)))
  rw [if_neg c3] at hb
  by_cases c4 : kd w = kNumber ∧ (w.length > 4 ∨ worth w > 1000)
  · rw [if_pos c4] at hb
    refine ⟨fun m hm => ?_, fun z => by rw [hb] at z; cases z⟩
    rw [hb] at hm
    cases hm
    exact (x_next k0).trans ((if_skip (p_odd (decide_eq_false c1))).trans ((if_skip (p_long hl (decide_eq_false c2))).trans ((if_skip (p_var hl (decide_eq_false c3))).trans (if_ret (p_num hl (num_some hw) (decide_eq_true c4)) p_ret))))
  rw [if_neg c4] at hb
  refine ⟨fun m hm => (by rw [hb] at hm; cases hm), fun _ => ?_⟩
  have pre : exs (cf (n + 2)) (xcOf excs) bodyP (envP X d i w x4) st = exs (cf (n + 2)) (xcOf excs) [
    .ifs (.cmp .In (.var 3) (.lst [(.con (.str "(")), (.con (.str "{"))])) [
      .ifs (.cmp .Eq (.var 1) (.con (.int 12))) [
        .ret (.tup [(.var 2), (.con (.str "nested too deep"))])] [],
      .asg (.name 1) (.bin .Add (.var 1) (.con (.int 1)))] [],
    .ifs (.and_ (.cmp .In (.var 3) (.lst [(.con (.str ")")), (.con (.str "}"))])) (.cmp .Gt (.var 1) (.con (.int 0)))) [
      .asg (.name 1) (.bin .Sub (.var 1) (.con (.int 1)))] []] (envP X d i w (some (T (kd w)))) st :=
    (x_next k0).trans ((if_skip (p_odd (decide_eq_false c1))).trans ((if_skip (p_long hl (decide_eq_false c2))).trans ((if_skip (p_var hl (decide_eq_false c3))).trans (if_skip (p_num hl (num_some hw) (decide_eq_false c4))))))
  rw [pre]
  have to : tx "(" = [40] := by decide +kernel
  have tob : tx "{" = [123] := by decide +kernel
  have tc : tx ")" = [41] := by decide +kernel
  have tcb : tx "}" = [125] := by decide +kernel
  have e12 : ∀ b x, b = decide (d = 12) → (ev (cf (n + 2)) (.cmp .Eq (.var 1) (.con (.int 12)))).t (envP X d i w x) st = .ok b st := fun b x hb => by
    subst hb
    have : decide ((d : Int) = 12) = decide (d = 12) := by
      by_cases h : d = 12
      · rw [decide_eq_true h, decide_eq_true (by omega)]
      · rw [decide_eq_false h, decide_eq_false (by omega)]
    simp only [ev, Ev.mk1, Ev.mkT, R.bind, R.d, R.of, Bv.d, cmpB, eqB_int, this, List.getElem?_cons_succ, List.getElem?_cons_zero]
  refine ⟨fun ho hd => ?_, fun d' hd hd' => ?_⟩
  · exact if_ret (p_two to tob (decide_eq_true ho)) (if_ret (e12 true _ (by simp [hd])) p_ret)
  · have close : ∀ d1 : Nat, (w ∈ [[41], [125]] → d' = d1 - 1) → (w ∉ [[41], [125]] → d' = d1) → ∃ x', exs (cf (n + 2)) (xcOf excs) [.ifs (.and_ (.cmp .In (.var 3) (.lst [(.con (.str ")")), (.con (.str "}"))])) (.cmp .Gt (.var 1) (.con (.int 0)))) [
      .asg (.name 1) (.bin .Sub (.var 1) (.con (.int 1)))] []] (envP X d1 i w (some (T (kd w)))) st = .next (envP X d' i w x') st := fun d1 h1 h2 => by
      refine ⟨some (T (kd w)), ?_⟩
      have tt : ∀ r, decide (w ∈ [[41], [125]]) = r → (ev (cf (n + 2)) (.and_ (.cmp .In (.var 3) (.lst [(.con (.str ")")), (.con (.str "}"))])) (.cmp .Gt (.var 1) (.con (.int 0))))).t (envP X d1 i w (some (T (kd w)))) st = .ok (r && decide (0 < d1)) st := fun r hr => by
        have e1 := p_two (Φ := cf (n + 2)) (st := st) (X := X) (i := i) (d := d1) (w := w) (x4 := some (T (kd w))) tc tcb hr
        have e2 : (ev (cf (n + 2)) (.cmp .Gt (.var 1) (.con (.int 0)))).t (envP X d1 i w (some (T (kd w)))) st = .ok (decide (0 < d1)) st := by
          have : decide ((0 : Int) < (d1 : Int)) = decide (0 < d1) := by
            by_cases h : 0 < d1
            · rw [decide_eq_true h, decide_eq_true (by omega)]
            · rw [decide_eq_false h, decide_eq_false (by omega)]
          simp only [ev, Ev.mk1, Ev.mkT, R.bind, R.d, R.of, Bv.d, cmpB, ltB, this, List.getElem?_cons_succ, List.getElem?_cons_zero]
        generalize (.cmp .In (.var 3) (.lst [(.con (.str ")")), (.con (.str "}"))]) : E) = ea at e1 ⊢
        generalize (.cmp .Gt (.var 1) (.con (.int 0)) : E) = eb at e2 ⊢
        simp only [ev, Ev.mkT, R.bind, e1]
        cases r with
        | true => simp [e2]
        | false => simp
      by_cases h : w ∈ [[41], [125]]
      · by_cases h0 : 0 < d1
        · refine (if_next (st1 := st) (ρ' := envP X d' i w (some (T (kd w)))) (st2 := st) ((tt true (decide_eq_true h)).trans (by simp [h0])) ?_).trans x_nil
          have : (d1 : Int) - 1 = (d' : Int) := by have := h1 h; omega
          refine (x_next ?_).trans x_nil
          simp only [ex, ev, Ev.mk1, R.bind, R.d, R.of, Bv.d, subI, this, R.then_, bindT, List.getElem?_cons_succ, List.getElem?_cons_zero, List.set_cons_succ, List.set_cons_zero]
        · have e : d' = d1 := by have := h1 h; omega
          rw [e]
          exact (if_skip (st1 := st) ((tt true (decide_eq_true h)).trans (by simp [h0]))).trans x_nil
      · rw [h2 h]
        exact (if_skip (st1 := st) ((tt false (decide_eq_false h)).trans (by simp))).trans x_nil
    by_cases ho : w ∈ [[40], [123]]
    · rw [if_pos ho] at hd'
      have hc : w ∉ [[41], [125]] := fun h => by
        simp at ho h
        rcases ho with rfl | rfl <;> simp at h
      obtain ⟨x', e⟩ := close (d + 1) (fun h => absurd h hc) (fun _ => hd')
      refine ⟨x', (if_next (ρ' := envP X (d + 1) i w (some (T (kd w)))) (st2 := st) (p_two to tob (decide_eq_true ho)) ?_).trans e⟩
      refine (if_skip (e12 false _ (by simp [hd ho]))).trans ((x_next ?_).trans x_nil)
      have : (d : Int) + 1 = ((d + 1 : Nat) : Int) := by omega
      simp only [ex, ev, Ev.mk1, R.bind, R.d, R.of, Bv.d, addI, this, R.then_, bindT, List.getElem?_cons_succ, List.getElem?_cons_zero, List.set_cons_succ, List.set_cons_zero]
    · rw [if_neg ho] at hd'
      obtain ⟨x', e⟩ := close d (fun h => by rw [hd', if_pos h]) (fun h => by rw [hd', if_neg h])
      exact ⟨x', (if_skip (p_two to tob (decide_eq_false ho))).trans e⟩
end
end K70

set_option Elab.async false
set_option linter.all false
set_option maxRecDepth 100000
set_option autoImplicit false
/-! The law's problem as a whole; what is told; equality. -/
namespace K70
open Ip PySem
section
variable {n : Nat} {st : Store} {X : D} {its : Its}
def ProbEnd (X : D) (st : Store) (rs : RS) : Option (Nat × List Nat) → Prop
  | some (j, m) => rs = .ret (.tup [.int (j : Int), T m]) st
  | none => ∃ ρ, rs = .next ρ st
theorem prob_loop (hits : its.ok st = true) : ∀ (ws : List (List Nat)) (i d : Nat) (y2 y3 y4 : Option D), (∀ w ∈ ws, Word w ∧ w.length ≤ 13) →
    ProbEnd X st (forF its (fun d ρ st => match bindT st (.tup [(.name 2), (.name 3)]) d ρ with
        | some ρ' => exs (cf (n + 2)) (xcOf excs) bodyP ρ' st
        | none => .stuck) (Ip.numbered i (ws.map T)) [some X, some (.int (d : Int)), y2, y3, y4] st) (prob i d ws)
  | [], i, d, y2, y3, y4, h => by
    refine ⟨[some X, some (.int (d : Int)), y2, y3, y4], ?_⟩
    simp [forF, Ip.numbered, hits]
  | w :: ws, i, d, y2, y3, y4, h => by
    obtain ⟨hw, hl⟩ := h w List.mem_cons_self
    have hb : bindT st (.tup [(.name 2), (.name 3)]) (.tup [.int (i : Int), T w]) [some X, some (.int (d : Int)), y2, y3, y4] = some (envP X d i w y4) := by
      simp only [bindT, bindTs, sqOf]
      rfl
    obtain ⟨t1, t2⟩ := p_turn (n := n) (st := st) (X := X) (i := i) (d := d) (x4 := y4) hl hw
    have unf : forF its (fun d ρ st => match bindT st (.tup [(.name 2), (.name 3)]) d ρ with
        | some ρ' => exs (cf (n + 2)) (xcOf excs) bodyP ρ' st
        | none => .stuck) (Ip.numbered i ((w :: ws).map T)) [some X, some (.int (d : Int)), y2, y3, y4] st
      = (exs (cf (n + 2)) (xcOf excs) bodyP (envP X d i w y4) st).loop (forF its (fun d ρ st => match bindT st (.tup [(.name 2), (.name 3)]) d ρ with
        | some ρ' => exs (cf (n + 2)) (xcOf excs) bodyP ρ' st
        | none => .stuck) (Ip.numbered (i + 1) (ws.map T))) := by
      simp only [List.map_cons, Ip.numbered, forF, hits, if_true, hb]
    rw [unf]
    have hws : ∀ w ∈ ws, Word w ∧ w.length ≤ 13 := fun w hw => h w (List.mem_cons_of_mem _ hw)
    cases hbad : bad w with
    | some m =>
      rw [t1 m hbad]
      have : prob i d (w :: ws) = some (i, m) := by simp only [prob, hbad]
      rw [this]
      rfl
    | none =>
      obtain ⟨t3, t4⟩ := t2 hbad
      by_cases ho : w ∈ [[40], [123]]
      · by_cases hd : d = 12
        · rw [t3 ho hd]
          have : prob i d (w :: ws) = some (i, mDeep) := by simp only [prob, hbad, ho, hd, if_true]
          rw [this]
          rfl
        · obtain ⟨x', e⟩ := t4 (d + 1) (fun _ => hd) (by rw [if_pos ho])
          have : prob i d (w :: ws) = prob (i + 1) (d + 1) ws := by simp only [prob, hbad, ho, hd, if_true, if_false]
          rw [e, this]
          exact prob_loop hits ws (i + 1) (d + 1) _ _ _ hws
      · by_cases hc : w ∈ [[41], [125]]
        · obtain ⟨x', e⟩ := t4 (d - 1) (fun z => absurd z ho) (by rw [if_neg ho, if_pos hc])
          have : prob i d (w :: ws) = prob (i + 1) (d - 1) ws := by simp only [prob, hbad, ho, hc, if_true, if_false]
          rw [e, this]
          exact prob_loop hits ws (i + 1) (d - 1) _ _ _ hws
        · obtain ⟨x', e⟩ := t4 d (fun z => absurd z ho) (by rw [if_neg ho, if_neg hc])
          have : prob i d (w :: ws) = prob (i + 1) d ws := by simp only [prob, hbad, ho, hc, if_false]
          rw [e, this]
          exact prob_loop hits ws (i + 1) d _ _ _ hws
theorem problem_ok {W : List (List Nat)} (h : ∀ w ∈ W, Word w ∧ w.length ≤ 13) : cf (n + 3) "_law_problem" [.lst (W.map T)] st = .ok (probD (prob 0 0 W)) st := by
  rw [cf_succ tab_problem]
  have hits : (Its.mk (Ip.numbered 0 (W.map T)) []).ok st = true := rfl
  have lp := prob_loop (n := n) (X := .lst (W.map T)) hits W 0 0 none none none h
  have hi : evI (cf (n + 2)) (.enum (.var 0)) [some (.lst (W.map T)), some (.int 0), none, none, none] st = .ok ⟨Ip.numbered 0 (W.map T), []⟩ st := by
    simp [Df.run, exs, ex, ev, evs, evI, Ev.mk1, Ev.mkT, R.bind, R.d, R.of, R.ofS, Bv.d, R.then_, RS.seq, RS.loop, bindT, bindTs, truB, biOf_len, biOf_abs, biOf_max, biOf_int, biOf_list, biOf_all, biOf_tuple, mtOf_append, mtOf_join, mtOf_count, mtOf_rfind, arg1, arg2, biB, metB, recvB, cmpB, binB, List.replicate, enumOf, isLs, itsOf]
  have s1 : ex (cf (n + 2)) (xcOf excs) (.asg (.name 1) (.con (.int 0))) [some (.lst (W.map T)), none, none, none, none] st = .next [some (.lst (W.map T)), some (.int 0), none, none, none] st := by
    simp [Df.run, exs, ex, ev, evs, evI, Ev.mk1, Ev.mkT, R.bind, R.d, R.of, R.ofS, Bv.d, R.then_, RS.seq, RS.loop, bindT, bindTs, truB, biOf_len, biOf_abs, biOf_max, biOf_int, biOf_list, biOf_all, biOf_tuple, mtOf_append, mtOf_join, mtOf_count, mtOf_rfind, arg1, arg2, biB, metB, recvB, cmpB, binB, List.replicate]
  revert lp
  cases prob 0 0 W with
  | some p =>
    obtain ⟨j, m⟩ := p
    intro lp
    refine run_ret rfl rfl rfl ?_
    rw [problem_body]
    exact (x_next s1).trans (x_ret ((ex_for hi).trans lp))
  | none =>
    rintro ⟨ρ, lp⟩
    refine run_ret (d := .non) rfl rfl rfl ?_
    rw [problem_body]
    refine (x_next s1).trans ((x_next ((ex_for hi).trans lp)).trans (x_ret ?_))
    simp [Df.run, exs, ex, ev, evs, evI, Ev.mk1, Ev.mkT, R.bind, R.d, R.of, R.ofS, Bv.d, R.then_, RS.seq, RS.loop, bindT, bindTs, truB, biOf_len, biOf_abs, biOf_max, biOf_int, biOf_list, biOf_all, biOf_tuple, mtOf_append, mtOf_join, mtOf_count, mtOf_rfind, arg1, arg2, biB, metB, recvB, cmpB, binB, List.replicate]
theorem tab_told : tab "_law_told" = some df__law_told := rfl
theorem told_ok {t : List Nat} {r : D} (h : cf n "scan" [T t] st = .ok r st) (hr : r.okRef st.length = true) : cf (n + 1) "_law_told" [T t] st = .ok r st := by
  rw [cf_succ tab_told]
  refine run_ret rfl rfl hr (x_ret ?_)
  have : exs (cf n) (xcOf excs) [.ret (.call "scan" [(.var 0)])] [some (T t), none] st = .ret r st := by
    refine x_ret ?_
    simp only [ex, ev, evs, Ev.mk1, R.bind, R.d, R.of, Bv.d, h, R.then_, List.getElem?_cons_zero]
  show ex (cf n) (xcOf excs) (.try_ [.ret (.call "scan" [(.var 0)])] "TextError" 1 (.tup [(.fld "line"), (.fld "column"), (.fld "words")])) [some (T t), none] st = _
  rw [ex, this]
theorem told_exc {t m : List Nat} {l c : Int} (h : cf n "scan" [T t] st = .exc "TextError" [("line", .int l), ("column", .int c), ("words", T m)] st) : cf (n + 1) "_law_told" [T t] st = .ok (.tup [.int l, .int c, T m]) st := by
  rw [cf_succ tab_told]
  refine run_ret rfl rfl rfl (x_ret ?_)
  have : exs (cf n) (xcOf excs) [.ret (.call "scan" [(.var 0)])] [some (T t), none] st = .exc "TextError" [("line", .int l), ("column", .int c), ("words", T m)] [some (T t), none] st := by
    refine x_exc ?_
    simp only [ex, ev, evs, Ev.mk1, R.bind, R.d, R.of, Bv.d, h, R.then_, List.getElem?_cons_zero]
  show ex (cf n) (xcOf excs) (.try_ [.ret (.call "scan" [(.var 0)])] "TextError" 1 (.tup [(.fld "line"), (.fld "column"), (.fld "words")])) [some (T t), none] st = _
  rw [ex, this]
  have e : evSu [(Str.ofString "line", .int l), (Str.ofString "column", .int c), (Str.ofString "words", T m)] (.tup [(.fld "line"), (.fld "column"), (.fld "words")]) = some (.tup [.int l, .int c, T m]) := rfl
  simp only [e]
  rfl
end
end K70

set_option Elab.async false
set_option linter.all false
set_option maxRecDepth 100000
set_option autoImplicit false
/-! The law's equality. -/
namespace K70
open Ip PySem
theorem tab_equal : tab "_law_equal" = some df__law_equal := rfl
theorem tab_isint : tab "_law_is_integer" = some df__law_is_integer := rfl
/-- plain data of this depth -/
def Dp : Nat → D → Prop
  | 0, d => (∃ i, d = .int i) ∨ ∃ s, d = T s
  | m + 1, d => (∃ i, d = .int i) ∨ (∃ s, d = T s) ∨ ∃ xs : List D, (d = .tup xs ∨ d = .lst xs) ∧ xs.length ≤ 1000 ∧ ∀ x ∈ xs, Dp m x
section
variable {n : Nat} {st : Store}
theorem isint_ok {i : Int} : cf (n + 1) "_law_is_integer" [.int i] st = .ok (.bl true) st := by
  rw [cf_succ tab_isint]
  refine run_ret rfl rfl rfl (x_ret ?_)
  simp [Df.run, exs, ex, ev, evs, evI, Ev.mk1, Ev.mkT, R.bind, R.d, R.of, R.ofS, Bv.d, R.then_, RS.seq, RS.loop, bindT, bindTs, truB, biOf_len, biOf_abs, biOf_max, biOf_int, biOf_list, biOf_all, biOf_tuple, mtOf_append, mtOf_join, mtOf_count, mtOf_rfind, arg1, arg2, biB, metB, recvB, cmpB, binB, List.replicate, tyB, Ty.is]
theorem none_t {d : D} {x y : Option D} {b : Bool} (h : isNoneB st d = some b) {Φ : Fn} : (ev Φ (.cmp .Is (.var 1) (.con .non))).t [x, some d, y] st = .ok b st := by
  simp only [ev, Ev.mk1, Ev.mkT, R.bind, R.d, R.of, Bv.d, cmpB, h, List.getElem?_cons_succ, List.getElem?_cons_zero]
theorem isi_t {d : D} {x y : Option D} {u t : Ty} (h : tyB st d = some t) {Φ : Fn} : (ev Φ (.isi (.var 1) u)).t [x, some d, y] st = .ok (t.is u) st := by
  simp only [ev, Ev.mk1, R.bind, R.d, R.of, Bv.d, h, truB, List.getElem?_cons_succ, List.getElem?_cons_zero]
theorem two_t {d : D} {u t : Ty} (h : tyB st d = some t) {Φ : Fn} {y : Option D} : (ev Φ (.and_ (.isi (.var 1) u) (.not_ (.isi (.var 0) u)))).t [some d, some d, y] st = .ok false st := by
  simp only [ev, Ev.mk1, Ev.mkT, R.bind, R.d, R.of, Bv.d, h, truB, List.getElem?_cons_succ, List.getElem?_cons_zero]
  cases t.is u <;> rfl
theorem len_t {d : D} {k : Int} (h : lenB st d = some k) {Φ : Fn} {y : Option D} : (ev Φ (.cmp .NotEq (.bi "len" [(.var 0)]) (.bi "len" [(.var 1)]))).t [some d, some d, y] st = .ok false st := by
  simp only [ev, evs, Ev.mk1, Ev.mkT, R.bind, R.d, R.of, Bv.d, biOf_len, Option.bind_some, biB, arg1, h, Option.map_some, cmpB, eqB_int, decide_true, Bool.not_true, List.getElem?_cons_succ, List.getElem?_cons_zero]
theorem lc_true {t : Its} {f : D → Store → R (Option D)} {k : Nat} (hok : t.ok st = true) : ∀ (lo : Int) (acc : List D), (∀ j : Nat, j < k → f (.int (lo + j)) st = .ok (some (.bl true)) st) → acc.length + k < maxLen → lcF t f (upto lo k) acc st = .ok (acc ++ List.replicate k (.bl true)) st := by
  induction k with
  | zero => intro lo acc h hl; simp [lcF, upto, hok]
  | succ k ih =>
    intro lo acc h hl
    have h0 : f (.int lo) st = .ok (some (.bl true)) st := by
      have := h 0 (by omega)
      simpa using this
    have hi := ih (lo + 1) (acc ++ [D.bl true]) (fun j hj => by
      have := h (j + 1) (by omega)
      rw [show lo + 1 + (j : Int) = lo + ((j + 1 : Nat) : Int) by omega]; exact this) (by simp; omega)
    simp only [upto, lcF, hok, if_true, h0]
    rw [if_pos (by omega), hi, List.replicate_succ, List.append_assoc]
    rfl
theorem small_nat {k : Nat} (h : k ≤ 1000) : smallI (k : Int) = true := by
  unfold smallI
  have e : (2 : Int) ^ 62 = 4611686018427387904 := by rfl
  rw [e]
  generalize hz : (k : Int) = z
  have h1 : 0 ≤ z := by omega
  have h2 : z ≤ 1000 := by omega
  exact decide_eq_true ⟨by omega, by omega⟩
theorem rng1_nat {k : Nat} (h : k ≤ 1000) : rngOf [.int (k : Int)] = some (upto 0 k) := by
  show (if smallI (k : Int) = true then some (upto 0 (k : Int).toNat) else none) = _
  rw [if_pos (small_nat h), Int.toNat_natCast]
theorem rng1_ev {Φ : Fn} {e : E} {ρ : Ip.Env} {st st1 : Store} {d : D} {xs : List D} (h : ((ev Φ e).b ρ st).d = .ok d st1) (h2 : rngOf [d] = some xs) : evI Φ (.rng1 e) ρ st = .ok ⟨xs, []⟩ st1 := by
  simp only [evI, h, R.bind, h2, R.of]
theorem len_ev {Φ : Fn} {d : D} {x y : Option D} {st : Store} {k : Int} (h : lenB st d = some k) : ((ev Φ (.bi "len" [(.var 1)])).b [x, some d, y] st).d = .ok (.int k) st := by
  simp only [ev, evs, Ev.mk1, R.bind, R.d, R.of, Bv.d, biOf_len, Option.bind_some, biB, arg1, h, Option.map_some, List.getElem?_cons_succ, List.getElem?_cons_zero]
theorem bools_true : ∀ k : Nat, boolsB (List.replicate k (.bl true)) = some (List.replicate k true)
  | 0 => rfl
  | k + 1 => by rw [List.replicate_succ, boolsB, bools_true k]; rfl
theorem atom_ok (d : D) (n : Nat) (h : (∃ i, d = .int i) ∨ ∃ s, d = T s) : cf (n + 2) "_law_equal" [d, d] st = .ok (.bl true) st := by
  rw [cf_succ tab_equal]
  rcases h with ⟨i, rfl⟩ | ⟨s, rfl⟩
  · have e := isint_ok (n := n) (st := st) (i := i)
    have h1 : tyB st (.int i) = some .int := rfl
    refine run_ret rfl rfl rfl ((if_skip (none_t (b := false) rfl)).trans ((if_skip (isi_t h1)).trans (if_ret (isi_t h1) (x_ret ?_))))
    simp only [ex, ev, evs, Ev.mk1, Ev.mkT, R.bind, R.d, R.of, Bv.d, e, truB, if_true, cmpB, eqB_int, decide_true, R.then_, List.map_cons, List.map_nil, List.cons_append, List.nil_append, List.getElem?_cons_succ, List.getElem?_cons_zero]
  · have h1 : tyB st (T s) = some .str := rfl
    refine run_ret rfl rfl rfl ((if_skip (none_t (b := false) rfl)).trans ((if_skip (isi_t h1)).trans ((if_skip (isi_t h1)).trans (if_ret (isi_t h1) (x_ret ?_)))))
    have hs : Ty.is .str .str = true := rfl
    simp only [ex, ev, evs, Ev.mk1, Ev.mkT, R.bind, R.d, R.of, Bv.d, h1, hs, truB, if_true, cmpB, eqB_T, decide_true, R.then_, List.map_cons, List.map_nil, List.cons_append, List.nil_append, List.getElem?_cons_succ, List.getElem?_cons_zero]
theorem equal_ok : ∀ (m : Nat) (d : D) (n : Nat), Dp m d → cf (n + m + 2) "_law_equal" [d, d] st = .ok (.bl true) st := by
  intro m
  have atom := fun d n h => atom_ok (st := st) d n h
  induction m with
  | zero => exact fun d n h => atom d n h
  | succ m ih =>
    intro d n h
    rcases h with h | h | ⟨xs, hd, hl, hx⟩
    · exact atom d (n + (m + 1)) (.inl h)
    · exact atom d (n + (m + 1)) (.inr h)
    · have hix : ∀ j : Nat, ∀ x, xs[j]? = some x → idxB st d (.int (j : Int)) = some x := fun j x hj => by
        rcases hd with rfl | rfl
        · rw [idxB_tup]; exact hj
        · rw [idxB_lst]; exact hj
      have hlen : lenB st d = some (xs.length : Int) := by rcases hd with rfl | rfl <;> rfl
      have hnone : isNoneB st d = some false := by rcases hd with rfl | rfl <;> rfl
      obtain ⟨t, ht, t1, t2, t3⟩ : ∃ t, tyB st d = some t ∧ t.is .bool = false ∧ t.is .int = false ∧ t.is .str = false := by
        rcases hd with rfl | rfl
        · exact ⟨.tuple, rfl, rfl, rfl, rfl⟩
        · exact ⟨.list, rfl, rfl, rfl, rfl⟩
      rw [show n + (m + 1) + 2 = (n + m + 2) + 1 by omega, cf_succ tab_equal]
      have a1 := isi_t (x := some d) (y := none) (u := .bool) ht (Φ := cf (n + m + 2))
      have a2 := isi_t (x := some d) (y := none) (u := .int) ht (Φ := cf (n + m + 2))
      have a3 := isi_t (x := some d) (y := none) (u := .str) ht (Φ := cf (n + m + 2))
      rw [t1] at a1; rw [t2] at a2; rw [t3] at a3
      refine run_ret rfl rfl rfl ((if_skip (none_t hnone)).trans ((if_skip a1).trans ((if_skip a2).trans ((if_skip a3).trans ((if_skip (two_t ht)).trans ((if_skip (two_t ht)).trans ((if_skip (len_t hlen)).trans (x_ret ?_))))))))
      have hsm := rng1_nat hl
      have hev : evI (cf (n + m + 2)) (.rng1 (.bi "len" [(.var 1)])) [some d, some d, none] st = .ok ⟨upto 0 xs.length, []⟩ st := rng1_ev (len_ev hlen) hsm
      have hmx : ([] : List D).length + xs.length < maxLen := by
        show 0 + xs.length < 16777216
        omega
      have hbs : lsOf st (.lst ([] ++ List.replicate xs.length (.bl true))) = some (List.replicate xs.length (.bl true)) := rfl
      have hall : (List.replicate xs.length true).all id = true := by simp
      generalize hit : (.rng1 (.bi "len" [(.var 1)]) : Ip.It) = it at hev
      simp only [ex, ev, evs, Ev.mk1, R.bind, R.d, R.of]
      rw [hev]
      clear hsm hit
      generalize hk : xs.length = k at *
      simp only [R.bind]
      rw [lc_true (st := st) (t := ⟨upto 0 k, []⟩) (k := k) rfl 0 [] (fun j hj => by
        have hj' : j < xs.length := by omega
        have hg := hix j xs[j] (List.getElem?_eq_getElem hj')
        have he := ih xs[j] n (hx _ (List.getElem_mem hj'))
        simp only [Int.zero_add, bindT, wipeD, List.set_cons_succ, List.set_cons_zero, ev, evs, Ev.mk1, R.bind, R.d, R.of, Bv.d, hg, he, if_true, List.getElem?_cons_succ, List.getElem?_cons_zero]) hmx]
      simp only [R.bind, R.d, R.of, Bv.d, biOf_all, Option.bind_some, biB, arg1, hbs, bools_true, Option.map_some, hall, R.then_]
end
end K70

set_option Elab.async false
set_option linter.all false
set_option maxRecDepth 100000
set_option autoImplicit false
/-! The law's words. -/
namespace K70
open Ip PySem
theorem tab_tokens : tab "_law_tokens" = some df__law_tokens := rfl
section
variable {n : Nat} {ns : List Int} {rest : Store}
/-- a comprehension that draws k signs -/
theorem draw_loop {t : Its} {f : D → Store → R (Option D)} {cs : List Nat} {h : RestOk rest (rest.length + 1)}
    (hok : ∀ c k, t.ok (sS ns c k rest) = true)
    (hf : ∀ d c k, ∃ (x : Nat) (c' : Int) (k' : Nat), x ∈ cs ∧ f d (sS ns c k rest) = .ok (some (T [x])) (sS ns c' k' rest)) : ∀ (ds : List D) (acc : List Nat) (c : Int) (k : Nat), acc.length + ds.length < maxLen →
    ∃ (vs : List Nat) (c' : Int) (k' : Nat), vs.length = ds.length ∧ (∀ x ∈ vs, x ∈ cs) ∧ lcF t f ds (acc.map fun c => T [c]) (sS ns c k rest) = .ok ((acc ++ vs).map fun c => T [c]) (sS ns c' k' rest)
  | [], acc, c, k, hl => ⟨[], c, k, rfl, by simp, by simp [lcF, hok]⟩
  | d :: ds, acc, c, k, hl => by
    obtain ⟨x, c1, k1, hx, e⟩ := hf d c k
    obtain ⟨vs, c2, k2, h1, h2, h3⟩ := draw_loop (h := h) hok hf ds (acc ++ [x]) c1 k1 (by simp at hl ⊢; omega)
    refine ⟨x :: vs, c2, k2, by simp [h1], fun y hy => ?_, ?_⟩
    · rcases List.mem_cons.mp hy with rfl | hy
      · exact hx
      · exact h2 y hy
    · simp only [lcF, hok, if_true, e]
      rw [if_pos (by simp at hl ⊢; omega)]
      have : (acc.map fun c => T [c]) ++ [T [x]] = (acc ++ [x]).map fun c => T [c] := by simp
      rw [this, h3]
      simp
theorem strs_ok : ∀ vs : List Nat, strsB (vs.map fun c => T [c]) = some (vs.map fun c => ⟨[c].toArray⟩)
  | [] => rfl
  | v :: vs => by
    rw [List.map_cons, T, strsB, strs_ok vs]; rfl
theorem join_ok : ∀ vs : List Nat, Txt.join ⟨[].toArray⟩ (vs.map fun c => (⟨[c].toArray⟩ : Str)) = ⟨vs.toArray⟩ := by
  intro vs
  show PySem.Builtin.Str.glued _ _ = _
  rw [StrLaws.glued_eq_join]
  induction vs with
  | nil => rfl
  | cons v vs ih =>
    cases vs with
    | nil => rfl
    | cons v2 vs =>
      rw [List.map_cons, List.map_cons] at *
      show (⟨[v].toArray⟩ : Str) ++ ⟨[].toArray⟩ ++ Str.join _ _ = _
      rw [ih]
      show Str.mk ([v].toArray ++ #[] ++ (v2 :: vs).toArray) = _
      simp
theorem joinB {st : Store} (vs : List Nat) (h : vs.length ≤ 1000) : metB st .join (T []) [.lst (vs.map fun c => T [c])] = some (.val (T vs), st) := by
  have e : ((vs.map fun c => (⟨[c].toArray⟩ : Str)).map (·.length)).sum + (vs.map fun c => (⟨[c].toArray⟩ : Str)).length * (⟨[].toArray⟩ : Str).length ≤ 16777216 := by
    have h0 : (⟨[].toArray⟩ : Str).length = 0 := rfl
    have h1 : ∀ vs : List Nat, ((vs.map fun c => (⟨[c].toArray⟩ : Str)).map (·.length)).sum = vs.length := by
      intro vs
      induction vs with
      | nil => rfl
      | cons v vs ih => simp only [List.map_cons, List.sum_cons, ih, List.length_cons]; show 1 + vs.length = _; omega
    rw [h0, h1]; omega
  have hl : lsOf st (.lst (vs.map fun c => T [c])) = some (vs.map fun c => T [c]) := rfl
  have ha : asStr (T []) = some ⟨[].toArray⟩ := rfl
  simp only [metB, arg1, ha, hl, Option.bind_some, strs_ok, e, if_true, join_ok]
  rfl
/-- a drawn item: of a text, of a list -/
theorem draw_T {e : E} {m : Nat} {ρ : Ip.Env} {cs : List Nat} {c : Int} {k : Nat} (h : RestOk rest (rest.length + 1)) (hm : 0 < m) (hm2 : m < 1000) (hl : cs.length = m) (h0 : ρ[0]? = some (some (.ref 0))) (he : ((ev (cf (n + 1)) e).b ρ (sS ns c k rest)).d = .ok (T cs) (sS ns c k rest)) :
    ∃ (x : Nat) (c' : Int) (k' : Nat), x ∈ cs ∧ ((ev (cf (n + 1)) (.idx e (.call "_law_next" [(.var 0), (.con (.int (m : Int)))]))).b ρ (sS ns c k rest)).d = .ok (T [x]) (sS ns c' k' rest) := by
  obtain ⟨d, c', k', hd, e1⟩ := next_ok (n := n) (ns := ns) (c := c) (k := k) (rest := rest) (m := m) hm (by omega) h
  have hd' : d < cs.length := by omega
  refine ⟨cs[d], c', k', List.getElem_mem hd', ?_⟩
  have hi : idxB (sS ns c' k' rest) (T cs) (.int (d : Int)) = some (T [cs[d]]) := by
    rw [idxB_T (by unfold maxLen; omega), List.getElem?_eq_getElem hd']; rfl
  simp only [ev, evs, Ev.mk1] at he ⊢
  rw [he]
  simp only [R.bind, R.d, R.of, Bv.d, h0, e1, hi]
theorem draw_L {e : E} {m : Nat} {ρ : Ip.Env} {ls : List (List Nat)} {c : Int} {k : Nat} (h : RestOk rest (rest.length + 1)) (hm : 0 < m) (hm2 : m < 1000) (hl : ls.length = m) (h0 : ρ[0]? = some (some (.ref 0))) (he : ((ev (cf (n + 1)) e).b ρ (sS ns c k rest)).d = .ok (.lst (ls.map T)) (sS ns c k rest)) :
    ∃ (x : List Nat) (c' : Int) (k' : Nat), x ∈ ls ∧ ((ev (cf (n + 1)) (.idx e (.call "_law_next" [(.var 0), (.con (.int (m : Int)))]))).b ρ (sS ns c k rest)).d = .ok (T x) (sS ns c' k' rest) := by
  obtain ⟨d, c', k', hd, e1⟩ := next_ok (n := n) (ns := ns) (c := c) (k := k) (rest := rest) (m := m) hm (by omega) h
  have hd' : d < ls.length := by omega
  refine ⟨ls[d], c', k', List.getElem_mem hd', ?_⟩
  have hi : idxB (sS ns c' k' rest) (.lst (ls.map T)) (.int (d : Int)) = some (T ls[d]) := by
    rw [idxB_lst, List.getElem?_map, List.getElem?_eq_getElem hd']; rfl
  simp only [ev, evs, Ev.mk1] at he ⊢
  rw [he]
  simp only [R.bind, R.d, R.of, Bv.d, h0, e1, hi]
end
end K70

set_option Elab.async false
set_option linter.all false
set_option maxRecDepth 100000
set_option autoImplicit false
/-! The law's words: a turn. -/
namespace K70
open Ip PySem
section
variable {n : Nat} {ns : List Int} {rest : Store} {c : Int} {k : Nat}
abbrev nextE (m : Nat) : E := .call "_law_next" [(.var 0), (.con (.int (m : Int)))]
/-- [.. for _law_at in range(..)], its items drawn from a text -/
theorem lc_T {e eN : E} {m kk : Nat} {ρ : Ip.Env} {cs : List Nat} {st : Store} (h : RestOk rest (rest.length + 1)) (hm : 0 < m) (hm2 : m < 1000) (hl : cs.length = m) (h0 : ρ[0]? = some (some (.ref 0)))
    (hN : ((ev (cf (n + 1)) eN).b ρ st).d = .ok (.int (kk : Int)) (sS ns c k rest)) (hk : kk ≤ 1000)
    (he : ∀ d c k, ((ev (cf (n + 1)) e).b ((ρ.set 8 none).set 8 (some d)) (sS ns c k rest)).d = .ok (T cs) (sS ns c k rest)) :
    ∃ (vs : List Nat) (c' : Int) (k' : Nat), vs.length = kk ∧ (∀ x ∈ vs, x ∈ cs) ∧ (ev (cf (n + 1)) (.lc [("_law_at", 8)] (.name 8) (.rng1 eN) .no (.idx e (nextE m)))).b ρ st = .ok (.new (.lst (vs.map fun c => T [c]))) (sS ns c' k' rest) := by
  have hI : evI (cf (n + 1)) (.rng1 eN) ρ st = .ok ⟨upto 0 kk, []⟩ (sS ns c k rest) := rng1_ev hN (rng1_nat hk)
  have hul : (upto 0 kk).length = kk := upto_len
  have h0' : ∀ d : D, ((ρ.set 8 none).set 8 (some d))[0]? = some (some (.ref 0)) := fun d => by
    rw [List.getElem?_set_ne (by omega), List.getElem?_set_ne (by omega)]; exact h0
  generalize hit : (.rng1 eN : Ip.It) = it at hI ⊢
  generalize hu : upto 0 kk = u at *
  obtain ⟨vs, c', k', h1, h2, h3⟩ := draw_loop (t := ⟨u, []⟩) (cs := cs) (ns := ns) (rest := rest) (f := fun d st => match bindT st (.name 8) d (wipeD ρ [("_law_at", 8)]) with
      | some ρ1 => ((ev (cf (n + 1)) .no).t ρ1 st).bind fun c st => if c then (((ev (cf (n + 1)) (.idx e (nextE m))).b ρ1 st).d).bind fun y st => .ok (some y) st else .ok none st
      | none => .stuck) (h := h) (fun _ _ => rfl) (fun d c k => by
    obtain ⟨x, c1, k1, hx, ex⟩ := draw_T (n := n) (ns := ns) (rest := rest) (c := c) (k := k) (m := m) (e := e) (cs := cs) (ρ := (ρ.set 8 none).set 8 (some d)) h hm hm2 hl (h0' d) (he d c k)
    refine ⟨x, c1, k1, hx, ?_⟩
    generalize (.idx e (nextE m) : E) = ee at ex ⊢
    simp only [bindT, wipeD, ev, R.bind, if_true, ex]) u [] c k (by simp; unfold maxLen; omega)
  refine ⟨vs, c', k', h1.trans hul, h2, ?_⟩
  generalize (.idx e (nextE m) : E) = ee at h3 ⊢
  simp only [List.map_nil, List.nil_append] at h3
  have e1 : (ev (cf (n + 1)) (.lc [("_law_at", 8)] (.name 8) it .no ee)).b ρ st = (evI (cf (n + 1)) it ρ st).bind fun t st => (lcF t (fun d st => match bindT st (.name 8) d (wipeD ρ [("_law_at", 8)]) with
      | some ρ1 => ((ev (cf (n + 1)) .no).t ρ1 st).bind fun c st => if c then (((ev (cf (n + 1)) ee).b ρ1 st).d).bind fun y st => .ok (some y) st else .ok none st
      | none => .stuck) t.items [] st).bind fun ys st => .ok (Bv.new (.lst ys)) st := by
    rw [ev]
    rfl
  rw [e1, hI]
  show R.bind (lcF ⟨u, []⟩ _ u [] (sS ns c k rest)) _ = _
  rw [h3]
  rfl
theorem app_next {e : E} {ρ : Ip.Env} {acc : List D} {y : D} {c' : Int} {k' : Nat} (h4 : ρ[4]? = some (some (.ref 1))) (ha : acc.length < maxLen) (he : ((ev (cf (n + 1)) e).b ρ (sS ns c k [.lst acc])).d = .ok y (sS ns c' k' [.lst acc])) :
    ex (cf (n + 1)) (xcOf excs) (.ex (.met "append" (.var 4) [e])) ρ (sS ns c k [.lst acc]) = .next ρ (sS ns c' k' [.lst (acc ++ [y])]) := by
  have rc : recvB (sS ns c k [.lst acc]) .append (.ref 1) = some .append := rfl
  have ap : metB (sS ns c' k' [.lst acc]) .append (.ref 1) [y] = some (.val .non, sS ns c' k' [.lst (acc ++ [y])]) := by
    show (if acc.length < maxLen then _ else _) = _
    rw [if_pos ha]; rfl
  have he2 : evs (cf (n + 1)) [e] ρ (sS ns c k [.lst acc]) = .ok [y] (sS ns c' k' [.lst acc]) := by
    simp only [evs, he, R.bind]
  simp only [ex, ev, Ev.mk1, R.bind, R.d, R.of, R.ofS, Bv.d, h4, mtOf_append, Option.bind_some, rc, he2, ap, R.then_]
end
end K70

set_option Elab.async false
set_option linter.all false
set_option maxRecDepth 100000
set_option autoImplicit false
/-! The law's words: every turn gives one. -/
namespace K70
open Ip PySem
def bodyK : List S := [
    .asg (.name 6) (.call "_law_next" [(.var 0), (.con (.int 6))]),
    .ifs (.cmp .Lt (.var 6) (.con (.int 2))) [
      .ex (.met "append" (.var 4) [(.idx (.var 1) (.call "_law_next" [(.var 0), (.con (.int 15))]))])] [
      .ifs (.cmp .Eq (.var 6) (.con (.int 2))) [
        .ex (.met "append" (.var 4) [(.idx (.call "_law_reserved" []) (.call "_law_next" [(.var 0), (.con (.int 12))]))])] [
        .ifs (.cmp .Eq (.var 6) (.con (.int 3))) [
          .ex (.met "append" (.var 4) [(.idx (.lst [(.con (.str "0")), (.con (.str "7")), (.con (.str "1000")), (.con (.str "0999")), (.con (.str "12")), (.con (.str "0000"))]) (.call "_law_next" [(.var 0), (.con (.int 6))]))])] [
          .ifs (.cmp .Eq (.var 6) (.con (.int 4))) [
            .ex (.met "append" (.var 4) [(.bin .Add (.con (.str "?")) (.met "join" (.con (.str "")) [(.lc [("_law_at", 8)] (.name 8) (.rng1 (.bin .Add (.con (.int 1)) (.call "_law_next" [(.var 0), (.con (.int 8))]))) .no (.idx (.bin .Add (.var 2) (.var 3)) (.call "_law_next" [(.var 0), (.con (.int 36))])))]))])] [
            .asg (.name 7) (.lc [("_law_at", 8)] (.name 8) (.rng1 (.call "_law_next" [(.var 0), (.con (.int 12))])) .no (.idx (.bin .Add (.bin .Add (.var 2) (.var 3)) (.con (.str "_"))) (.call "_law_next" [(.var 0), (.con (.int 37))]))),
            .ex (.met "append" (.var 4) [(.bin .Add (.idx (.var 2) (.call "_law_next" [(.var 0), (.con (.int 26))])) (.met "join" (.con (.str "")) [(.var 7)]))])]]]]]
abbrev envK (x5 x6 x7 x8 : Option D) : Ip.Env := [some (.ref 0), some (.lst (sgns.map T)), some (T small), some (T digs), some (.ref 1), x5, x6, x7, x8]
section
variable {n : Nat} {ns : List Int} {c : Int} {k : Nat}
theorem k_pick {m : Nat} {b : Bool} {Φ : Fn} {st : Store} {x5 x7 x8 : Option D} {pick : Nat} (hb : decide (pick = m) = b) : (ev Φ (.cmp .Eq (.var 6) (.con (.int (m : Int))))).t (envK x5 (some (.int (pick : Int))) x7 x8) st = .ok b st := by
  subst hb
  have : decide ((pick : Int) = (m : Int)) = decide (pick = m) := by
    by_cases h : pick = m
    · rw [decide_eq_true h, decide_eq_true (by omega)]
    · rw [decide_eq_false h, decide_eq_false (by omega)]
  simp only [ev, Ev.mk1, Ev.mkT, R.bind, R.d, R.of, Bv.d, cmpB, eqB_int, this, List.getElem?_cons_succ, List.getElem?_cons_zero]
theorem join_ev {Φ : Fn} {e : E} {ρ : Ip.Env} {st st1 : Store} {vs : List Nat} (he : ((ev Φ e).b ρ st).d = .ok (.lst (vs.map fun c => T [c])) st1) (hv : vs.length ≤ 1000) : ((ev Φ (.met "join" (.con (.str "")) [e])).b ρ st).d = .ok (T vs) st1 := by
  have k3 : D.str (Str.ofString "") = T [] := tx_T ""
  have rc : recvB st .join (T []) = some .join := rfl
  have he2 : evs Φ [e] ρ st = .ok [.lst (vs.map fun c => T [c])] st1 := by simp only [evs, he, R.bind]
  simp only [ev, Ev.mk1, R.bind, R.d, R.of, R.ofS, Bv.d, k3, mtOf_join, Option.bind_some, rc, he2, joinB vs hv]
theorem add_ev {Φ : Fn} {e1 e2 : E} {ρ : Ip.Env} {st st1 st2 : Store} {x y z : D} (h1 : ((ev Φ e1).b ρ st).d = .ok x st1) (h2 : ((ev Φ e2).b ρ st1).d = .ok y st2) (h3 : binB st2 .Add x y = some (.val z)) : ((ev Φ (.bin .Add e1 e2)).b ρ st).d = .ok z st2 := by
  have e : (ev Φ (.bin .Add e1 e2)).b ρ st = (((ev Φ e1).b ρ st).d).bind fun x st => (((ev Φ e2).b ρ st).d).bind fun y st => R.of (binB st .Add x y) st := by
    rw [ev]; rfl
  rw [e, h1]
  show R.d ((((ev Φ e2).b ρ st1).d).bind fun y st => R.of (binB st .Add x y) st) = _
  rw [h2]
  show R.d (R.of (binB st2 .Add x y) st2) = _
  rw [h3]
  rfl
theorem var_ev {Φ : Fn} {i : Nat} {ρ : Ip.Env} {st : Store} {x : D} (h : ρ[i]? = some (some x)) : ((ev Φ (.var i)).b ρ st).d = .ok x st := by
  simp only [ev, Ev.mk1, h, R.d, R.bind, R.of, Bv.d]
theorem con_ev {Φ : Fn} {ρ : Ip.Env} {st : Store} {x : D} : ((ev Φ (.con x)).b ρ st).d = .ok x st := by
  simp only [ev, Ev.mk1, R.d, R.bind, R.of, Bv.d]
theorem call_ev {Φ : Fn} {f : Str} {es : List E} {ρ : Ip.Env} {st st1 st2 : Store} {ds : List D} {x : D} (h1 : evs Φ es ρ st = .ok ds st1) (h2 : Φ f ds st1 = .ok x st2) : ((ev Φ (.call f es)).b ρ st).d = .ok x st2 := by
  simp only [ev, Ev.mk1, h1, R.bind, h2, R.of, R.d, Bv.d]
theorem next_args {Φ : Fn} {m : Nat} {ρ : Ip.Env} {st : Store} (h0 : ρ[0]? = some (some (.ref 0))) : evs Φ [(.var 0), (.con (.int (m : Int)))] ρ st = .ok [.ref 0, .int (m : Int)] st := by
  simp only [evs, var_ev h0, con_ev, R.bind]
theorem k_turn {acc : List D} {x5 x6 x7 x8 : Option D} (ha : acc.length < maxLen) (hacc : okRefs 2 acc = true) : ∃ (w : List Nat) (c' : Int) (k' : Nat) (y6 y7 y8 : Option D), Word w ∧ w.length ≤ 13 ∧ exs (cf (n + 2)) (xcOf excs) bodyK (envK x5 x6 x7 x8) (sS ns c k [.lst acc]) = .next (envK x5 y6 y7 y8) (sS ns c' k' [.lst (acc ++ [T w])]) := by
  have hr : RestOk [.lst acc] (([.lst acc] : Store).length + 1) := rest1 hacc
  obtain ⟨pick, c1, k1, hp, e1⟩ := next_ok (n := n + 1) (ns := ns) (c := c) (k := k) (rest := [.lst acc]) (m := 6) (by omega) (by omega) hr
  have e1 : cf (n + 2) "_law_next" [.ref 0, .int 6] (sS ns c k [.lst acc]) = .ok (.int (pick : Int)) (sS ns c1 k1 [.lst acc]) := e1
  have s1 : ex (cf (n + 2)) (xcOf excs) (.asg (.name 6) (.call "_law_next" [(.var 0), (.con (.int 6))])) (envK x5 x6 x7 x8) (sS ns c k [.lst acc]) = .next (envK x5 (some (.int (pick : Int))) x7 x8) (sS ns c1 k1 [.lst acc]) := by
    simp only [ex, ev, evs, Ev.mk1, R.bind, R.d, R.of, Bv.d, e1, R.then_, bindT, List.getElem?_cons_succ, List.getElem?_cons_zero, List.set_cons_succ, List.set_cons_zero]
  have lt2 : ∀ b, decide (pick < 2) = b → (ev (cf (n + 2)) (.cmp .Lt (.var 6) (.con (.int 2)))).t (envK x5 (some (.int (pick : Int))) x7 x8) (sS ns c1 k1 [.lst acc]) = .ok b (sS ns c1 k1 [.lst acc]) := fun b hb => by
    subst hb
    have : decide ((pick : Int) < 2) = decide (pick < 2) := by
      by_cases h : pick < 2
      · rw [decide_eq_true h, decide_eq_true (by omega)]
      · rw [decide_eq_false h, decide_eq_false (by omega)]
    simp only [ev, Ev.mk1, Ev.mkT, R.bind, R.d, R.of, Bv.d, cmpB, ltB, this, List.getElem?_cons_succ, List.getElem?_cons_zero]
  have hsg : ∀ w ∈ sgns, w.length ≤ 13 := by decide
  have hrs : ∀ w ∈ resv, w.length ≤ 13 := by decide +kernel
  have hnm : ∀ w ∈ nums, w.length ≤ 13 := by decide +kernel
  by_cases p1 : pick < 2
  · obtain ⟨w, c2, k2, hw, e2⟩ := draw_L (n := n + 1) (ns := ns) (rest := [.lst acc]) (c := c1) (k := k1) (m := 15) (ls := sgns) (e := .var 1) (ρ := envK x5 (some (.int (pick : Int))) x7 x8) hr (by omega) (by omega) rfl rfl (by simp only [ev, Ev.mk1, R.d, R.bind, R.of, Bv.d, List.getElem?_cons_succ, List.getElem?_cons_zero])
    exact ⟨w, c2, k2, _, x7, x8, .sgn hw, hsg w hw, (x_next s1).trans ((if_next (lt2 true (decide_eq_true p1)) ((x_next (app_next rfl ha e2)).trans x_nil)).trans x_nil)⟩
  by_cases p2 : pick = 2
  · obtain ⟨w, c2, k2, hw, e2⟩ := draw_L (n := n + 1) (ns := ns) (rest := [.lst acc]) (c := c1) (k := k1) (m := 12) (ls := resv) (e := .call "_law_reserved" []) (ρ := envK x5 (some (.int (pick : Int))) x7 x8) hr (by omega) (by omega) rfl rfl (by
      have := reserved_ok (n := n + 1) (st := sS ns c1 k1 [.lst acc])
      simp only [ev, evs, Ev.mk1, R.d, R.bind, R.of, Bv.d, this])
    exact ⟨w, c2, k2, _, x7, x8, .res hw, hrs w hw, (x_next s1).trans ((else_next (lt2 false (decide_eq_false p1)) ((if_next (k_pick (m := 2) (decide_eq_true p2)) ((x_next (app_next rfl ha e2)).trans x_nil)).trans x_nil)).trans x_nil)⟩
  by_cases p3 : pick = 3
  · obtain ⟨w, c2, k2, hw, e2⟩ := draw_L (n := n + 1) (ns := ns) (rest := [.lst acc]) (c := c1) (k := k1) (m := 6) (ls := nums) (e := .lst [(.con (.str "0")), (.con (.str "7")), (.con (.str "1000")), (.con (.str "0999")), (.con (.str "12")), (.con (.str "0000"))]) (ρ := envK x5 (some (.int (pick : Int))) x7 x8) hr (by omega) (by omega) rfl rfl (by
      simp only [ev, evs, Ev.mk1, R.d, R.bind, R.of, Bv.d, tx_T, List.length_cons, List.length_nil]
      rw [if_pos (by unfold maxLen; omega)]
      rfl)
    exact ⟨w, c2, k2, _, x7, x8, .num hw, hnm w hw, (x_next s1).trans ((else_next (lt2 false (decide_eq_false p1)) ((else_next (k_pick (m := 2) (decide_eq_false p2)) ((if_next (k_pick (m := 3) (decide_eq_true p3)) ((x_next (app_next rfl ha e2)).trans x_nil)).trans x_nil)).trans x_nil)).trans x_nil)⟩
  by_cases p4 : pick = 4
  · obtain ⟨d, c2, k2, hd, e2⟩ := next_ok (n := n + 1) (ns := ns) (c := c1) (k := k1) (rest := [.lst acc]) (m := 8) (by omega) (by omega) hr
    have hN : ((ev (cf (n + 2)) (.bin .Add (.con (.int 1)) (nextE 8))).b (envK x5 (some (.int (pick : Int))) x7 x8) (sS ns c1 k1 [.lst acc])).d = .ok (.int ((1 + d : Nat) : Int)) (sS ns c2 k2 [.lst acc]) :=
      add_ev con_ev (call_ev (next_args rfl) e2) (by rw [addI]; rfl)
    obtain ⟨vs, c3, k3, h1, h2, h3⟩ := lc_T (n := n + 1) (ns := ns) (rest := [.lst acc]) (c := c2) (k := k2) (m := 36) (cs := varCs) (e := .bin .Add (.var 2) (.var 3)) hr (by omega) (by omega) rfl rfl hN (by omega) (fun d c k => add_ev (var_ev (x := T small) rfl) (var_ev (x := T digs) rfl) (addT (by decide)))
    have hJ := join_ev (vs := vs) (e := .lc [("_law_at", 8)] (.name 8) (.rng1 (.bin .Add (.con (.int 1)) (nextE 8))) .no (.idx (.bin .Add (.var 2) (.var 3)) (nextE 36))) (by rw [h3]; rfl) (by omega)
    have hA : ((ev (cf (n + 2)) (.bin .Add (.con (.str "?")) (.met "join" (.con (.str "")) [(.lc [("_law_at", 8)] (.name 8) (.rng1 (.bin .Add (.con (.int 1)) (nextE 8))) .no (.idx (.bin .Add (.var 2) (.var 3)) (nextE 36)))]))).b (envK x5 (some (.int (pick : Int))) x7 x8) (sS ns c1 k1 [.lst acc])).d = .ok (T (63 :: vs)) (sS ns c3 k3 [.lst acc]) :=
      add_ev (x := T [63]) (by rw [show D.str (Str.ofString "?") = T [63] from tx_T "?"]; exact con_ev) hJ (addT (a := [63]) (by simp; unfold maxLen; omega))
    exact ⟨63 :: vs, c3, k3, _, x7, x8, .var (fun e => by subst e; simp at h1; omega) (by omega) h2, by simp; omega, (x_next s1).trans ((else_next (lt2 false (decide_eq_false p1)) ((else_next (k_pick (m := 2) (decide_eq_false p2)) ((else_next (k_pick (m := 3) (decide_eq_false p3)) ((if_next (k_pick (m := 4) (decide_eq_true p4)) ((x_next (app_next rfl ha hA)).trans x_nil)).trans x_nil)).trans x_nil)).trans x_nil)).trans x_nil)⟩
  obtain ⟨d, c2, k2, hd, e2⟩ := next_ok (n := n + 1) (ns := ns) (c := c1) (k := k1) (rest := [.lst acc]) (m := 12) (by omega) (by omega) hr
  have hN : ((ev (cf (n + 2)) (nextE 12)).b (envK x5 (some (.int (pick : Int))) x7 x8) (sS ns c1 k1 [.lst acc])).d = .ok (.int (d : Int)) (sS ns c2 k2 [.lst acc]) := call_ev (next_args rfl) e2
  have k1' : D.str (Str.ofString "_") = T [95] := tx_T "_"
  obtain ⟨vs, c3, k3, h1, h2, h3⟩ := lc_T (n := n + 1) (ns := ns) (rest := [.lst acc]) (c := c2) (k := k2) (m := 37) (cs := nameCs) (e := .bin .Add (.bin .Add (.var 2) (.var 3)) (.con (.str "_"))) hr (by omega) (by omega) rfl rfl hN (by omega) (fun d c k => add_ev (x := T varCs) (add_ev (var_ev (x := T small) rfl) (var_ev (x := T digs) rfl) (addT (by decide))) (by rw [k1']; exact con_ev) (addT (by decide)))
  have s2 : ex (cf (n + 2)) (xcOf excs) (.asg (.name 7) (.lc [("_law_at", 8)] (.name 8) (.rng1 (nextE 12)) .no (.idx (.bin .Add (.bin .Add (.var 2) (.var 3)) (.con (.str "_"))) (nextE 37)))) (envK x5 (some (.int (pick : Int))) x7 x8) (sS ns c1 k1 [.lst acc])
      = .next (envK x5 (some (.int (pick : Int))) (some (.lst (vs.map fun c => T [c]))) x8) (sS ns c3 k3 [.lst acc]) := by
    generalize (.lc [("_law_at", 8)] (.name 8) (.rng1 (nextE 12)) .no (.idx (.bin .Add (.bin .Add (.var 2) (.var 3)) (.con (.str "_"))) (nextE 37)) : E) = ee at h3 ⊢
    simp only [ex, h3, R.d, R.bind, R.of, Bv.d, R.then_, bindT, List.set_cons_succ, List.set_cons_zero]
  obtain ⟨c0, c4, k4, hc0, e4⟩ := draw_T (n := n + 1) (ns := ns) (rest := [.lst acc]) (c := c3) (k := k3) (m := 26) (cs := small) (e := .var 2) (ρ := envK x5 (some (.int (pick : Int))) (some (.lst (vs.map fun c => T [c]))) x8) hr (by omega) (by omega) rfl rfl (var_ev (x := T small) rfl)
  have hJ := join_ev (Φ := cf (n + 2)) (vs := vs) (e := .var 7) (ρ := envK x5 (some (.int (pick : Int))) (some (.lst (vs.map fun c => T [c]))) x8) (st := sS ns c4 k4 [.lst acc]) (var_ev rfl) (by omega)
  have hA := add_ev e4 hJ (addT (st := sS ns c4 k4 [.lst acc]) (a := [c0]) (b := vs) (by simp; unfold maxLen; omega))
  exact ⟨c0 :: vs, c4, k4, _, _, x8, .name hc0 (by omega) h2, by simp; omega, (x_next s1).trans ((else_next (lt2 false (decide_eq_false p1)) ((else_next (k_pick (m := 2) (decide_eq_false p2)) ((else_next (k_pick (m := 3) (decide_eq_false p3)) ((else_next (k_pick (m := 4) (decide_eq_false p4)) ((x_next s2).trans ((x_next (app_next rfl ha hA)).trans x_nil))).trans x_nil)).trans x_nil)).trans x_nil)).trans x_nil)⟩
end
end K70

set_option Elab.async false
set_option linter.all false
set_option maxRecDepth 100000
set_option autoImplicit false
/-! The law's words as a whole. -/
namespace K70
open Ip PySem
theorem tokens_body : df__law_tokens.body = [
  .asg (.name 1) (.lst [(.con (.str "{")), (.con (.str "}")), (.con (.str "(")), (.con (.str ")")), (.con (.str ".")), (.con (.str ",")), (.con (.str ":")), (.con (.str "=")), (.con (.str "<")), (.con (.str "<=")), (.con (.str ">")), (.con (.str ">=")), (.con (.str "+")), (.con (.str "-")), (.con (.str "*"))]),
  .asg (.name 2) (.con (.str "abcdefghijklmnopqrstuvwxyz")),
  .asg (.name 3) (.con (.str "0123456789")),
  .asg (.name 4) (.mt (.lst [])),
  .for_ (.name 5) (.rng1 (.call "_law_next" [(.var 0), (.con (.int 21))])) bodyK,
  .ret (.var 4)] := rfl
theorem Word.ne {w : List Nat} (h : Word w) : w ≠ [] := by
  cases h with
  | sgn h => intro e; subst e; exact absurd h (by decide)
  | res h => intro e; subst e; exact absurd h (by decide +kernel)
  | num h => intro e; subst e; exact absurd h (by decide +kernel)
  | var _ _ _ => simp
  | name _ _ _ => simp
  | odd1 h => intro e; subst e; exact absurd h (by decide +kernel)
  | odd2 h => intro e; subst e; exact absurd h (by decide +kernel)
theorem words_ok {L : Nat} : ∀ W : List (List Nat), okRefs L (W.map T) = true
  | [] => rfl
  | w :: W => by simp only [List.map_cons, okRefs, words_ok W, Bool.and_true]; rfl
section
variable {n : Nat} {ns : List Int}
theorem k_loop {its : Its} (hits : ∀ st, its.ok st = true) : ∀ (ds : List D) (W : List (List Nat)) (c : Int) (k : Nat) (x5 x6 x7 x8 : Option D), W.length + ds.length < maxLen → ∃ (V : List (List Nat)) (c' : Int) (k' : Nat) (y5 y6 y7 y8 : Option D), V.length = ds.length ∧ (∀ w ∈ V, Word w ∧ w.length ≤ 13) ∧
    forF its (fun d ρ st => match bindT st (.name 5) d ρ with
      | some ρ' => exs (cf (n + 2)) (xcOf excs) bodyK ρ' st
      | none => .stuck) ds (envK x5 x6 x7 x8) (sS ns c k [.lst (W.map T)]) = .next (envK y5 y6 y7 y8) (sS ns c' k' [.lst ((W ++ V).map T)])
  | [], W, c, k, x5, x6, x7, x8, hl => ⟨[], c, k, x5, x6, x7, x8, rfl, by simp, by simp [forF, hits]⟩
  | d :: ds, W, c, k, x5, x6, x7, x8, hl => by
    obtain ⟨w, c1, k1, y6, y7, y8, hw, hwl, e⟩ := k_turn (n := n) (ns := ns) (c := c) (k := k) (acc := W.map T) (x5 := some d) (x6 := x6) (x7 := x7) (x8 := x8) (by simp at hl ⊢; omega) (words_ok W)
    obtain ⟨V, c2, k2, z5, z6, z7, z8, h1, h2, h3⟩ := k_loop hits ds (W ++ [w]) c1 k1 (some d) y6 y7 y8 (by simp at hl ⊢; omega)
    refine ⟨w :: V, c2, k2, z5, z6, z7, z8, by simp [h1], fun v hv => ?_, ?_⟩
    · rcases List.mem_cons.mp hv with rfl | hv
      · exact ⟨hw, hwl⟩
      · exact h2 v hv
    · have hb : bindT (sS ns c k [.lst (W.map T)]) (.name 5) d (envK x5 x6 x7 x8) = some (envK (some d) x6 x7 x8) := rfl
      have em : W.map T ++ [T w] = (W ++ [w]).map T := by simp
      rw [em] at e
      simp only [forF, hits, if_true, hb, e, RS.loop, h3]
      simp
theorem tokens_ok {c : Int} {k : Nat} : ∃ (W : List (List Nat)) (c' : Int) (k' : Nat), W.length ≤ 20 ∧ (∀ w ∈ W, Word w ∧ w.length ≤ 13) ∧ cf (n + 3) "_law_tokens" [.ref 0] (sS ns c k []) = .ok (.lst (W.map T)) (sS ns c' k' []) := by
  obtain ⟨d, c1, k1, hd, e1⟩ := next_ok (n := n + 1) (ns := ns) (c := c) (k := k) (rest := [.lst []]) (m := 21) (by omega) (by omega) (rest1 rfl)
  obtain ⟨V, c2, k2, y5, y6, y7, y8, h1, h2, h3⟩ := k_loop (n := n) (ns := ns) (its := ⟨upto 0 d, []⟩) (fun _ => rfl) (upto 0 d) [] c1 k1 none none none none (by rw [upto_len]; simp; unfold maxLen; omega)
  rw [upto_len] at h1
  refine ⟨V, c2, k2, by omega, h2, ?_⟩
  rw [cf_succ tab_tokens]
  have es : tx "abcdefghijklmnopqrstuvwxyz" = small := by decide +kernel
  have ed : tx "0123456789" = digs := by decide +kernel
  have b : exs (cf (n + 2)) (xcOf excs) df__law_tokens.body [some (.ref 0), none, none, none, none, none, none, none, none] (sS ns c k []) = .ret (.ref 1) (sS ns c2 k2 [.lst (V.map T)]) := by
    rw [tokens_body]
    refine (x_next (ρ' := [some (.ref 0), some (.lst (sgns.map T)), none, none, none, none, none, none, none]) (st1 := sS ns c k []) ?_).trans ?_
    · simp only [ex, ev, evs, Ev.mk1, R.d, R.bind, R.of, Bv.d, tx_T, List.length_cons, List.length_nil]
      rw [if_pos (by unfold maxLen; omega)]
      rfl
    refine (x_next (ρ' := [some (.ref 0), some (.lst (sgns.map T)), some (T small), none, none, none, none, none, none]) (st1 := sS ns c k []) ?_).trans ?_
    · simp only [ex, con_ev, R.then_, bindT, tx_T, es]; rfl
    refine (x_next (ρ' := [some (.ref 0), some (.lst (sgns.map T)), some (T small), some (T digs), none, none, none, none, none]) (st1 := sS ns c k []) ?_).trans ?_
    · simp only [ex, con_ev, R.then_, bindT, tx_T, ed]; rfl
    refine (x_next (ρ' := envK none none none none) (st1 := sS ns c k [.lst []]) ?_).trans ?_
    · simp [Df.run, exs, ex, ev, evs, evI, Ev.mk1, Ev.mkT, R.bind, R.d, R.of, R.ofS, Bv.d, R.then_, RS.seq, RS.loop, bindT, bindTs, truB, biOf_len, biOf_abs, biOf_max, biOf_int, biOf_list, biOf_all, biOf_tuple, mtOf_append, mtOf_join, mtOf_count, mtOf_rfind, arg1, arg2, biB, metB, recvB, cmpB, binB, List.replicate, live, maxLen]
    refine (x_next (ρ' := envK y5 y6 y7 y8) (st1 := sS ns c2 k2 [.lst (V.map T)]) ?_).trans (x_ret ?_)
    · have hi : evI (cf (n + 2)) (.rng1 (.call "_law_next" [(.var 0), (.con (.int 21))])) (envK none none none none) (sS ns c k [.lst []]) = .ok ⟨upto 0 d, []⟩ (sS ns c1 k1 [.lst []]) := rng1_ev (call_ev (next_args (m := 21) rfl) e1) (rng1_nat (by omega))
      exact (ex_for hi).trans h3
    · simp only [ex, var_ev (x := .ref 1) (i := 4) (ρ := envK y5 y6 y7 y8) rfl, R.then_]
  refine (run_ret' rfl b).trans ?_
  have ho : oldOk (sS ns c k []) (sS ns c2 k2 [.lst (V.map T)]) = true := by
    unfold oldOk
    rw [Bool.or_eq_true]
    right
    show ([sO ns c2 k2] : List O).all _ = true
    simp [sO_ok]
  have hfin : fin (sS ns c2 k2 [.lst (V.map T)]) (sS ns c k []).length (.ref 1) = some (.lst (V.map T)) := by
    show (if decide (1 < 1) = true then _ else _) = _
    rw [if_neg (by decide)]
    show (fins _ _ _).map _ = _
    rw [fins_self (words_ok V)]
    rfl
  rw [show df__law_tokens.keep = false from rfl]
  simp only [close, Bool.false_eq_true, if_false, ho, if_true, hfin]
  rfl
end
end K70

set_option Elab.async false
set_option linter.all false
set_option maxRecDepth 100000
set_option autoImplicit false
/-! The law's spoiling. -/
namespace K70
open Ip PySem
theorem tab_spoilt : tab "_law_spoilt" = some df__law_spoilt := rfl
def odds : List (List Nat) := odd1 ++ odd2
theorem cat_ev {Φ : Fn} {e1 e2 : E} {ρ : Ip.Env} {st st1 st2 : Store} {x y : List D} (h1 : ((ev Φ e1).b ρ st).d = .ok (.lst x) st1) (h2 : ((ev Φ e2).b ρ st1).d = .ok (.lst y) st2) (h3 : x.length + y.length ≤ maxLen) : ((ev Φ (.bin .Add e1 e2)).b ρ st).d = .ok (.lst (x ++ y)) st2 := by
  have e : (ev Φ (.bin .Add e1 e2)).b ρ st = (((ev Φ e1).b ρ st).d).bind fun x st => (((ev Φ e2).b ρ st).d).bind fun y st => R.of (binB st .Add x y) st := by
    rw [ev]; rfl
  have ec : binB st2 .Add (.lst x) (.lst y) = some (.new (.lst (x ++ y))) := by
    show (if x.length + y.length ≤ maxLen then _ else _) = _
    rw [if_pos h3]
  rw [e, h1]
  show R.d ((((ev Φ e2).b ρ st1).d).bind fun y st => R.of (binB st .Add (.lst x) y) st) = _
  rw [h2]
  show R.d (R.of (binB st2 .Add (.lst x) (.lst y)) st2) = _
  rw [ec]
  rfl
section
variable {n : Nat} {ns : List Int} {c : Int} {k : Nat} {W : List (List Nat)}
theorem sl_to {Φ : Fn} {i j : Nat} {ρ : Ip.Env} {st : Store} {a : Nat} (h1 : ρ[i]? = some (some (.lst (W.map T)))) (h2 : ρ[j]? = some (some (.int (a : Int)))) : ((ev Φ (.slc (.var i) .no (.var j))).b ρ st).d = .ok (.lst ((W.take a).map T)) st := by
  simp only [ev, Ev.mk1, h1, h2, R.bind, R.d, R.of, Bv.d, partB, slcB_lst_to, List.map_take]
theorem sl_from {Φ : Fn} {i j : Nat} {ρ : Ip.Env} {st : Store} {a : Nat} (h1 : ρ[i]? = some (some (.lst (W.map T)))) (h2 : ρ[j]? = some (some (.int (a : Int)))) : ((ev Φ (.slc (.var i) (.var j) .no)).b ρ st).d = .ok (.lst ((W.drop a).map T)) st := by
  simp only [ev, Ev.mk1, h1, h2, R.bind, R.d, R.of, Bv.d, partB, slcB_lst_from, List.map_drop]
theorem odd_word : ∀ w ∈ odds, Word w ∧ w.length ≤ 13 := by
  have h13 : ∀ w ∈ odds, w.length ≤ 13 := by decide +kernel
  intro w hw
  refine ⟨?_, h13 w hw⟩
  rcases List.mem_append.mp hw with h | h
  · exact .odd1 h
  · exact .odd2 h
theorem br_loop {t : Its} {f : D → Store → R (Option D)} (hok : ∀ c k, t.ok (sS ns c k []) = true)
    (hf : ∀ d c k, ∃ (x : List Nat) (c' : Int) (k' : Nat), x ∈ ([[40], [123]] : List (List Nat)) ∧ f d (sS ns c k []) = .ok (some (T x)) (sS ns c' k' [])) : ∀ (ds : List D) (acc : List (List Nat)) (c : Int) (k : Nat), acc.length + ds.length < maxLen →
    ∃ (vs : List (List Nat)) (c' : Int) (k' : Nat), vs.length = ds.length ∧ (∀ x ∈ vs, x ∈ ([[40], [123]] : List (List Nat))) ∧ lcF t f ds (acc.map T) (sS ns c k []) = .ok ((acc ++ vs).map T) (sS ns c' k' [])
  | [], acc, c, k, hl => ⟨[], c, k, rfl, by simp, by simp [lcF, hok]⟩
  | d :: ds, acc, c, k, hl => by
    obtain ⟨x, c1, k1, hx, e⟩ := hf d c k
    obtain ⟨vs, c2, k2, h1, h2, h3⟩ := br_loop hok hf ds (acc ++ [x]) c1 k1 (by simp at hl ⊢; omega)
    refine ⟨x :: vs, c2, k2, by simp [h1], fun y hy => ?_, ?_⟩
    · rcases List.mem_cons.mp hy with rfl | hy
      · exact hx
      · exact h2 y hy
    · simp only [lcF, hok, if_true, e]
      rw [if_pos (by simp at hl ⊢; omega)]
      have : acc.map T ++ [T x] = (acc ++ [x]).map T := by simp
      rw [this, h3]
      simp
theorem lst1_ev {Φ : Fn} {e : E} {ρ : Ip.Env} {st st1 : Store} {x : D} (h : ((ev Φ e).b ρ st).d = .ok x st1) : ((ev Φ (.lst [e])).b ρ st).d = .ok (.lst [x]) st1 := by
  have h2 : evs Φ [e] ρ st = .ok [x] st1 := by simp only [evs, h, R.bind]
  simp only [ev, Ev.mk1, h2, R.bind]
  rfl
theorem lc_br {kk : Nat} {ρ : Ip.Env} (h0 : ρ[0]? = some (some (.ref 0))) (h4 : ρ[4]? = some (some (.int (kk : Int)))) (hk : kk ≤ 1000) :
    ∃ (vs : List (List Nat)) (c' : Int) (k' : Nat), vs.length = kk ∧ (∀ x ∈ vs, x ∈ ([[40], [123]] : List (List Nat))) ∧ ((ev (cf (n + 1)) (.lc [("_law_turn", 5)] (.name 5) (.rng1 (.var 4)) .no (.idx (.lst [(.con (.str "(")), (.con (.str "{"))]) (nextE 2)))).b ρ (sS ns c k [])).d = .ok (.lst (vs.map T)) (sS ns c' k' []) := by
  have hI : evI (cf (n + 1)) (.rng1 (.var 4)) ρ (sS ns c k []) = .ok ⟨upto 0 kk, []⟩ (sS ns c k []) := rng1_ev (var_ev h4) (rng1_nat hk)
  have hul : (upto 0 kk).length = kk := upto_len
  have h0' : ∀ d : D, ((ρ.set 5 none).set 5 (some d))[0]? = some (some (.ref 0)) := fun d => by
    rw [List.getElem?_set_ne (by omega), List.getElem?_set_ne (by omega)]; exact h0
  generalize hit : (.rng1 (.var 4) : Ip.It) = it at hI ⊢
  generalize hu : upto 0 kk = u at *
  obtain ⟨vs, c', k', h1, h2, h3⟩ := br_loop (t := ⟨u, []⟩) (ns := ns) (f := fun d st => match bindT st (.name 5) d (wipeD ρ [("_law_turn", 5)]) with
      | some ρ1 => ((ev (cf (n + 1)) .no).t ρ1 st).bind fun c st => if c then (((ev (cf (n + 1)) (.idx (.lst [(.con (.str "(")), (.con (.str "{"))]) (nextE 2))).b ρ1 st).d).bind fun y st => .ok (some y) st else .ok none st
      | none => .stuck) (fun _ _ => rfl) (fun d c k => by
    obtain ⟨x, c1, k1, hx, ex⟩ := draw_L (n := n) (ns := ns) (rest := []) (c := c) (k := k) (m := 2) (e := .lst [(.con (.str "(")), (.con (.str "{"))]) (ls := [[40], [123]]) (ρ := (ρ.set 5 none).set 5 (some d)) (fun o h => nomatch h) (by omega) (by omega) rfl (h0' d) (by
      simp only [ev, evs, Ev.mk1, R.d, R.bind, R.of, Bv.d, tx_T, List.length_cons, List.length_nil]
      rw [if_pos (by unfold maxLen; omega)]
      rfl)
    refine ⟨x, c1, k1, hx, ?_⟩
    generalize (.idx (.lst [(.con (.str "(")), (.con (.str "{"))]) (nextE 2) : E) = ee at ex ⊢
    simp only [bindT, wipeD, ev, R.bind, if_true, ex]) u [] c k (by simp; unfold maxLen; omega)
  refine ⟨vs, c', k', h1.trans hul, h2, ?_⟩
  generalize (.idx (.lst [(.con (.str "(")), (.con (.str "{"))]) (nextE 2) : E) = ee at h3 ⊢
  simp only [List.map_nil, List.nil_append] at h3
  have e1 : (ev (cf (n + 1)) (.lc [("_law_turn", 5)] (.name 5) it .no ee)).b ρ (sS ns c k []) = (evI (cf (n + 1)) it ρ (sS ns c k [])).bind fun t st => (lcF t (fun d st => match bindT st (.name 5) d (wipeD ρ [("_law_turn", 5)]) with
      | some ρ1 => ((ev (cf (n + 1)) .no).t ρ1 st).bind fun c st => if c then (((ev (cf (n + 1)) ee).b ρ1 st).d).bind fun y st => .ok (some y) st else .ok none st
      | none => .stuck) t.items [] st).bind fun ys st => .ok (Bv.new (.lst ys)) st := by
    rw [ev]
    rfl
  rw [e1, hI]
  show R.d (R.bind (lcF ⟨u, []⟩ _ u [] (sS ns c k [])) _) = _
  rw [h3]
  rfl
theorem evs2 {Φ : Fn} {e1 e2 : E} {ρ : Ip.Env} {st st1 st2 : Store} {x y : D} (h1 : ((ev Φ e1).b ρ st).d = .ok x st1) (h2 : ((ev Φ e2).b ρ st1).d = .ok y st2) : evs Φ [e1, e2] ρ st = .ok [x, y] st2 := by
  simp only [evs, h1, h2, R.bind]
theorem blen_ev {Φ : Fn} {e : E} {ρ : Ip.Env} {st st1 : Store} {d : D} {k : Int} (h1 : ((ev Φ e).b ρ st).d = .ok d st1) (h : lenB st1 d = some k) : ((ev Φ (.bi "len" [e])).b ρ st).d = .ok (.int k) st1 := by
  have h2 : evs Φ [e] ρ st = .ok [d] st1 := by simp only [evs, h1, R.bind]
  simp only [ev, Ev.mk1, R.bind, R.d, R.of, Bv.d, h2, biOf_len, Option.bind_some, biB, arg1, h, Option.map_some]
theorem spoilt_body : df__law_spoilt.body = [
  .asg (.name 2) (.call "_law_next" [(.var 0), (.bin .Add (.bi "len" [(.var 1)]) (.con (.int 1)))]),
  .asg (.name 3) (.lst [(.con (.str "A")), (.con (.str "_")), (.con (.str "!")), (.con (.str "$")), (.con (.str "&")), (.con (.str ";")), (.con (.str "[")), (.con (.str "@")), (.con (.str "^")), (.con (.str "~")), (.con (.str "'")), (.con (.str "/")), (.con (.str "?")), (.con (.str "abcdefghi_klm")), (.con (.str "?23456789a")), (.con (.str "1001")), (.con (.str "00001")), (.con (.str "99999"))]),
  .ifs (.cmp .Gt (nextE 3) (.con (.int 0))) [
    .ret (.bin .Add (.bin .Add (.slc (.var 1) .no (.var 2)) (.lst [(.idx (.var 3) (nextE 18))])) (.slc (.var 1) (.var 2) .no))] [],
  .asg (.name 4) (.bin .Add (.con (.int 10)) (nextE 6)),
  .ret (.bin .Add (.bin .Add (.slc (.var 1) .no (.var 2)) (.lc [("_law_turn", 5)] (.name 5) (.rng1 (.var 4)) .no (.idx (.lst [(.con (.str "(")), (.con (.str "{"))]) (nextE 2)))) (.slc (.var 1) (.var 2) .no))] := rfl
theorem asg_ok {Φ : Fn} {xc : XC} {i : Nat} {e : E} {ρ : Ip.Env} {st st1 : Store} {x : D} (h : ((ev Φ e).b ρ st).d = .ok x st1) : ex Φ xc (.asg (.name i) e) ρ st = .next (ρ.set i (some x)) st1 := by
  simp only [ex, h, R.then_, bindT]
theorem ret_ok {Φ : Fn} {xc : XC} {e : E} {ρ : Ip.Env} {st st1 : Store} {x : D} (h : ((ev Φ e).b ρ st).d = .ok x st1) : ex Φ xc (.ret e) ρ st = .ret x st1 := by
  simp only [ex, h, R.then_]
theorem gt_ev {Φ : Fn} {e1 e2 : E} {ρ : Ip.Env} {st st1 st2 : Store} {i j : Int} {b : Bool} (h1 : ((ev Φ e1).b ρ st).d = .ok (.int i) st1) (h2 : ((ev Φ e2).b ρ st1).d = .ok (.int j) st2) (hb : decide (j < i) = b) : (ev Φ (.cmp .Gt e1 e2)).t ρ st = .ok b st2 := by
  subst hb
  simp only [ev, Ev.mkT, h1, h2, R.bind, cmpB, ltB, R.of]
theorem spoilt_ok (hW : W.length ≤ 20) (hw : ∀ w ∈ W, Word w ∧ w.length ≤ 13) : ∃ (V : List (List Nat)) (c' : Int) (k' : Nat), V.length ≤ 35 ∧ (∀ w ∈ V, Word w ∧ w.length ≤ 13) ∧ cf (n + 2) "_law_spoilt" [.ref 0, .lst (W.map T)] (sS ns c k []) = .ok (.lst (V.map T)) (sS ns c' k' []) := by
  have r0 : RestOk [] (([] : Store).length + 1) := fun o h => nomatch h
  obtain ⟨a, c1, k1, ha, e1⟩ := next_ok (n := n) (ns := ns) (c := c) (k := k) (rest := []) (m := W.length + 1) (by omega) (by omega) r0
  obtain ⟨d2, c2, k2, hd2, e2⟩ := next_ok (n := n) (ns := ns) (c := c1) (k := k1) (rest := []) (m := 3) (by omega) (by omega) r0
  have hln : lenB (sS ns c k []) (.lst (W.map T)) = some (W.length : Int) := by
    show some ((W.map T).length : Int) = _
    rw [List.length_map]
  have s1 : ex (cf (n + 1)) (xcOf excs) (.asg (.name 2) (.call "_law_next" [(.var 0), (.bin .Add (.bi "len" [(.var 1)]) (.con (.int 1)))])) [some (.ref 0), some (.lst (W.map T)), none, none, none, none] (sS ns c k [])
      = .next [some (.ref 0), some (.lst (W.map T)), some (.int (a : Int)), none, none, none] (sS ns c1 k1 []) := by
    have ea : (W.length : Int) + 1 = ((W.length + 1 : Nat) : Int) := by omega
    refine asg_ok (call_ev (ds := [.ref 0, .int ((W.length + 1 : Nat) : Int)]) (st1 := sS ns c k []) ?_ e1)
    rw [← ea]
    exact evs2 (var_ev rfl) (add_ev (blen_ev (var_ev rfl) hln) con_ev addI)
  have s2 : ex (cf (n + 1)) (xcOf excs) (.asg (.name 3) (.lst [(.con (.str "A")), (.con (.str "_")), (.con (.str "!")), (.con (.str "$")), (.con (.str "&")), (.con (.str ";")), (.con (.str "[")), (.con (.str "@")), (.con (.str "^")), (.con (.str "~")), (.con (.str "'")), (.con (.str "/")), (.con (.str "?")), (.con (.str "abcdefghi_klm")), (.con (.str "?23456789a")), (.con (.str "1001")), (.con (.str "00001")), (.con (.str "99999"))])) [some (.ref 0), some (.lst (W.map T)), some (.int (a : Int)), none, none, none] (sS ns c1 k1 [])
      = .next [some (.ref 0), some (.lst (W.map T)), some (.int (a : Int)), some (.lst (odds.map T)), none, none] (sS ns c1 k1 []) := by
    simp only [ex, ev, evs, Ev.mk1, R.d, R.bind, R.of, Bv.d, tx_T, List.length_cons, List.length_nil]
    rw [if_pos (by unfold maxLen; omega)]
    rfl
  have hpre : ∀ (X : List (List Nat)), (∀ x ∈ X, Word x ∧ x.length ≤ 13) → ∀ w ∈ W.take a ++ X ++ W.drop a, Word w ∧ w.length ≤ 13 := fun X hX w h => by
    have h' : w ∈ W.take a ∨ w ∈ X ∨ w ∈ W.drop a := by simpa [List.mem_append] using h
    rcases h' with h | h | h
    · exact hw w (List.mem_of_mem_take h)
    · exact hX w h
    · exact hw w (List.mem_of_mem_drop h)
  have hadd : (W.take a).length + (W.drop a).length = W.length := by simp; omega
  have fin : ∀ {V : List (List Nat)} {c' : Int} {k' : Nat}, exs (cf (n + 1)) (xcOf excs) df__law_spoilt.body [some (.ref 0), some (.lst (W.map T)), none, none, none, none] (sS ns c k []) = .ret (.lst (V.map T)) (sS ns c' k' []) → cf (n + 2) "_law_spoilt" [.ref 0, .lst (W.map T)] (sS ns c k []) = .ok (.lst (V.map T)) (sS ns c' k' []) := fun {V c' k'} b => by
    rw [cf_succ tab_spoilt]
    refine (run_ret' rfl b).trans ?_
    exact close_s r0 (words_ok V)
  by_cases hz : 0 < d2
  · have t1 : (ev (cf (n + 1)) (.cmp .Gt (nextE 3) (.con (.int 0)))).t [some (.ref 0), some (.lst (W.map T)), some (.int (a : Int)), some (.lst (odds.map T)), none, none] (sS ns c1 k1 []) = .ok true (sS ns c2 k2 []) :=
      gt_ev (call_ev (next_args rfl) e2) con_ev (decide_eq_true (by omega))
    obtain ⟨w, c3, k3, hx, e3⟩ := draw_L (n := n) (ns := ns) (rest := []) (c := c2) (k := k2) (m := 18) (ls := odds) (e := .var 3) (ρ := [some (.ref 0), some (.lst (W.map T)), some (.int (a : Int)), some (.lst (odds.map T)), none, none]) r0 (by omega) (by omega) (by decide +kernel) rfl (var_ev rfl)
    refine ⟨W.take a ++ [w] ++ W.drop a, c3, k3, by simp; omega, hpre [w] (fun x h => by rw [List.mem_singleton.mp h]; exact odd_word w hx), fin ?_⟩
    rw [spoilt_body]
    refine (x_next s1).trans ((x_next s2).trans (if_ret t1 (x_ret (ret_ok ?_))))
    have hc := cat_ev (cat_ev (sl_to (Φ := cf (n + 1)) (st := sS ns c2 k2 []) (W := W) (i := 1) (j := 2) (a := a) (ρ := [some (.ref 0), some (.lst (W.map T)), some (.int (a : Int)), some (.lst (odds.map T)), none, none]) rfl rfl) (lst1_ev e3) (by simp; unfold maxLen; omega)) (sl_from (Φ := cf (n + 1)) (st := sS ns c3 k3 []) (W := W) (i := 1) (j := 2) (a := a) (ρ := [some (.ref 0), some (.lst (W.map T)), some (.int (a : Int)), some (.lst (odds.map T)), none, none]) rfl rfl) (by simp; unfold maxLen; omega)
    rw [hc]
    simp
  · have t1 : (ev (cf (n + 1)) (.cmp .Gt (nextE 3) (.con (.int 0)))).t [some (.ref 0), some (.lst (W.map T)), some (.int (a : Int)), some (.lst (odds.map T)), none, none] (sS ns c1 k1 []) = .ok false (sS ns c2 k2 []) :=
      gt_ev (call_ev (next_args rfl) e2) con_ev (decide_eq_false (by omega))
    obtain ⟨d3, c3, k3, hd3, e3⟩ := next_ok (n := n) (ns := ns) (c := c2) (k := k2) (rest := []) (m := 6) (by omega) (by omega) r0
    have s4 : ex (cf (n + 1)) (xcOf excs) (.asg (.name 4) (.bin .Add (.con (.int 10)) (nextE 6))) [some (.ref 0), some (.lst (W.map T)), some (.int (a : Int)), some (.lst (odds.map T)), none, none] (sS ns c2 k2 [])
        = .next [some (.ref 0), some (.lst (W.map T)), some (.int (a : Int)), some (.lst (odds.map T)), some (.int ((10 + d3 : Nat) : Int)), none] (sS ns c3 k3 []) := by
      have ea : (10 : Int) + (d3 : Int) = ((10 + d3 : Nat) : Int) := by omega
      rw [← ea]
      exact asg_ok (add_ev con_ev (call_ev (next_args rfl) e3) addI)
    obtain ⟨vs, c4, k4, h1, h2, h3⟩ := lc_br (n := n) (ns := ns) (c := c3) (k := k3) (kk := 10 + d3) (ρ := [some (.ref 0), some (.lst (W.map T)), some (.int (a : Int)), some (.lst (odds.map T)), some (.int ((10 + d3 : Nat) : Int)), none]) rfl rfl (by omega)
    have hb : ∀ x ∈ vs, Word x ∧ x.length ≤ 13 := fun x h => by
      have := h2 x h
      simp at this
      rcases this with rfl | rfl
      · exact ⟨.sgn (by decide), by decide⟩
      · exact ⟨.sgn (by decide), by decide⟩
    refine ⟨W.take a ++ vs ++ W.drop a, c4, k4, by simp; omega, hpre vs hb, fin ?_⟩
    rw [spoilt_body]
    refine (x_next s1).trans ((x_next s2).trans ((if_skip t1).trans ((x_next s4).trans (x_ret (ret_ok ?_)))))
    have hc := cat_ev (cat_ev (sl_to (Φ := cf (n + 1)) (st := sS ns c3 k3 []) (W := W) (i := 1) (j := 2) (a := a) (ρ := [some (.ref 0), some (.lst (W.map T)), some (.int (a : Int)), some (.lst (odds.map T)), some (.int ((10 + d3 : Nat) : Int)), none]) rfl rfl) h3 (by simp; unfold maxLen; omega)) (sl_from (Φ := cf (n + 1)) (st := sS ns c4 k4 []) (W := W) (i := 1) (j := 2) (a := a) (ρ := [some (.ref 0), some (.lst (W.map T)), some (.int (a : Int)), some (.lst (odds.map T)), some (.int ((10 + d3 : Nat) : Int)), none]) rfl rfl) (by simp; unfold maxLen; omega)
    rw [hc]
    simp
end
end K70

set_option Elab.async false
set_option linter.all false
set_option maxRecDepth 100000
set_option autoImplicit false
/-! The plain law: what scan is to tell is what the law says. -/
namespace K70
open Ip PySem
theorem kd_br : ∀ w ∈ ([[40], [123], [41], [125]] : List (List Nat)), kd w = kSign := by decide +kernel
theorem deep_eq {w : List Nat} {d : Nat} : deep (kd w) w d = if w ∈ [[40], [123]] then (if d = 12 then none else some (d + 1)) else if w ∈ [[41], [125]] then some (d - 1) else some d := by
  unfold deep
  by_cases h1 : w ∈ [[40], [123]]
  · have hk : kd w = kSign := kd_br w (by simp at h1 ⊢; rcases h1 with h | h <;> simp [h])
    rw [if_pos ⟨hk, h1⟩, if_pos h1]
  · rw [if_neg (fun h => h1 h.2), if_neg h1]
    by_cases h2 : w ∈ [[41], [125]]
    · have hk : kd w = kSign := kd_br w (by simp at h2 ⊢; rcases h2 with h | h <;> simp [h])
      rw [if_pos ⟨hk, h2⟩, if_pos h2]
    · rw [if_neg (fun h => h2 h.2), if_neg h2]
/-- the tokens, as the law tells them -/
def toksOf (p : List Nat) : List (List Nat × List Nat) → List D
  | [] => []
  | (w, g) :: l => tokD (kd w) w (ln p) (col p) :: toksOf (p ++ w ++ g) l
def Agree (p : List Nat) (d i : Nat) (acc : List D) (l : List (List Nat × List Nat)) : Option (Nat × List Nat) → Prop
  | some (j, m) => ∃ (e : Err) (q : List Nat), exp p d acc l = .error e ∧ e.l = ln q ∧ e.c = col q ∧ e.m = m ∧ i ≤ j ∧ (placesOf p l)[j - i]? = some (plc q)
  | none => exp p d acc l = .ok (acc ++ toksOf p l)
theorem agree_step {p w g : List Nat} {d d' i : Nat} {acc : List D} {l : List (List Nat × List Nat)} {z : Option (Nat × List Nat)} (hb : bad w = none) (hd : deep (kd w) w d = some d')
    (h : Agree (p ++ w ++ g) d' (i + 1) (acc ++ [tokD (kd w) w (ln p) (col p)]) l z) : Agree p d i acc ((w, g) :: l) z := by
  have he : exp p d acc ((w, g) :: l) = exp (p ++ w ++ g) d' (acc ++ [tokD (kd w) w (ln p) (col p)]) l := by simp only [exp, hb, hd]
  cases z with
  | none =>
    have h' : exp (p ++ w ++ g) d' (acc ++ [tokD (kd w) w (ln p) (col p)]) l = .ok (acc ++ [tokD (kd w) w (ln p) (col p)] ++ toksOf (p ++ w ++ g) l) := h
    show exp p d acc ((w, g) :: l) = .ok (acc ++ toksOf p ((w, g) :: l))
    rw [he, h']
    simp [toksOf]
  | some jm =>
    obtain ⟨j, m⟩ := jm
    obtain ⟨e, q, h1, h2, h3, h4, h5, h6⟩ := h
    refine ⟨e, q, he.trans h1, h2, h3, h4, by omega, ?_⟩
    rw [show j - i = (j - (i + 1)) + 1 by omega]
    simpa [placesOf] using h6
theorem agree : ∀ (l : List (List Nat × List Nat)) (p : List Nat) (d i : Nat) (acc : List D), Agree p d i acc l (prob i d (l.map (·.1)))
  | [], p, d, i, acc => by
    show exp p d acc [] = .ok (acc ++ toksOf p [])
    simp [exp, toksOf]
  | (w, g) :: l, p, d, i, acc => by
    simp only [List.map_cons, prob]
    have hde := deep_eq (w := w) (d := d)
    cases hb : bad w with
    | some m =>
      refine ⟨⟨ln p, col p, m⟩, p, by simp only [exp, hb], rfl, rfl, rfl, Nat.le_refl _, ?_⟩
      simp [placesOf]
    | none =>
      simp only
      by_cases h1 : w ∈ [[40], [123]]
      · rw [if_pos h1] at hde ⊢
        by_cases h12 : d = 12
        · rw [if_pos h12] at hde ⊢
          refine ⟨⟨ln p, col p, mDeep⟩, p, by simp only [exp, hb, hde], rfl, rfl, rfl, Nat.le_refl _, ?_⟩
          simp [placesOf]
        · rw [if_neg h12] at hde ⊢
          exact agree_step hb hde (agree l _ _ _ _)
      · rw [if_neg h1] at hde ⊢
        by_cases h2 : w ∈ [[41], [125]]
        · rw [if_pos h2] at hde ⊢
          exact agree_step hb hde (agree l _ _ _ _)
        · rw [if_neg h2] at hde ⊢
          exact agree_step hb hde (agree l _ _ _ _)
/-- the last comment changes no line -/
theorem ln_tail {p : List Nat} : ∀ {t : List Nat}, 10 ∉ t → ln (p ++ t) = ln p := fun {t} h => by
  unfold ln
  rw [List.count_append, List.count_eq_zero_of_not_mem h]
  rfl
theorem bg_tail {p : List Nat} : ∀ (t : List Nat), 10 ∉ t → bg (p ++ t) = bg p := by
  have key : ∀ q : List Nat, 10 ∉ q.reverse → bg (p ++ q.reverse) = bg p := by
    intro q
    induction q with
    | nil => intro _; simp
    | cons c q ih =>
      intro h
      rw [List.reverse_cons] at h ⊢
      rw [← List.append_assoc, bg_snoc, if_neg (fun e => h (by simp [e]))]
      exact ih fun e => h (List.mem_append_left _ e)
  intro t h
  have := key t.reverse
  rw [List.reverse_reverse] at this
  exact this h
theorem col_tail {p t : List Nat} (h : 10 ∉ t) : col (p ++ t) = col p + t.length := by
  have := @bg_le p
  unfold col
  rw [bg_tail t h, List.length_append]
  omega
theorem places_len : ∀ (l : List (List Nat × List Nat)) (p : List Nat), (placesOf p l).length = l.length
  | [], _ => rfl
  | (w, g) :: l, p => by simp [placesOf, places_len l]
theorem toks_len : ∀ (l : List (List Nat × List Nat)) (p : List Nat), (toksOf p l).length = l.length
  | [], _ => rfl
  | (w, g) :: l, p => by simp [toksOf, toks_len l]
/-- token by place -/
def dueD (w : List Nat) (pl : D) : D := match pl with
  | .tup [a, b] => .tup [T (kd w), T w, a, b]
  | _ => .non
theorem toks_due : ∀ (l : List (List Nat × List Nat)) (p : List Nat), toksOf p l = List.zipWith dueD (l.map (·.1)) (placesOf p l)
  | [], _ => rfl
  | (w, g) :: l, p => by
    simp only [toksOf, placesOf, List.map_cons, List.zipWith_cons_cons, toks_due l]
    rfl
theorem kd_nil : kd [] = kEnd := by decide +kernel
end K70

set_option Elab.async false
set_option linter.all false
set_option maxRecDepth 100000
set_option autoImplicit false
/-! The law. -/
namespace K70
open Ip PySem
def tailL : List Nat := tx "# last (remark) $ \" A"
theorem tailL_eq : tailL = 35 :: [32, 108, 97, 115, 116, 32, 40, 114, 101, 109, 97, 114, 107, 41, 32, 36, 32, 34, 32, 65] := by decide +kernel
theorem tail_take {d : Nat} : tailOk (tailL.take (1 + d)) ∧ 10 ∉ tailL.take (1 + d) ∧ (tailL.take (1 + d)).length ≤ 21 := by
  have h10 : 10 ∉ tailL := by decide +kernel
  have hl : tailL.length = 21 := by decide +kernel
  refine ⟨.inr ⟨tailL.tail.take d, ?_, fun h => h10 (List.mem_of_mem_tail (List.mem_of_mem_take h))⟩, fun h => h10 (List.mem_of_mem_take h), by simp; omega⟩
  rw [tailL_eq, Nat.add_comm 1 d]
  rfl
theorem eq_ev {Φ : Fn} {e1 e2 : E} {ρ : Ip.Env} {st st1 st2 : Store} {i j : Int} {b : Bool} (h1 : ((ev Φ e1).b ρ st).d = .ok (.int i) st1) (h2 : ((ev Φ e2).b ρ st1).d = .ok (.int j) st2) (hb : decide (i = j) = b) : (ev Φ (.cmp .Eq e1 e2)).t ρ st = .ok b st2 := by
  subst hb
  simp only [ev, Ev.mkT, h1, h2, R.bind, cmpB, eqB_int, R.of]
theorem isnot_ev {Φ : Fn} {e1 : E} {ρ : Ip.Env} {st st1 : Store} {x : D} {b : Bool} (h1 : ((ev Φ e1).b ρ st).d = .ok x st1) (hb : isNoneB st1 x = some (!b)) : (ev Φ (.cmp .IsNot e1 (.con .non))).t ρ st = .ok b st1 := by
  have e : (ev Φ (.cmp .IsNot e1 (.con .non))).t ρ st = (((ev Φ e1).b ρ st).d).bind fun x st => (((ev Φ (.con .non)).b ρ st).d).bind fun y st => R.of (cmpB st .IsNot x y) st := by
    rw [ev]; rfl
  rw [e, h1]
  simp only [R.bind, con_ev]
  show R.of ((isNoneB st1 x).map (!·)) st1 = _
  rw [hb]
  simp [R.of]
theorem idx_ev {Φ : Fn} {e1 e2 : E} {ρ : Ip.Env} {st st1 st2 : Store} {x y z : D} (h1 : ((ev Φ e1).b ρ st).d = .ok x st1) (h2 : ((ev Φ e2).b ρ st1).d = .ok y st2) (hb : idxB st2 x y = some z) : ((ev Φ (.idx e1 e2)).b ρ st).d = .ok z st2 := by
  have e : (ev Φ (.idx e1 e2)).b ρ st = (((ev Φ e1).b ρ st).d).bind fun x st => (((ev Φ e2).b ρ st).d).bind fun y st => (R.of (idxB st x y) st).bind fun d st => .ok (.val d) st := by
    rw [ev]; rfl
  rw [e, h1]
  show R.d (R.bind ((ev Φ e2).b ρ st1).d _) = _
  rw [h2]
  show R.d (R.bind (R.of (idxB st2 x y) st2) _) = _
  rw [hb]
  rfl
theorem tup1_ev {Φ : Fn} {e : E} {ρ : Ip.Env} {st st1 : Store} {x : D} (h : ((ev Φ e).b ρ st).d = .ok x st1) : ((ev Φ (.tup [e])).b ρ st).d = .ok (.tup [x]) st1 := by
  have h2 : evs Φ [e] ρ st = .ok [x] st1 := by simp only [evs, h, R.bind]
  simp only [ev, Ev.mk1, h2, R.bind]
  rfl
theorem tup2_ev {Φ : Fn} {e1 e2 : E} {ρ : Ip.Env} {st st1 st2 : Store} {x y : D} (h1 : ((ev Φ e1).b ρ st).d = .ok x st1) (h2 : ((ev Φ e2).b ρ st1).d = .ok y st2) : ((ev Φ (.tup [e1, e2])).b ρ st).d = .ok (.tup [x, y]) st2 := by
  simp only [ev, Ev.mk1, evs2 h1 h2, R.bind]
  rfl
theorem lst2_ev {Φ : Fn} {e1 e2 : E} {ρ : Ip.Env} {st st1 st2 : Store} {x y : D} (h1 : ((ev Φ e1).b ρ st).d = .ok x st1) (h2 : ((ev Φ e2).b ρ st1).d = .ok y st2) : ((ev Φ (.lst [e1, e2])).b ρ st).d = .ok (.lst [x, y]) st2 := by
  simp only [ev, Ev.mk1, evs2 h1 h2, R.bind]
  rfl
theorem negI {Φ : Fn} {ρ : Ip.Env} {st : Store} : ((ev Φ (.neg (.con (.int 1)))).b ρ st).d = .ok (.int (-1)) st := by
  simp only [ev, Ev.mk1, R.bind, R.d, R.of, Bv.d, negB]
section
variable {n : Nat} {ns : List Int} {c : Int} {k : Nat}
abbrev envF (ns : List Int) (W : List (List Nat)) (t : List Nat) (x5 x6 x7 : Option D) : Ip.Env := [some (.scr ns), some (.ref 0), some (.lst (W.map T)), some (T t), some (.ref 1), x5, x6, x7, none, none]
/-- what the law knows of its text -/
structure Text (W : List (List Nat)) (t g0 tl : List Nat) (l : List (List Nat × List Nat)) : Prop where
  e : t = g0 ++ (lay l ++ tl)
  g : Skip g0
  gl : g0.length ≤ 30
  tlo : tailOk tl
  tn : 10 ∉ tl
  tlen : tl.length ≤ 21
  la : Laid l tl
  w : l.map (·.1) = W
  len : (lay l).length ≤ 4300
  wd : ∀ w ∈ W, Word w ∧ w.length ≤ 13
  wl : W.length ≤ 35
def placesF (g0 tl : List Nat) (l : List (List Nat × List Nat)) : List D := placesOf g0 l ++ [plc (g0 ++ lay l ++ tl)]
theorem Text.fits {W : List (List Nat)} {t g0 tl : List Nat} {l : List (List Nat × List Nat)} (h : Text W t g0 tl l) : Fits t := by
  have := h.gl; have := h.tlen; have := h.len
  rw [h.e]; unfold Fits; simp; omega
theorem Text.ll {W : List (List Nat)} {t g0 tl : List Nat} {l : List (List Nat × List Nat)} (h : Text W t g0 tl l) : l.length = W.length := by
  rw [← h.w]; simp
/-- what is told of a right text -/
def dueL (g0 tl : List Nat) (l : List (List Nat × List Nat)) : List D := toksOf g0 l ++ [tokD kEnd [] (ln (g0 ++ lay l ++ tl)) (col (g0 ++ lay l ++ tl))]
theorem toks_ok {L : Nat} : ∀ {l : List (List Nat × List Nat)} {p : List Nat}, okRefs L (toksOf p l) = true
  | [], _ => rfl
  | (w, g) :: l, p => by
    simp only [toksOf, okRefs, toks_ok, Bool.and_true]
    rfl
theorem due_ok {L : Nat} {g0 tl : List Nat} {l : List (List Nat × List Nat)} : okRefs L (dueL g0 tl l) = true := okRefs_append toks_ok rfl
theorem told_good {W : List (List Nat)} {t g0 tl : List Nat} {l : List (List Nat × List Nat)} {st : Store} (h : Text W t g0 tl l) (hp : prob 0 0 W = none) : cf (n + 4) "_law_told" [T t] st = .ok (.lst (dueL g0 tl l)) st := by
  have a := agree l g0 0 0 []
  rw [h.w, hp] at a
  have a : exp g0 0 [] l = .ok ([] ++ toksOf g0 l) := a
  have s := scan_laid (n := n) (st := st) (t := t) h.g h.tlo h.la h.e h.fits (by rw [h.ll]; have := h.wl; omega)
  rw [a] at s
  have e : scanR t st (.ok ([] ++ toksOf g0 l)) = .ok (.lst (dueL g0 tl l)) st := by
    simp only [scanR, List.nil_append, dueL, h.e, List.append_assoc]
  rw [e] at s
  exact told_ok s (by show okRefs _ _ = true; exact due_ok)
theorem told_bad {W : List (List Nat)} {t g0 tl : List Nat} {l : List (List Nat × List Nat)} {st : Store} {j : Nat} {m : List Nat} (h : Text W t g0 tl l) (hp : prob 0 0 W = some (j, m)) :
    ∃ q, cf (n + 4) "_law_told" [T t] st = .ok (.tup [.int (ln q : Int), .int (col q : Int), T m]) st ∧ (placesOf g0 l)[j]? = some (plc q) := by
  have a := agree l g0 0 0 []
  rw [h.w, hp] at a
  obtain ⟨e, q, h1, h2, h3, h4, h5, h6⟩ := a
  have s := scan_laid (n := n) (st := st) (t := t) h.g h.tlo h.la h.e h.fits (by rw [h.ll]; have := h.wl; omega)
  rw [h1] at s
  refine ⟨q, ?_, h6⟩
  have := told_exc s
  rw [h2, h3, h4] at this
  exact this
theorem Dp_tup {m : Nat} {xs : List D} (hl : xs.length ≤ 1000) (h : ∀ x ∈ xs, Dp m x) : Dp (m + 1) (.tup xs) := .inr (.inr ⟨xs, .inl rfl, hl, h⟩)
theorem Dp_lst {m : Nat} {xs : List D} (hl : xs.length ≤ 1000) (h : ∀ x ∈ xs, Dp m x) : Dp (m + 1) (.lst xs) := .inr (.inr ⟨xs, .inr rfl, hl, h⟩)
theorem tok_dp {k w : List Nat} {a b : Int} : Dp 1 (tokD k w a b) := Dp_tup (by simp) fun x h => by
  simp only [List.mem_cons, List.not_mem_nil, or_false] at h
  rcases h with rfl | rfl | rfl | rfl
  · exact .inr ⟨_, rfl⟩
  · exact .inr ⟨_, rfl⟩
  · exact .inl ⟨_, rfl⟩
  · exact .inl ⟨_, rfl⟩
theorem toks_dp : ∀ (l : List (List Nat × List Nat)) (p : List Nat), ∀ x ∈ toksOf p l, Dp 1 x
  | [], _, x, h => nomatch h
  | (w, g) :: l, p, x, h => by
    rcases List.mem_cons.mp h with rfl | h
    · exact tok_dp
    · exact toks_dp l _ x h
theorem due_dp {g0 tl : List Nat} {l : List (List Nat × List Nat)} (hl : l.length ≤ 100) : Dp 3 (.lst [.lst (dueL g0 tl l), .lst (dueL g0 tl l)]) := by
  have h2 : Dp 2 (.lst (dueL g0 tl l)) := Dp_lst (by simp [dueL, toks_len]; omega) fun x h => by
    rcases List.mem_append.mp h with h | h
    · exact toks_dp l _ x h
    · rw [List.mem_singleton.mp h]; exact tok_dp
  exact Dp_lst (by simp) fun x h => by
    simp only [List.mem_cons, List.not_mem_nil, or_false] at h
    rcases h with rfl | rfl <;> exact h2
/-- the law's own list of tokens -/
def dueE : E := .lc [("_law_k", 8), ("_law_word", 9)] (.tup [(.name 8), (.name 9)]) (.enum (.bin .Add (.var 2) (.lst [(.con (.str ""))]))) .no (.tup [(.call "_law_kind" [(.var 9)]), (.var 9), (.idx (.idx (.var 4) (.var 8)) (.con (.int 0))), (.idx (.idx (.var 4) (.var 8)) (.con (.int 1)))])
theorem lc_due {t : Its} {f : D → Store → R (Option D)} {st : Store} (hok : t.ok st = true) : ∀ (ws : List (List Nat)) (ps : List D) (i : Nat) (acc : List D), ws.length = ps.length →
    (∀ (j : Nat) (w : List Nat) (p : D), ws[j]? = some w → ps[j]? = some p → f (.tup [.int ((i + j : Nat) : Int), T w]) st = .ok (some (dueD w p)) st) → acc.length + ws.length < maxLen →
    lcF t f (numbered i (ws.map T)) acc st = .ok (acc ++ List.zipWith dueD ws ps) st
  | [], [], i, acc, _, _, _ => by simp [lcF, Ip.numbered, hok]
  | w :: ws, p :: ps, i, acc, hl, hf, ha => by
    have h0 := hf 0 w p rfl rfl
    have ih := lc_due (t := t) (f := f) hok ws ps (i + 1) (acc ++ [dueD w p]) (by simpa using hl) (fun j w' p' h1 h2 => by
      have := hf (j + 1) w' p' (by simpa using h1) (by simpa using h2)
      rw [show i + 1 + j = i + (j + 1) by omega]; exact this) (by simp at ha ⊢; omega)
    have h0 : f (.tup [.int (i : Int), T w]) st = .ok (some (dueD w p)) st := h0
    simp only [List.map_cons, Ip.numbered, lcF, hok, if_true, h0]
    rw [if_pos (by simp at ha; omega), ih]
    simp
theorem place_form : ∀ (l : List (List Nat × List Nat)) (p : List Nat), ∀ x ∈ placesOf p l, ∃ q, x = plc q
  | [], _, x, h => nomatch h
  | (w, g) :: l, p, x, h => by
    rcases List.mem_cons.mp h with rfl | h
    · exact ⟨p, rfl⟩
    · exact place_form l _ x h
theorem due_ev {W : List (List Nat)} {t g0 tl : List Nat} {l : List (List Nat × List Nat)} {x5 x6 x7 : Option D} (h : Text W t g0 tl l) :
    ((ev (cf (n + 2)) dueE).b (envF ns W t x5 x6 x7) (sS ns c k [.lst (placesF g0 tl l)])).d = .ok (.lst (dueL g0 tl l)) (sS ns c k [.lst (placesF g0 tl l)]) := by
  have hll := h.ll
  have hwl := h.wl
  have hI : evI (cf (n + 2)) (.enum (.bin .Add (.var 2) (.lst [(.con (.str ""))]))) (envF ns W t x5 x6 x7) (sS ns c k [.lst (placesF g0 tl l)]) = .ok ⟨numbered 0 ((W ++ [[]]).map T), []⟩ (sS ns c k [.lst (placesF g0 tl l)]) := by
    have k3 : D.str (Str.ofString "") = T [] := tx_T ""
    have h1 := cat_ev (Φ := cf (n + 2)) (e1 := .var 2) (e2 := .lst [(.con (.str ""))]) (ρ := envF ns W t x5 x6 x7) (st := sS ns c k [.lst (placesF g0 tl l)]) (x := W.map T) (y := [T []]) (var_ev rfl) (by rw [k3]; exact lst1_ev con_ev) (by simp; unfold maxLen; omega)
    simp only [evI, h1, R.bind]
    simp [enumOf, isLs, itsOf, R.of]
  have hz : List.zipWith dueD (W ++ [[]]) (placesF g0 tl l) = dueL g0 tl l := by
    unfold placesF dueL
    rw [List.zipWith_append (by rw [places_len, hll]), toks_due, h.w]
    simp only [List.zipWith_cons_cons, List.zipWith_nil_left]
    show _ ++ [D.tup [T (kd []), T [], .int _, .int _]] = _
    rw [kd_nil]
    rfl
  have hplen : (placesF g0 tl l).length = W.length + 1 := by simp [placesF, places_len, hll]
  have pform : ∀ x ∈ placesF g0 tl l, ∃ q, x = plc q := fun x hx => by
    rcases List.mem_append.mp hx with hx | hx
    · exact place_form l _ x hx
    · exact ⟨_, List.mem_singleton.mp hx⟩
  unfold dueE
  have e1 : ∀ (it : Ip.It) (el : E), (ev (cf (n + 2)) (.lc [("_law_k", 8), ("_law_word", 9)] (.tup [(.name 8), (.name 9)]) it .no el)).b (envF ns W t x5 x6 x7) (sS ns c k [.lst (placesF g0 tl l)]) = (evI (cf (n + 2)) it (envF ns W t x5 x6 x7) (sS ns c k [.lst (placesF g0 tl l)])).bind fun it st => (lcF it (fun d st => match bindT st (.tup [(.name 8), (.name 9)]) d (wipeD (envF ns W t x5 x6 x7) [("_law_k", 8), ("_law_word", 9)]) with
      | some ρ1 => ((ev (cf (n + 2)) .no).t ρ1 st).bind fun c st => if c then (((ev (cf (n + 2)) el).b ρ1 st).d).bind fun y st => .ok (some y) st else .ok none st
      | none => .stuck) it.items [] st).bind fun ys st => .ok (Bv.new (.lst ys)) st := fun it el => by
    rw [ev]
    rfl
  rw [e1, hI]
  show R.d (R.bind (lcF ⟨numbered 0 ((W ++ [[]]).map T), []⟩ _ (numbered 0 ((W ++ [[]]).map T)) [] (sS ns c k [.lst (placesF g0 tl l)])) _) = _
  have key : ∀ f : D → Store → R (Option D), (∀ (j : Nat) (w : List Nat) (p : D), (W ++ [[]])[j]? = some w → (placesF g0 tl l)[j]? = some p → f (.tup [.int ((0 + j : Nat) : Int), T w]) (sS ns c k [.lst (placesF g0 tl l)]) = .ok (some (dueD w p)) (sS ns c k [.lst (placesF g0 tl l)])) → lcF ⟨numbered 0 ((W ++ [[]]).map T), []⟩ f (numbered 0 ((W ++ [[]]).map T)) [] (sS ns c k [.lst (placesF g0 tl l)]) = .ok (dueL g0 tl l) (sS ns c k [.lst (placesF g0 tl l)]) := fun f hf => by
    rw [← hz]
    exact lc_due (t := ⟨numbered 0 ((W ++ [[]]).map T), []⟩) rfl (W ++ [[]]) (placesF g0 tl l) 0 [] (by simp [hplen]) hf (by simp; unfold maxLen; omega)
  rw [key _ (fun j w p hj hp => ?_)]
  · rfl
  · obtain ⟨q, rfl⟩ := pform p (List.mem_of_getElem? hp)
    have hwlen : w.length ≤ 13 := by
      rcases List.mem_append.mp (List.mem_of_getElem? hj) with hw | hw
      · exact (h.wd w hw).2
      · rw [List.mem_singleton.mp hw]; simp
    have hk := kind_ok (n := n) (st := sS ns c k [.lst (placesF g0 tl l)]) (w := w) (by unfold maxLen; omega)
    rw [show (0 + j : Nat) = j by omega]
    have hb : bindT (sS ns c k [.lst (placesF g0 tl l)]) (.tup [(.name 8), (.name 9)]) (.tup [.int (j : Int), T w]) (wipeD (envF ns W t x5 x6 x7) [("_law_k", 8), ("_law_word", 9)]) = some [some (.scr ns), some (.ref 0), some (.lst (W.map T)), some (T t), some (.ref 1), x5, x6, x7, some (.int (j : Int)), some (T w)] := rfl
    have hi : idxB (sS ns c k [.lst (placesF g0 tl l)]) (.ref 1) (.int (j : Int)) = some (plc q) := by
      show L2.atI (placesF g0 tl l) (j : Int) = _
      rw [atI_nat]; exact hp
    have hi0 : idxB (sS ns c k [.lst (placesF g0 tl l)]) (plc q) (.int 0) = some (.int (ln q)) := rfl
    have hi1 : idxB (sS ns c k [.lst (placesF g0 tl l)]) (plc q) (.int 1) = some (.int (col q)) := rfl
    simp only [hb, ev, evs, Ev.mk1, R.bind, R.d, R.of, Bv.d, if_true, hk, hi, hi0, hi1, List.getElem?_cons_succ, List.getElem?_cons_zero, List.length_cons, List.length_nil]
    rw [if_pos (by unfold maxLen; omega)]
    rfl
end
end K70

set_option Elab.async false
set_option linter.all false
set_option maxRecDepth 100000
set_option autoImplicit false
/-! The law as a whole. -/
namespace K70
open Ip PySem
abbrev nextL (m : Nat) : E := .call "_law_next" [(.var 1), (.con (.int (m : Int)))]
theorem nextL_args {Φ : Fn} {m : Nat} {ρ : Ip.Env} {st : Store} (h0 : ρ[1]? = some (some (.ref 0))) : evs Φ [(.var 1), (.con (.int (m : Int)))] ρ st = .ok [.ref 0, .int (m : Int)] st := by
  simp only [evs, var_ev h0, con_ev, R.bind]
def q1 : S := .asg (.name 1) (.call "_law_stream" [(.var 0)])
def q2 : S := .asg (.name 2) (.call "_law_tokens" [(.var 1)])
def q3 : S := .ifs (.cmp .Eq (nextL 2) (.con (.int 1))) [
    .asg (.name 2) (.call "_law_spoilt" [(.var 1), (.var 2)])] []
def q4 : S := .asg (.tup [(.name 3), (.name 4)]) (.call "_law_laid" [(.var 1), (.var 2)])
def q5 : S := .ifs (.cmp .Eq (nextL 2) (.con (.int 1))) [
    .asg (.name 5) (.slc (.con (.str "# last (remark) $ \" A")) .no (.bin .Add (.con (.int 1)) (nextL 21))),
    .asg (.name 3) (.bin .Add (.var 3) (.var 5)),
    .put (.var 4) (.neg (.con (.int 1))) (.tup [(.idx (.idx (.var 4) (.neg (.con (.int 1)))) (.con (.int 0))), (.bin .Add (.idx (.idx (.var 4) (.neg (.con (.int 1)))) (.con (.int 1))) (.bi "len" [(.var 5)]))])] []
def q6 : S := .asg (.name 6) (.call "_law_problem" [(.var 2)])
def q7 : S := .ifs (.cmp .IsNot (.var 6) (.con .non)) [
    .ret (.call "_law_equal" [(.call "_law_told" [(.var 3)]), (.bin .Add (.idx (.var 4) (.idx (.var 6) (.con (.int 0)))) (.tup [(.idx (.var 6) (.con (.int 1)))]))])] []
def q8 : S := .asg (.name 7) dueE
def q9 : S := .ret (.call "_law_equal" [(.lst [(.call "_law_told" [(.var 3)]), (.call "_law_told" [(.var 3)])]), (.lst [(.var 7), (.var 7)])])
theorem law_body : df_law.body = [q1, q2, q3, q4, q5, q6, q7, q8, q9] := rfl
section
variable {ns : List Int} {c : Int} {k : Nat}
theorem put_ok {Φ : Fn} {xc : XC} {o i e : E} {ρ : Ip.Env} {st st1 st2 st3 st4 : Store} {v x y : D} (h1 : ((ev Φ e).b ρ st).d = .ok v st1) (h2 : ((ev Φ o).b ρ st1).d = .ok x st2) (h3 : ((ev Φ i).b ρ st2).d = .ok y st3) (h4 : putB st3 x y v = some st4) : ex Φ xc (.put o i e) ρ st = .next ρ st4 := by
  simp only [ex, h1, h2, h3, h4, R.then_]
theorem ixN_last {n : Nat} : L2.ixN (n + 1) (-1) = some n := by
  unfold L2.ixN
  rw [if_neg (by omega), if_pos (by omega)]
  congr 1
  omega
theorem atI_last {xs : List D} {x : D} : L2.atI (xs ++ [x]) (-1) = some x := by
  unfold L2.atI
  rw [show (xs ++ [x]).length = xs.length + 1 by simp, ixN_last]
  simp
theorem slc_to_ev {Φ : Fn} {a hi : E} {x1 x2 : E} {ρ : Ip.Env} {st st1 st2 : Store} {x z : D} {j : Int} (hh : hi = .bin .Add x1 x2) (h1 : ((ev Φ a).b ρ st).d = .ok x st1) (h2 : ((ev Φ hi).b ρ st1).d = .ok (.int j) st2) (h3 : slcB st2 x none (some j) = some (.val z)) : ((ev Φ (.slc a .no hi)).b ρ st).d = .ok z st2 := by
  subst hh
  have hp : (ev Φ (.bin .Add x1 x2)).p ρ st1 = (((ev Φ (.bin .Add x1 x2)).b ρ st1).d).bind fun d st => R.of (partB d) st := by
    rw [ev]; rfl
  rw [h2] at hp
  have hp : (ev Φ (.bin .Add x1 x2)).p ρ st1 = .ok (some j) st2 := hp
  generalize (.bin .Add x1 x2 : E) = ee at hp ⊢
  have hn : (ev Φ .no).p ρ st1 = .ok none st1 := by rw [ev]
  have e1 : (ev Φ (.slc a .no ee)).b ρ st = (((ev Φ a).b ρ st).d).bind fun x st => ((ev Φ .no).p ρ st).bind fun l st => ((ev Φ ee).p ρ st).bind fun h st => R.of (slcB st x l h) st := by
    rw [ev]; rfl
  rw [e1, h1]
  simp only [R.bind, hn, hp, h3]
  rfl
theorem arg1_ev {Φ : Fn} {e : E} {ρ : Ip.Env} {st st1 : Store} {x : D} (h : ((ev Φ e).b ρ st).d = .ok x st1) : evs Φ [e] ρ st = .ok [x] st1 := by simp only [evs, h, R.bind]
theorem stageA : ∃ (W : List (List Nat)) (c : Int) (k : Nat), W.length ≤ 35 ∧ (∀ w ∈ W, Word w ∧ w.length ≤ 13) ∧ ∀ rest, exs (cf 12) (xcOf excs) (q1 :: q2 :: q3 :: rest) [some (.scr ns), none, none, none, none, none, none, none, none, none] [] = exs (cf 12) (xcOf excs) rest [some (.scr ns), some (.ref 0), some (.lst (W.map T)), none, none, none, none, none, none, none] (sS ns c k []) := by
  have r0 : RestOk [] (([] : Store).length + 1) := fun o h => nomatch h
  have e0 := stream_ok (n := 11) (ns := ns)
  have s1 : ex (cf 12) (xcOf excs) q1 [some (.scr ns), none, none, none, none, none, none, none, none, none] [] = .next [some (.scr ns), some (.ref 0), none, none, none, none, none, none, none, none] (sS ns 0 0 []) :=
    asg_ok (call_ev (arg1_ev (var_ev rfl)) e0)
  obtain ⟨W, c1, k1, hW, hw, e1⟩ := tokens_ok (n := 9) (ns := ns) (c := 0) (k := 0)
  have s2 : ex (cf 12) (xcOf excs) q2 [some (.scr ns), some (.ref 0), none, none, none, none, none, none, none, none] (sS ns 0 0 []) = .next [some (.scr ns), some (.ref 0), some (.lst (W.map T)), none, none, none, none, none, none, none] (sS ns c1 k1 []) :=
    asg_ok (call_ev (arg1_ev (var_ev rfl)) e1)
  obtain ⟨d, c2, k2, hd, e2⟩ := next_ok (n := 11) (ns := ns) (c := c1) (k := k1) (rest := []) (m := 2) (by omega) (by omega) r0
  have t : ∀ b, decide ((d : Int) = 1) = b → (ev (cf 12) (.cmp .Eq (nextL 2) (.con (.int 1)))).t [some (.scr ns), some (.ref 0), some (.lst (W.map T)), none, none, none, none, none, none, none] (sS ns c1 k1 []) = .ok b (sS ns c2 k2 []) := fun b hb =>
    eq_ev (call_ev (nextL_args rfl) e2) con_ev hb
  by_cases h : (d : Int) = 1
  · obtain ⟨V, c3, k3, hV, hv, e3⟩ := spoilt_ok (n := 10) (ns := ns) (c := c2) (k := k2) hW hw
    refine ⟨V, c3, k3, hV, hv, fun rest => (x_next s1).trans ((x_next s2).trans (if_next (t true (decide_eq_true h)) ((x_next ?_).trans x_nil)))⟩
    exact asg_ok (call_ev (evs2 (var_ev rfl) (var_ev rfl)) e3)
  · exact ⟨W, c2, k2, by omega, hw, fun rest => (x_next s1).trans ((x_next s2).trans (if_skip (t false (decide_eq_false h))))⟩
theorem stageB {W : List (List Nat)} (hW : W.length ≤ 35) (hw : ∀ w ∈ W, Word w ∧ w.length ≤ 13) : ∃ (g0 : List Nat) (l : List (List Nat × List Nat)) (c' : Int) (k' : Nat), (∀ tl, tailOk tl → 10 ∉ tl → tl.length ≤ 21 → Text W (g0 ++ (lay l ++ tl)) g0 tl l) ∧
    ∀ rest, exs (cf 12) (xcOf excs) (q4 :: rest) [some (.scr ns), some (.ref 0), some (.lst (W.map T)), none, none, none, none, none, none, none] (sS ns c k []) = exs (cf 12) (xcOf excs) rest (envF ns W (g0 ++ lay l) none none none) (sS ns c' k' [.lst (placesF g0 [] l)]) := by
  obtain ⟨g0, l, c1, k1, hg, hl, hL, hlen, e⟩ := laid_ok (n := 8) (ns := ns) (c := c) (k := k) (W := W) (fun w h => ⟨(hw w h).1.ne, (hw w h).2⟩) (by omega) (fun w h => (hw w h).1)
  refine ⟨g0, l, c1, k1, fun tl h1 h2 h3 => ⟨rfl, gaps_skip g0 hg, gaps_len g0 hg, h1, h2, h3, hL tl h1, hl, hlen, hw, hW⟩, fun rest => x_next ?_⟩
  have ep : placesF g0 [] l = placesOf g0 l ++ [plc (g0 ++ lay l)] := by simp [placesF]
  rw [ep]
  have e1 := call_ev (Φ := cf 12) (ρ := [some (.scr ns), some (.ref 0), some (.lst (W.map T)), none, none, none, none, none, none, none]) (es := [(.var 1), (.var 2)]) (evs2 (var_ev rfl) (var_ev rfl)) e
  show ex (cf 12) (xcOf excs) (.asg (.tup [(.name 3), (.name 4)]) (.call "_law_laid" [(.var 1), (.var 2)])) _ _ = _
  simp only [ex, e1, R.then_, bindT, bindTs, sqOf]
  rfl
theorem stageC {W : List (List Nat)} {g0 : List Nat} {l : List (List Nat × List Nat)} (h : ∀ tl, tailOk tl → 10 ∉ tl → tl.length ≤ 21 → Text W (g0 ++ (lay l ++ tl)) g0 tl l) :
    ∃ (t tl : List Nat) (x5 : Option D) (c' : Int) (k' : Nat), Text W t g0 tl l ∧ ∀ rest, exs (cf 12) (xcOf excs) (q5 :: rest) (envF ns W (g0 ++ lay l) none none none) (sS ns c k [.lst (placesF g0 [] l)]) = exs (cf 12) (xcOf excs) rest (envF ns W t x5 none none) (sS ns c' k' [.lst (placesF g0 tl l)]) := by
  have hT := h [] (.inl rfl) (by simp) (by simp)
  have hpl : ∀ tl, okRefs 2 (placesF g0 tl l) = true := fun tl => okRefs_append places_ok rfl
  have r0 : RestOk [.lst (placesF g0 [] l)] (([.lst (placesF g0 [] l)] : Store).length + 1) := rest1 (hpl [])
  obtain ⟨d, c2, k2, hd, e2⟩ := next_ok (n := 11) (ns := ns) (c := c) (k := k) (rest := [.lst (placesF g0 [] l)]) (m := 2) (by omega) (by omega) r0
  have t : ∀ b, decide ((d : Int) = 1) = b → (ev (cf 12) (.cmp .Eq (nextL 2) (.con (.int 1)))).t (envF ns W (g0 ++ lay l) none none none) (sS ns c k [.lst (placesF g0 [] l)]) = .ok b (sS ns c2 k2 [.lst (placesF g0 [] l)]) := fun b hb =>
    eq_ev (call_ev (nextL_args rfl) e2) con_ev hb
  by_cases h1 : (d : Int) = 1
  · obtain ⟨d3, c3, k3, hd3, e3⟩ := next_ok (n := 11) (ns := ns) (c := c2) (k := k2) (rest := [.lst (placesF g0 [] l)]) (m := 21) (by omega) (by omega) r0
    obtain ⟨t1, t2, t3⟩ := tail_take (d := d3)
    have hT2 := h _ t1 t2 t3
    generalize htl : tailL.take (1 + d3) = tl at *
    refine ⟨_, tl, some (T tl), c3, k3, hT2, fun rest => if_next (t true (decide_eq_true h1)) ?_⟩
    have ea : (1 : Int) + (d3 : Int) = ((1 + d3 : Nat) : Int) := by omega
    have hfit := hT2.fits
    have s1 : ex (cf 12) (xcOf excs) (.asg (.name 5) (.slc (.con (.str "# last (remark) $ \" A")) .no (.bin .Add (.con (.int 1)) (nextL 21)))) (envF ns W (g0 ++ lay l) none none none) (sS ns c2 k2 [.lst (placesF g0 [] l)]) = .next (envF ns W (g0 ++ lay l) (some (T tl)) none none) (sS ns c3 k3 [.lst (placesF g0 [] l)]) := by
      have hA := add_ev (Φ := cf 12) (e1 := .con (.int 1)) (e2 := nextL 21) (ρ := envF ns W (g0 ++ lay l) none none none) (st := sS ns c2 k2 [.lst (placesF g0 [] l)]) con_ev (call_ev (nextL_args rfl) e3) addI
      rw [ea] at hA
      have k3' : D.str (Str.ofString "# last (remark) $ \" A") = T tailL := tx_T _
      have hs := slcB_T_to (st := sS ns c3 k3 [.lst (placesF g0 [] l)]) (l := tailL) (b := 1 + d3) (by decide +kernel)
      rw [htl] at hs
      refine asg_ok ?_
      rw [k3']
      exact slc_to_ev rfl con_ev hA hs
    have s2 : ex (cf 12) (xcOf excs) (.asg (.name 3) (.bin .Add (.var 3) (.var 5))) (envF ns W (g0 ++ lay l) (some (T tl)) none none) (sS ns c3 k3 [.lst (placesF g0 [] l)]) = .next (envF ns W (g0 ++ (lay l ++ tl)) (some (T tl)) none none) (sS ns c3 k3 [.lst (placesF g0 [] l)]) := by
      have := asg_ok (Φ := cf 12) (xc := xcOf excs) (i := 3) (add_ev (ρ := envF ns W (g0 ++ lay l) (some (T tl)) none none) (st := sS ns c3 k3 [.lst (placesF g0 [] l)]) (var_ev (i := 3) (x := T (g0 ++ lay l)) rfl) (var_ev (i := 5) (x := T tl) rfl) (addT (by unfold Fits at hfit; simp at hfit ⊢; unfold maxLen; omega)))
      rw [this, List.append_assoc]
      rfl
    have hl1 : ((ev (cf 12) (.idx (.var 4) (.neg (.con (.int 1))))).b (envF ns W (g0 ++ (lay l ++ tl)) (some (T tl)) none none) (sS ns c3 k3 [.lst (placesF g0 [] l)])).d = .ok (plc (g0 ++ lay l)) (sS ns c3 k3 [.lst (placesF g0 [] l)]) := by
      refine idx_ev (var_ev (x := .ref 1) rfl) negI ?_
      show L2.atI (placesOf g0 l ++ [plc (g0 ++ lay l ++ [])]) (-1) = _
      rw [atI_last, List.append_nil]
    have hln : ((ev (cf 12) (.bi "len" [(.var 5)])).b (envF ns W (g0 ++ (lay l ++ tl)) (some (T tl)) none none) (sS ns c3 k3 [.lst (placesF g0 [] l)])).d = .ok (.int (tl.length : Int)) (sS ns c3 k3 [.lst (placesF g0 [] l)]) :=
      blen_ev (var_ev rfl) (lenB_T (by unfold maxLen; omega))
    have hv : ((ev (cf 12) (.tup [(.idx (.idx (.var 4) (.neg (.con (.int 1)))) (.con (.int 0))), (.bin .Add (.idx (.idx (.var 4) (.neg (.con (.int 1)))) (.con (.int 1))) (.bi "len" [(.var 5)]))])).b (envF ns W (g0 ++ (lay l ++ tl)) (some (T tl)) none none) (sS ns c3 k3 [.lst (placesF g0 [] l)])).d = .ok (plc (g0 ++ lay l ++ tl)) (sS ns c3 k3 [.lst (placesF g0 [] l)]) := by
      have e1 : plc (g0 ++ lay l ++ tl) = .tup [.int (ln (g0 ++ lay l) : Int), .int ((col (g0 ++ lay l) : Int) + (tl.length : Int))] := by
        unfold plc
        rw [ln_tail t2, col_tail t2]
        simp
      rw [e1]
      exact tup2_ev (idx_ev hl1 con_ev rfl) (add_ev (x := .int (col (g0 ++ lay l) : Int)) (idx_ev hl1 con_ev rfl) hln addI)
    have s3 : ex (cf 12) (xcOf excs) (.put (.var 4) (.neg (.con (.int 1))) (.tup [(.idx (.idx (.var 4) (.neg (.con (.int 1)))) (.con (.int 0))), (.bin .Add (.idx (.idx (.var 4) (.neg (.con (.int 1)))) (.con (.int 1))) (.bi "len" [(.var 5)]))])) (envF ns W (g0 ++ (lay l ++ tl)) (some (T tl)) none none) (sS ns c3 k3 [.lst (placesF g0 [] l)]) = .next (envF ns W (g0 ++ (lay l ++ tl)) (some (T tl)) none none) (sS ns c3 k3 [.lst (placesF g0 tl l)]) := by
      refine put_ok hv (var_ev (x := .ref 1) rfl) negI ?_
      have e2 : L2.ixN (placesF g0 [] l).length (-1) = some (placesOf g0 l).length := by
        rw [show (placesF g0 [] l).length = (placesOf g0 l).length + 1 by simp [placesF], ixN_last]
      show (match L2.ixN (placesF g0 [] l).length (-1) with
        | some n => some ((sS ns c3 k3 [.lst (placesF g0 [] l)]).set 1 (.lst ((placesF g0 [] l).set n (plc (g0 ++ lay l ++ tl)))))
        | none => none) = _
      rw [e2]
      have e4 : (placesF g0 [] l).set (placesOf g0 l).length (plc (g0 ++ lay l ++ tl)) = placesF g0 tl l := by simp [placesF]
      simp only [e4]
      rfl
    exact (x_next s1).trans ((x_next s2).trans ((x_next s3).trans x_nil))
  · refine ⟨_, [], none, c2, k2, hT, fun rest => (if_skip (t false (decide_eq_false h1))).trans ?_⟩
    simp
theorem stageD {W : List (List Nat)} {t g0 tl : List Nat} {l : List (List Nat × List Nat)} {x5 : Option D} (h : Text W t g0 tl l) :
    exs (cf 12) (xcOf excs) [q6, q7, q8, q9] (envF ns W t x5 none none) (sS ns c k [.lst (placesF g0 tl l)]) = .ret (.bl true) (sS ns c k [.lst (placesF g0 tl l)]) := by
  have hp := problem_ok (n := 9) (st := sS ns c k [.lst (placesF g0 tl l)]) h.wd
  have s6 : ex (cf 12) (xcOf excs) q6 (envF ns W t x5 none none) (sS ns c k [.lst (placesF g0 tl l)]) = .next (envF ns W t x5 (some (probD (prob 0 0 W))) none) (sS ns c k [.lst (placesF g0 tl l)]) :=
    asg_ok (call_ev (arg1_ev (var_ev rfl)) hp)
  refine (x_next s6).trans ?_
  cases hpr : prob 0 0 W with
  | none =>
    have s7 : (ev (cf 12) (.cmp .IsNot (.var 6) (.con .non))).t (envF ns W t x5 (some (probD none)) none) (sS ns c k [.lst (placesF g0 tl l)]) = .ok false (sS ns c k [.lst (placesF g0 tl l)]) := isnot_ev (var_ev (x := .non) rfl) rfl
    have s8 : ex (cf 12) (xcOf excs) q8 (envF ns W t x5 (some (probD none)) none) (sS ns c k [.lst (placesF g0 tl l)]) = .next (envF ns W t x5 (some (probD none)) (some (.lst (dueL g0 tl l)))) (sS ns c k [.lst (placesF g0 tl l)]) := asg_ok (due_ev (n := 10) h)
    refine (if_skip s7).trans ((x_next s8).trans (x_ret (ret_ok ?_)))
    have ht := told_good (n := 8) (st := sS ns c k [.lst (placesF g0 tl l)]) h hpr
    have te : ((ev (cf 12) (.call "_law_told" [(.var 3)])).b (envF ns W t x5 (some (probD none)) (some (.lst (dueL g0 tl l)))) (sS ns c k [.lst (placesF g0 tl l)])).d = .ok (.lst (dueL g0 tl l)) (sS ns c k [.lst (placesF g0 tl l)]) := call_ev (arg1_ev (var_ev rfl)) ht
    have eq := equal_ok (st := sS ns c k [.lst (placesF g0 tl l)]) 3 _ 7 (due_dp (g0 := g0) (tl := tl) (l := l) (by rw [h.ll]; have := h.wl; omega))
    exact call_ev (evs2 (lst2_ev te te) (lst2_ev (var_ev rfl) (var_ev rfl))) eq
  | some jm =>
    obtain ⟨j, m⟩ := jm
    have s7 : (ev (cf 12) (.cmp .IsNot (.var 6) (.con .non))).t (envF ns W t x5 (some (probD (some (j, m)))) none) (sS ns c k [.lst (placesF g0 tl l)]) = .ok true (sS ns c k [.lst (placesF g0 tl l)]) := isnot_ev (var_ev (x := .tup [.int (j : Int), T m]) rfl) rfl
    obtain ⟨q, ht, hq⟩ := told_bad (n := 8) (st := sS ns c k [.lst (placesF g0 tl l)]) h hpr
    refine if_ret s7 (x_ret (ret_ok ?_))
    have te : ((ev (cf 12) (.call "_law_told" [(.var 3)])).b (envF ns W t x5 (some (probD (some (j, m)))) none) (sS ns c k [.lst (placesF g0 tl l)])).d = .ok (.tup [.int (ln q : Int), .int (col q : Int), T m]) (sS ns c k [.lst (placesF g0 tl l)]) := call_ev (arg1_ev (var_ev rfl)) ht
    have hqq : (placesF g0 tl l)[j]? = some (plc q) := by
      unfold placesF
      rw [List.getElem?_append_left (List.getElem?_eq_some_iff.mp hq).1]; exact hq
    have ie : ∀ {i : Nat} {z : D}, idxB (sS ns c k [.lst (placesF g0 tl l)]) (.tup [.int (j : Int), T m]) (.int (i : Int)) = some z → ((ev (cf 12) (.idx (.var 6) (.con (.int (i : Int))))).b (envF ns W t x5 (some (probD (some (j, m)))) none) (sS ns c k [.lst (placesF g0 tl l)])).d = .ok z (sS ns c k [.lst (placesF g0 tl l)]) := fun hz => idx_ev (var_ev rfl) con_ev hz
    have pe : ((ev (cf 12) (.bin .Add (.idx (.var 4) (.idx (.var 6) (.con (.int 0)))) (.tup [(.idx (.var 6) (.con (.int 1)))]))).b (envF ns W t x5 (some (probD (some (j, m)))) none) (sS ns c k [.lst (placesF g0 tl l)])).d = .ok (.tup [.int (ln q : Int), .int (col q : Int), T m]) (sS ns c k [.lst (placesF g0 tl l)]) := by
      refine add_ev (x := plc q) (y := .tup [T m]) (idx_ev (var_ev rfl) (ie (i := 0) (z := .int (j : Int)) rfl) ?_) (tup1_ev (ie (i := 1) (z := T m) rfl)) rfl
      show L2.atI (placesF g0 tl l) (j : Int) = _
      rw [atI_nat]; exact hqq
    have dp : Dp 1 (.tup [.int (ln q : Int), .int (col q : Int), T m]) := Dp_tup (by simp) fun x hx => by
      simp only [List.mem_cons, List.not_mem_nil, or_false] at hx
      rcases hx with rfl | rfl | rfl
      · exact .inl ⟨_, rfl⟩
      · exact .inl ⟨_, rfl⟩
      · exact .inr ⟨_, rfl⟩
    have eq := equal_ok (st := sS ns c k [.lst (placesF g0 tl l)]) 1 _ 9 dp
    exact call_ev (evs2 te pe) eq
end
theorem law_ok (ns : List Int) : ∃ st, df_law.run (callF tab (xcOf excs) 12) (xcOf excs) [.scr ns] [] = .ok (.bl true) st := by
  obtain ⟨W, c1, k1, hW, hw, eA⟩ := stageA (ns := ns)
  obtain ⟨g0, l, c2, k2, hT, eB⟩ := stageB (ns := ns) (c := c1) (k := k1) hW hw
  obtain ⟨t, tl, x5, c3, k3, hX, eC⟩ := stageC (ns := ns) (c := c2) (k := k2) hT
  have b : exs (cf 12) (xcOf excs) df_law.body [some (.scr ns), none, none, none, none, none, none, none, none, none] [] = .ret (.bl true) (sS ns c3 k3 [.lst (placesF g0 tl l)]) := by
    rw [law_body, eA, eB, eC]
    exact stageD hX
  exact ⟨[], (run_ret' rfl b).trans rfl⟩
end K70

set_option Elab.async false
set_option linter.all false
set_option maxRecDepth 100000
set_option autoImplicit false
set_option maxHeartbeats 0
/-! the text is the table -/
namespace K70
open Ip PySem PySem.Spec PyProof.Rows L2

def top (i : Nat) : Stmt := PySem.Challenge.pw_rulestand_k70_tokens_and_places.main.body.getD i (.Pass ⟨0, 0, 0, 0⟩)
abbrev cfg (P : Program) (w : World) (T : Tb) (mg : Str → Option Value) (base : Heap) (Φ : Fn) (lev : Nat) : Cfg := ⟨P, w, T, mg, base, Φ, lev, fns, globs, free⟩
def d_row_of : He.DefD := ⟨("row_of", none), "row_of", "row_of", defArgs (top 14), defBody (top 14), defScope (top 14), [], []⟩
theorem sc_row_of : FnScope nn_row_of ["text", "at", "chars"] d_row_of.scope := ⟨rfl, rfl, rfl, by decide +kernel, rfl, by decide +kernel, by decide +kernel⟩
theorem bd_row_of (kV doc pm : Value) (an : Option Addr) (cdv ct : Value) (us : List Value) (hl : us.length = (["text", "at", "chars"] : List Str).length) : bindArgs (PySem.W.fnOf "row_of" "row_of" d_row_of.params d_row_of.body d_row_of.scope .none kV doc pm an cdv ct) ⟨us, []⟩ = pure ((["text", "at", "chars"] : List Str).zip us) := match us, hl with | [_, _, _], _ => rfl
theorem ok_row_of (P : Program) (w : World) (T : Tb) (mg : Str → Option Value) (base : Heap) (Φ : Fn) (lev : Nat) : okSs (cfg P w T mg base Φ lev) excs nn_row_of d_row_of.scope df_row_of.body d_row_of.body = true := by kernel_rfl
def d_refuse : He.DefD := ⟨("refuse", none), "refuse", "refuse", defArgs (top 15), defBody (top 15), defScope (top 15), [], []⟩
theorem sc_refuse : FnScope nn_refuse ["is_wrong", "line", "column", "words"] d_refuse.scope := ⟨rfl, rfl, rfl, by decide +kernel, rfl, by decide +kernel, by decide +kernel⟩
theorem bd_refuse (kV doc pm : Value) (an : Option Addr) (cdv ct : Value) (us : List Value) (hl : us.length = (["is_wrong", "line", "column", "words"] : List Str).length) : bindArgs (PySem.W.fnOf "refuse" "refuse" d_refuse.params d_refuse.body d_refuse.scope .none kV doc pm an cdv ct) ⟨us, []⟩ = pure ((["is_wrong", "line", "column", "words"] : List Str).zip us) := match us, hl with | [_, _, _, _], _ => rfl
theorem ok_refuse (P : Program) (w : World) (T : Tb) (mg : Str → Option Value) (base : Heap) (Φ : Fn) (lev : Nat) : okSs (cfg P w T mg base Φ lev) excs nn_refuse d_refuse.scope df_refuse.body d_refuse.body = true := by kernel_rfl
def d_sign_at : He.DefD := ⟨("sign_at", none), "sign_at", "sign_at", defArgs (top 16), defBody (top 16), defScope (top 16), [], []⟩
theorem sc_sign_at : FnScope nn_sign_at ["text", "at"] d_sign_at.scope := ⟨rfl, rfl, rfl, by decide +kernel, rfl, by decide +kernel, by decide +kernel⟩
theorem bd_sign_at (kV doc pm : Value) (an : Option Addr) (cdv ct : Value) (us : List Value) (hl : us.length = (["text", "at"] : List Str).length) : bindArgs (PySem.W.fnOf "sign_at" "sign_at" d_sign_at.params d_sign_at.body d_sign_at.scope .none kV doc pm an cdv ct) ⟨us, []⟩ = pure ((["text", "at"] : List Str).zip us) := match us, hl with | [_, _], _ => rfl
theorem ok_sign_at (P : Program) (w : World) (T : Tb) (mg : Str → Option Value) (base : Heap) (Φ : Fn) (lev : Nat) : okSs (cfg P w T mg base Φ lev) excs nn_sign_at d_sign_at.scope df_sign_at.body d_sign_at.body = true := by kernel_rfl
def d_token_at : He.DefD := ⟨("token_at", none), "token_at", "token_at", defArgs (top 17), defBody (top 17), defScope (top 17), [], []⟩
theorem sc_token_at : FnScope nn_token_at ["text", "at", "line", "column"] d_token_at.scope := ⟨rfl, rfl, rfl, by decide +kernel, rfl, by decide +kernel, by decide +kernel⟩
theorem bd_token_at (kV doc pm : Value) (an : Option Addr) (cdv ct : Value) (us : List Value) (hl : us.length = (["text", "at", "line", "column"] : List Str).length) : bindArgs (PySem.W.fnOf "token_at" "token_at" d_token_at.params d_token_at.body d_token_at.scope .none kV doc pm an cdv ct) ⟨us, []⟩ = pure ((["text", "at", "line", "column"] : List Str).zip us) := match us, hl with | [_, _, _, _], _ => rfl
theorem ok_token_at (P : Program) (w : World) (T : Tb) (mg : Str → Option Value) (base : Heap) (Φ : Fn) (lev : Nat) : okSs (cfg P w T mg base Φ lev) excs nn_token_at d_token_at.scope df_token_at.body d_token_at.body = true := by kernel_rfl
def d_depth_after : He.DefD := ⟨("depth_after", none), "depth_after", "depth_after", defArgs (top 18), defBody (top 18), defScope (top 18), [], []⟩
theorem sc_depth_after : FnScope nn_depth_after ["token", "depth"] d_depth_after.scope := ⟨rfl, rfl, rfl, by decide +kernel, rfl, by decide +kernel, by decide +kernel⟩
theorem bd_depth_after (kV doc pm : Value) (an : Option Addr) (cdv ct : Value) (us : List Value) (hl : us.length = (["token", "depth"] : List Str).length) : bindArgs (PySem.W.fnOf "depth_after" "depth_after" d_depth_after.params d_depth_after.body d_depth_after.scope .none kV doc pm an cdv ct) ⟨us, []⟩ = pure ((["token", "depth"] : List Str).zip us) := match us, hl with | [_, _], _ => rfl
theorem ok_depth_after (P : Program) (w : World) (T : Tb) (mg : Str → Option Value) (base : Heap) (Φ : Fn) (lev : Nat) : okSs (cfg P w T mg base Φ lev) excs nn_depth_after d_depth_after.scope df_depth_after.body d_depth_after.body = true := by kernel_rfl
def d_scan : He.DefD := ⟨("scan", none), "scan", "scan", defArgs (top 19), defBody (top 19), defScope (top 19), [], []⟩
theorem sc_scan : FnScope nn_scan ["text"] d_scan.scope := ⟨rfl, rfl, rfl, by decide +kernel, rfl, by decide +kernel, by decide +kernel⟩
theorem bd_scan (kV doc pm : Value) (an : Option Addr) (cdv ct : Value) (us : List Value) (hl : us.length = (["text"] : List Str).length) : bindArgs (PySem.W.fnOf "scan" "scan" d_scan.params d_scan.body d_scan.scope .none kV doc pm an cdv ct) ⟨us, []⟩ = pure ((["text"] : List Str).zip us) := match us, hl with | [_], _ => rfl
theorem ok_scan (P : Program) (w : World) (T : Tb) (mg : Str → Option Value) (base : Heap) (Φ : Fn) (lev : Nat) : okSs (cfg P w T mg base Φ lev) excs nn_scan d_scan.scope df_scan.body d_scan.body = true := by kernel_rfl
def d__law_stream : He.DefD := ⟨("_law_stream", none), "_law_stream", "_law_stream", defArgs (top 21), defBody (top 21), defScope (top 21), [], []⟩
theorem sc__law_stream : FnScope nn__law_stream ["_law_script"] d__law_stream.scope := ⟨rfl, rfl, rfl, by decide +kernel, rfl, by decide +kernel, by decide +kernel⟩
theorem bd__law_stream (kV doc pm : Value) (an : Option Addr) (cdv ct : Value) (us : List Value) (hl : us.length = (["_law_script"] : List Str).length) : bindArgs (PySem.W.fnOf "_law_stream" "_law_stream" d__law_stream.params d__law_stream.body d__law_stream.scope .none kV doc pm an cdv ct) ⟨us, []⟩ = pure ((["_law_script"] : List Str).zip us) := match us, hl with | [_], _ => rfl
theorem ok__law_stream (P : Program) (w : World) (T : Tb) (mg : Str → Option Value) (base : Heap) (Φ : Fn) (lev : Nat) : okSs (cfg P w T mg base Φ lev) excs nn__law_stream d__law_stream.scope df__law_stream.body d__law_stream.body = true := by kernel_rfl
def d__law_next : He.DefD := ⟨("_law_next", none), "_law_next", "_law_next", defArgs (top 22), defBody (top 22), defScope (top 22), [], []⟩
theorem sc__law_next : FnScope nn__law_next ["_law_stream_here", "_law_many"] d__law_next.scope := ⟨rfl, rfl, rfl, by decide +kernel, rfl, by decide +kernel, by decide +kernel⟩
theorem bd__law_next (kV doc pm : Value) (an : Option Addr) (cdv ct : Value) (us : List Value) (hl : us.length = (["_law_stream_here", "_law_many"] : List Str).length) : bindArgs (PySem.W.fnOf "_law_next" "_law_next" d__law_next.params d__law_next.body d__law_next.scope .none kV doc pm an cdv ct) ⟨us, []⟩ = pure ((["_law_stream_here", "_law_many"] : List Str).zip us) := match us, hl with | [_, _], _ => rfl
theorem ok__law_next (P : Program) (w : World) (T : Tb) (mg : Str → Option Value) (base : Heap) (Φ : Fn) (lev : Nat) : okSs (cfg P w T mg base Φ lev) excs nn__law_next d__law_next.scope df__law_next.body d__law_next.body = true := by kernel_rfl
def d__law_is_integer : He.DefD := ⟨("_law_is_integer", none), "_law_is_integer", "_law_is_integer", defArgs (top 23), defBody (top 23), defScope (top 23), [], []⟩
theorem sc__law_is_integer : FnScope nn__law_is_integer ["_law_actual"] d__law_is_integer.scope := ⟨rfl, rfl, rfl, by decide +kernel, rfl, by decide +kernel, by decide +kernel⟩
theorem bd__law_is_integer (kV doc pm : Value) (an : Option Addr) (cdv ct : Value) (us : List Value) (hl : us.length = (["_law_actual"] : List Str).length) : bindArgs (PySem.W.fnOf "_law_is_integer" "_law_is_integer" d__law_is_integer.params d__law_is_integer.body d__law_is_integer.scope .none kV doc pm an cdv ct) ⟨us, []⟩ = pure ((["_law_actual"] : List Str).zip us) := match us, hl with | [_], _ => rfl
theorem ok__law_is_integer (P : Program) (w : World) (T : Tb) (mg : Str → Option Value) (base : Heap) (Φ : Fn) (lev : Nat) : okSs (cfg P w T mg base Φ lev) excs nn__law_is_integer d__law_is_integer.scope df__law_is_integer.body d__law_is_integer.body = true := by kernel_rfl
def d__law_equal : He.DefD := ⟨("_law_equal", none), "_law_equal", "_law_equal", defArgs (top 24), defBody (top 24), defScope (top 24), [], []⟩
theorem sc__law_equal : FnScope nn__law_equal ["_law_actual", "_law_due"] d__law_equal.scope := ⟨rfl, rfl, rfl, by decide +kernel, rfl, by decide +kernel, by decide +kernel⟩
theorem bd__law_equal (kV doc pm : Value) (an : Option Addr) (cdv ct : Value) (us : List Value) (hl : us.length = (["_law_actual", "_law_due"] : List Str).length) : bindArgs (PySem.W.fnOf "_law_equal" "_law_equal" d__law_equal.params d__law_equal.body d__law_equal.scope .none kV doc pm an cdv ct) ⟨us, []⟩ = pure ((["_law_actual", "_law_due"] : List Str).zip us) := match us, hl with | [_, _], _ => rfl
theorem ok__law_equal (P : Program) (w : World) (T : Tb) (mg : Str → Option Value) (base : Heap) (Φ : Fn) (lev : Nat) : okSs (cfg P w T mg base Φ lev) excs nn__law_equal d__law_equal.scope df__law_equal.body d__law_equal.body = true := by kernel_rfl
def d__law_gap : He.DefD := ⟨("_law_gap", none), "_law_gap", "_law_gap", defArgs (top 25), defBody (top 25), defScope (top 25), [], []⟩
theorem sc__law_gap : FnScope nn__law_gap ["_law_stream_here", "_law_tight", "_law_many"] d__law_gap.scope := ⟨rfl, rfl, rfl, by decide +kernel, rfl, by decide +kernel, by decide +kernel⟩
theorem bd__law_gap (kV doc pm : Value) (an : Option Addr) (cdv ct : Value) (us : List Value) (hl : us.length = (["_law_stream_here", "_law_tight", "_law_many"] : List Str).length) : bindArgs (PySem.W.fnOf "_law_gap" "_law_gap" d__law_gap.params d__law_gap.body d__law_gap.scope .none kV doc pm an cdv ct) ⟨us, []⟩ = pure ((["_law_stream_here", "_law_tight", "_law_many"] : List Str).zip us) := match us, hl with | [_, _, _], _ => rfl
theorem ok__law_gap (P : Program) (w : World) (T : Tb) (mg : Str → Option Value) (base : Heap) (Φ : Fn) (lev : Nat) : okSs (cfg P w T mg base Φ lev) excs nn__law_gap d__law_gap.scope df__law_gap.body d__law_gap.body = true := by kernel_rfl
def d__law_is_word : He.DefD := ⟨("_law_is_word", none), "_law_is_word", "_law_is_word", defArgs (top 26), defBody (top 26), defScope (top 26), [], []⟩
theorem sc__law_is_word : FnScope nn__law_is_word ["_law_token"] d__law_is_word.scope := ⟨rfl, rfl, rfl, by decide +kernel, rfl, by decide +kernel, by decide +kernel⟩
theorem bd__law_is_word (kV doc pm : Value) (an : Option Addr) (cdv ct : Value) (us : List Value) (hl : us.length = (["_law_token"] : List Str).length) : bindArgs (PySem.W.fnOf "_law_is_word" "_law_is_word" d__law_is_word.params d__law_is_word.body d__law_is_word.scope .none kV doc pm an cdv ct) ⟨us, []⟩ = pure ((["_law_token"] : List Str).zip us) := match us, hl with | [_], _ => rfl
theorem ok__law_is_word (P : Program) (w : World) (T : Tb) (mg : Str → Option Value) (base : Heap) (Φ : Fn) (lev : Nat) : okSs (cfg P w T mg base Φ lev) excs nn__law_is_word d__law_is_word.scope df__law_is_word.body d__law_is_word.body = true := by kernel_rfl
def d__law_is_tight : He.DefD := ⟨("_law_is_tight", none), "_law_is_tight", "_law_is_tight", defArgs (top 27), defBody (top 27), defScope (top 27), [], []⟩
theorem sc__law_is_tight : FnScope nn__law_is_tight ["_law_first", "_law_second"] d__law_is_tight.scope := ⟨rfl, rfl, rfl, by decide +kernel, rfl, by decide +kernel, by decide +kernel⟩
theorem bd__law_is_tight (kV doc pm : Value) (an : Option Addr) (cdv ct : Value) (us : List Value) (hl : us.length = (["_law_first", "_law_second"] : List Str).length) : bindArgs (PySem.W.fnOf "_law_is_tight" "_law_is_tight" d__law_is_tight.params d__law_is_tight.body d__law_is_tight.scope .none kV doc pm an cdv ct) ⟨us, []⟩ = pure ((["_law_first", "_law_second"] : List Str).zip us) := match us, hl with | [_, _], _ => rfl
theorem ok__law_is_tight (P : Program) (w : World) (T : Tb) (mg : Str → Option Value) (base : Heap) (Φ : Fn) (lev : Nat) : okSs (cfg P w T mg base Φ lev) excs nn__law_is_tight d__law_is_tight.scope df__law_is_tight.body d__law_is_tight.body = true := by kernel_rfl
def d__law_laid : He.DefD := ⟨("_law_laid", none), "_law_laid", "_law_laid", defArgs (top 28), defBody (top 28), defScope (top 28), [], []⟩
theorem sc__law_laid : FnScope nn__law_laid ["_law_stream_here", "_law_words"] d__law_laid.scope := ⟨rfl, rfl, rfl, by decide +kernel, rfl, by decide +kernel, by decide +kernel⟩
theorem bd__law_laid (kV doc pm : Value) (an : Option Addr) (cdv ct : Value) (us : List Value) (hl : us.length = (["_law_stream_here", "_law_words"] : List Str).length) : bindArgs (PySem.W.fnOf "_law_laid" "_law_laid" d__law_laid.params d__law_laid.body d__law_laid.scope .none kV doc pm an cdv ct) ⟨us, []⟩ = pure ((["_law_stream_here", "_law_words"] : List Str).zip us) := match us, hl with | [_, _], _ => rfl
theorem ok__law_laid (P : Program) (w : World) (T : Tb) (mg : Str → Option Value) (base : Heap) (Φ : Fn) (lev : Nat) : okSs (cfg P w T mg base Φ lev) excs nn__law_laid d__law_laid.scope df__law_laid.body d__law_laid.body = true := by kernel_rfl
def d__law_reserved : He.DefD := ⟨("_law_reserved", none), "_law_reserved", "_law_reserved", defArgs (top 29), defBody (top 29), defScope (top 29), [], []⟩
theorem sc__law_reserved : FnScope nn__law_reserved [] d__law_reserved.scope := ⟨rfl, rfl, rfl, by decide +kernel, rfl, by decide +kernel, by decide +kernel⟩
theorem bd__law_reserved (kV doc pm : Value) (an : Option Addr) (cdv ct : Value) (us : List Value) (hl : us.length = ([] : List Str).length) : bindArgs (PySem.W.fnOf "_law_reserved" "_law_reserved" d__law_reserved.params d__law_reserved.body d__law_reserved.scope .none kV doc pm an cdv ct) ⟨us, []⟩ = pure (([] : List Str).zip us) := match us, hl with | [], _ => rfl
theorem ok__law_reserved (P : Program) (w : World) (T : Tb) (mg : Str → Option Value) (base : Heap) (Φ : Fn) (lev : Nat) : okSs (cfg P w T mg base Φ lev) excs nn__law_reserved d__law_reserved.scope df__law_reserved.body d__law_reserved.body = true := by kernel_rfl
def d__law_tokens : He.DefD := ⟨("_law_tokens", none), "_law_tokens", "_law_tokens", defArgs (top 30), defBody (top 30), defScope (top 30), [], []⟩
theorem sc__law_tokens : FnScope nn__law_tokens ["_law_stream_here"] d__law_tokens.scope := ⟨rfl, rfl, rfl, by decide +kernel, rfl, by decide +kernel, by decide +kernel⟩
theorem bd__law_tokens (kV doc pm : Value) (an : Option Addr) (cdv ct : Value) (us : List Value) (hl : us.length = (["_law_stream_here"] : List Str).length) : bindArgs (PySem.W.fnOf "_law_tokens" "_law_tokens" d__law_tokens.params d__law_tokens.body d__law_tokens.scope .none kV doc pm an cdv ct) ⟨us, []⟩ = pure ((["_law_stream_here"] : List Str).zip us) := match us, hl with | [_], _ => rfl
theorem ok__law_tokens (P : Program) (w : World) (T : Tb) (mg : Str → Option Value) (base : Heap) (Φ : Fn) (lev : Nat) : okSs (cfg P w T mg base Φ lev) excs nn__law_tokens d__law_tokens.scope df__law_tokens.body d__law_tokens.body = true := by kernel_rfl
def d__law_kind : He.DefD := ⟨("_law_kind", none), "_law_kind", "_law_kind", defArgs (top 31), defBody (top 31), defScope (top 31), [], []⟩
theorem sc__law_kind : FnScope nn__law_kind ["_law_word"] d__law_kind.scope := ⟨rfl, rfl, rfl, by decide +kernel, rfl, by decide +kernel, by decide +kernel⟩
theorem bd__law_kind (kV doc pm : Value) (an : Option Addr) (cdv ct : Value) (us : List Value) (hl : us.length = (["_law_word"] : List Str).length) : bindArgs (PySem.W.fnOf "_law_kind" "_law_kind" d__law_kind.params d__law_kind.body d__law_kind.scope .none kV doc pm an cdv ct) ⟨us, []⟩ = pure ((["_law_word"] : List Str).zip us) := match us, hl with | [_], _ => rfl
theorem ok__law_kind (P : Program) (w : World) (T : Tb) (mg : Str → Option Value) (base : Heap) (Φ : Fn) (lev : Nat) : okSs (cfg P w T mg base Φ lev) excs nn__law_kind d__law_kind.scope df__law_kind.body d__law_kind.body = true := by kernel_rfl
def d__law_problem : He.DefD := ⟨("_law_problem", none), "_law_problem", "_law_problem", defArgs (top 32), defBody (top 32), defScope (top 32), [], []⟩
theorem sc__law_problem : FnScope nn__law_problem ["_law_words"] d__law_problem.scope := ⟨rfl, rfl, rfl, by decide +kernel, rfl, by decide +kernel, by decide +kernel⟩
theorem bd__law_problem (kV doc pm : Value) (an : Option Addr) (cdv ct : Value) (us : List Value) (hl : us.length = (["_law_words"] : List Str).length) : bindArgs (PySem.W.fnOf "_law_problem" "_law_problem" d__law_problem.params d__law_problem.body d__law_problem.scope .none kV doc pm an cdv ct) ⟨us, []⟩ = pure ((["_law_words"] : List Str).zip us) := match us, hl with | [_], _ => rfl
theorem ok__law_problem (P : Program) (w : World) (T : Tb) (mg : Str → Option Value) (base : Heap) (Φ : Fn) (lev : Nat) : okSs (cfg P w T mg base Φ lev) excs nn__law_problem d__law_problem.scope df__law_problem.body d__law_problem.body = true := by kernel_rfl
def d__law_spoilt : He.DefD := ⟨("_law_spoilt", none), "_law_spoilt", "_law_spoilt", defArgs (top 33), defBody (top 33), defScope (top 33), [], []⟩
theorem sc__law_spoilt : FnScope nn__law_spoilt ["_law_stream_here", "_law_words"] d__law_spoilt.scope := ⟨rfl, rfl, rfl, by decide +kernel, rfl, by decide +kernel, by decide +kernel⟩
theorem bd__law_spoilt (kV doc pm : Value) (an : Option Addr) (cdv ct : Value) (us : List Value) (hl : us.length = (["_law_stream_here", "_law_words"] : List Str).length) : bindArgs (PySem.W.fnOf "_law_spoilt" "_law_spoilt" d__law_spoilt.params d__law_spoilt.body d__law_spoilt.scope .none kV doc pm an cdv ct) ⟨us, []⟩ = pure ((["_law_stream_here", "_law_words"] : List Str).zip us) := match us, hl with | [_, _], _ => rfl
theorem ok__law_spoilt (P : Program) (w : World) (T : Tb) (mg : Str → Option Value) (base : Heap) (Φ : Fn) (lev : Nat) : okSs (cfg P w T mg base Φ lev) excs nn__law_spoilt d__law_spoilt.scope df__law_spoilt.body d__law_spoilt.body = true := by kernel_rfl
def d__law_told : He.DefD := ⟨("_law_told", none), "_law_told", "_law_told", defArgs (top 34), defBody (top 34), defScope (top 34), [], []⟩
theorem sc__law_told : FnScope nn__law_told ["_law_text"] d__law_told.scope := ⟨rfl, rfl, rfl, by decide +kernel, rfl, by decide +kernel, by decide +kernel⟩
theorem bd__law_told (kV doc pm : Value) (an : Option Addr) (cdv ct : Value) (us : List Value) (hl : us.length = (["_law_text"] : List Str).length) : bindArgs (PySem.W.fnOf "_law_told" "_law_told" d__law_told.params d__law_told.body d__law_told.scope .none kV doc pm an cdv ct) ⟨us, []⟩ = pure ((["_law_text"] : List Str).zip us) := match us, hl with | [_], _ => rfl
theorem ok__law_told (P : Program) (w : World) (T : Tb) (mg : Str → Option Value) (base : Heap) (Φ : Fn) (lev : Nat) : okSs (cfg P w T mg base Φ lev) excs nn__law_told d__law_told.scope df__law_told.body d__law_told.body = true := by kernel_rfl
def d_law : He.DefD := ⟨("law", none), "law", "law", defArgs (top 35), defBody (top 35), defScope (top 35), [], []⟩
theorem sc_law : FnScope nn_law ["_law_script"] d_law.scope := ⟨rfl, rfl, rfl, by decide +kernel, rfl, by decide +kernel, by decide +kernel⟩
theorem bd_law (kV doc pm : Value) (an : Option Addr) (cdv ct : Value) (us : List Value) (hl : us.length = (["_law_script"] : List Str).length) : bindArgs (PySem.W.fnOf "law" "law" d_law.params d_law.body d_law.scope .none kV doc pm an cdv ct) ⟨us, []⟩ = pure ((["_law_script"] : List Str).zip us) := match us, hl with | [_], _ => rfl
theorem ok_law (P : Program) (w : World) (T : Tb) (mg : Str → Option Value) (base : Heap) (Φ : Fn) (lev : Nat) : okSs (cfg P w T mg base Φ lev) excs nn_law d_law.scope df_law.body d_law.body = true := by kernel_rfl
def clsBody : Stmt → Stmt
  | .ClassDef _ _ _ (b :: _) _ _ _ _ _ _ _ => b
  | s => s
def dI_TextError : He.DefD := ⟨("TextError", some "__init__"), "__init__", "TextError.__init__", defArgs (clsBody (top 2)), defBody (clsBody (top 2)), defScope (clsBody (top 2)), [], []⟩
theorem scI_TextError : FnScope ["self", "line", "column", "words"] ["self", "line", "column", "words"] dI_TextError.scope := ⟨rfl, rfl, rfl, by decide +kernel, rfl, by decide +kernel, by decide +kernel⟩
theorem bdI_TextError (kV doc pm : Value) (an : Option Addr) (cdv ct : Value) (us : List Value) (hl : us.length = (["self", "line", "column", "words"] : List Str).length) : bindArgs (PySem.W.fnOf "__init__" "TextError.__init__" dI_TextError.params dI_TextError.body dI_TextError.scope .none kV doc pm an cdv ct) ⟨us, []⟩ = pure ((["self", "line", "column", "words"] : List Str).zip us) := match us, hl with | [_, _, _, _], _ => rfl
def lI_TextError : List (Str × Nat) := [("line", 1), ("column", 2), ("words", 3)]
theorem okI_TextError : okInit ["self", "line", "column", "words"] dI_TextError.scope lI_TextError dI_TextError.body = true := by kernel_rfl
theorem hiI_TextError : ∀ (k : Nat) (p : Str × Nat), lI_TextError[k]? = some p → p.2 = k + 1
  | 0, p, h => by cases h; rfl
  | 1, p, h => by cases h; rfl
  | 2, p, h => by cases h; rfl
  | k + 3, p, h => by simp [lI_TextError] at h
end K70

set_option Elab.async false
set_option linter.all false
set_option maxRecDepth 100000
set_option autoImplicit false
set_option maxHeartbeats 0
/-! the end -/
namespace K70
open Ip PySem PySem.Spec PyProof.Rows L2

def fn : List He.DefD := [d_row_of, d_refuse, d_sign_at, d_token_at, d_depth_after, d_scan, d__law_stream, d__law_next, d__law_is_integer, d__law_equal, d__law_gap, d__law_is_word, d__law_is_tight, d__law_laid, d__law_reserved, d__law_tokens, d__law_kind, d__law_problem, d__law_spoilt, d__law_told, d_law, dI_TextError]
def fa : List Fact := faOf fns free globs excs
abbrev hk : PySem.W.Hook := hookI 5 fa fn
def ob (s : PySem.W.SharedT) : He.AlD := obsIG 5 fa fn (HandSHeadRun.getT s)
theorem ob_eq (s : PySem.W.SharedT) : ob s = hk.obs s.abs := obsIG_eq (HandSHeadRun.getT_eq s)
def loose0 : List PySem.Str := ["RuleError", "TextError", "row_of", "refuse", "sign_at", "token_at", "depth_after", "scan", "_law_stream", "_law_next", "_law_is_integer", "_law_equal", "_law_gap", "_law_is_word", "_law_is_tight", "_law_laid", "_law_reserved", "_law_tokens", "_law_kind", "_law_problem", "_law_spoilt", "_law_told", "SMALL", "DIGITS", "RESERVED", "MOST", "LONGEST_SYMBOL", "LONGEST_VARIABLE", "BLANKS", "SIGNS"]
def loose1 : List PySem.Str := ["MOST_DIGITS", "DEEPEST"]
def loose : List PySem.Str := loose0 ++ loose1
abbrev R : PySem.W.OpenRow := PySem.W.OpenLaw.row PySem.Challenge.rw_rulestand_k70_tokens_and_places
theorem run (w : World) : HandSHeadRun.RunEq R (PySem.W.view R.prog [35]) hk ob 1500 loose w := by
  intro os
  kernel_rfl
abbrev cfg0 (P : Program) (w : World) (K : PySem.W.Frag) (mg : Str → Option Value) (base : Heap) : Cfg := cfg P w ⟨K, He.ga K⟩ mg base (fun _ _ _ => .stuck) 0
theorem tab_fn {P : Program} {w : World} {K : PySem.W.Frag} {h : Heap} {mg : Str → Option Value} (X : K.In h) (G : h.Ns mainGlobals mg) (c : SaysI fa fn K) (base : Heap) : ∀ f ∈ fns, DefOk (cfg0 P w K mg base) excs tab f := by
  refine List.forall_mem_cons.mpr ⟨defOk_of (B := cfg0 P w K mg base) X G c (List.mem_of_getElem? (i := 0) rfl) (List.mem_of_getElem? (i := 0) rfl) rfl sc_row_of bd_row_of rfl rfl rfl (fun Φ lev => ok_row_of P w ⟨K, He.ga K⟩ mg base Φ lev), ?_⟩
  refine List.forall_mem_cons.mpr ⟨defOk_of (B := cfg0 P w K mg base) X G c (List.mem_of_getElem? (i := 1) rfl) (List.mem_of_getElem? (i := 1) rfl) rfl sc_refuse bd_refuse rfl rfl rfl (fun Φ lev => ok_refuse P w ⟨K, He.ga K⟩ mg base Φ lev), ?_⟩
  refine List.forall_mem_cons.mpr ⟨defOk_of (B := cfg0 P w K mg base) X G c (List.mem_of_getElem? (i := 2) rfl) (List.mem_of_getElem? (i := 2) rfl) rfl sc_sign_at bd_sign_at rfl rfl rfl (fun Φ lev => ok_sign_at P w ⟨K, He.ga K⟩ mg base Φ lev), ?_⟩
  refine List.forall_mem_cons.mpr ⟨defOk_of (B := cfg0 P w K mg base) X G c (List.mem_of_getElem? (i := 3) rfl) (List.mem_of_getElem? (i := 3) rfl) rfl sc_token_at bd_token_at rfl rfl rfl (fun Φ lev => ok_token_at P w ⟨K, He.ga K⟩ mg base Φ lev), ?_⟩
  refine List.forall_mem_cons.mpr ⟨defOk_of (B := cfg0 P w K mg base) X G c (List.mem_of_getElem? (i := 4) rfl) (List.mem_of_getElem? (i := 4) rfl) rfl sc_depth_after bd_depth_after rfl rfl rfl (fun Φ lev => ok_depth_after P w ⟨K, He.ga K⟩ mg base Φ lev), ?_⟩
  refine List.forall_mem_cons.mpr ⟨defOk_of (B := cfg0 P w K mg base) X G c (List.mem_of_getElem? (i := 5) rfl) (List.mem_of_getElem? (i := 5) rfl) rfl sc_scan bd_scan rfl rfl rfl (fun Φ lev => ok_scan P w ⟨K, He.ga K⟩ mg base Φ lev), ?_⟩
  refine List.forall_mem_cons.mpr ⟨defOk_of (B := cfg0 P w K mg base) X G c (List.mem_of_getElem? (i := 6) rfl) (List.mem_of_getElem? (i := 6) rfl) rfl sc__law_stream bd__law_stream rfl rfl rfl (fun Φ lev => ok__law_stream P w ⟨K, He.ga K⟩ mg base Φ lev), ?_⟩
  refine List.forall_mem_cons.mpr ⟨defOk_of (B := cfg0 P w K mg base) X G c (List.mem_of_getElem? (i := 7) rfl) (List.mem_of_getElem? (i := 7) rfl) rfl sc__law_next bd__law_next rfl rfl rfl (fun Φ lev => ok__law_next P w ⟨K, He.ga K⟩ mg base Φ lev), ?_⟩
  refine List.forall_mem_cons.mpr ⟨defOk_of (B := cfg0 P w K mg base) X G c (List.mem_of_getElem? (i := 8) rfl) (List.mem_of_getElem? (i := 8) rfl) rfl sc__law_is_integer bd__law_is_integer rfl rfl rfl (fun Φ lev => ok__law_is_integer P w ⟨K, He.ga K⟩ mg base Φ lev), ?_⟩
  refine List.forall_mem_cons.mpr ⟨defOk_of (B := cfg0 P w K mg base) X G c (List.mem_of_getElem? (i := 9) rfl) (List.mem_of_getElem? (i := 9) rfl) rfl sc__law_equal bd__law_equal rfl rfl rfl (fun Φ lev => ok__law_equal P w ⟨K, He.ga K⟩ mg base Φ lev), ?_⟩
  refine List.forall_mem_cons.mpr ⟨defOk_of (B := cfg0 P w K mg base) X G c (List.mem_of_getElem? (i := 10) rfl) (List.mem_of_getElem? (i := 10) rfl) rfl sc__law_gap bd__law_gap rfl rfl rfl (fun Φ lev => ok__law_gap P w ⟨K, He.ga K⟩ mg base Φ lev), ?_⟩
  refine List.forall_mem_cons.mpr ⟨defOk_of (B := cfg0 P w K mg base) X G c (List.mem_of_getElem? (i := 11) rfl) (List.mem_of_getElem? (i := 11) rfl) rfl sc__law_is_word bd__law_is_word rfl rfl rfl (fun Φ lev => ok__law_is_word P w ⟨K, He.ga K⟩ mg base Φ lev), ?_⟩
  refine List.forall_mem_cons.mpr ⟨defOk_of (B := cfg0 P w K mg base) X G c (List.mem_of_getElem? (i := 12) rfl) (List.mem_of_getElem? (i := 12) rfl) rfl sc__law_is_tight bd__law_is_tight rfl rfl rfl (fun Φ lev => ok__law_is_tight P w ⟨K, He.ga K⟩ mg base Φ lev), ?_⟩
  refine List.forall_mem_cons.mpr ⟨defOk_of (B := cfg0 P w K mg base) X G c (List.mem_of_getElem? (i := 13) rfl) (List.mem_of_getElem? (i := 13) rfl) rfl sc__law_laid bd__law_laid rfl rfl rfl (fun Φ lev => ok__law_laid P w ⟨K, He.ga K⟩ mg base Φ lev), ?_⟩
  refine List.forall_mem_cons.mpr ⟨defOk_of (B := cfg0 P w K mg base) X G c (List.mem_of_getElem? (i := 14) rfl) (List.mem_of_getElem? (i := 14) rfl) rfl sc__law_reserved bd__law_reserved rfl rfl rfl (fun Φ lev => ok__law_reserved P w ⟨K, He.ga K⟩ mg base Φ lev), ?_⟩
  refine List.forall_mem_cons.mpr ⟨defOk_of (B := cfg0 P w K mg base) X G c (List.mem_of_getElem? (i := 15) rfl) (List.mem_of_getElem? (i := 15) rfl) rfl sc__law_tokens bd__law_tokens rfl rfl rfl (fun Φ lev => ok__law_tokens P w ⟨K, He.ga K⟩ mg base Φ lev), ?_⟩
  refine List.forall_mem_cons.mpr ⟨defOk_of (B := cfg0 P w K mg base) X G c (List.mem_of_getElem? (i := 16) rfl) (List.mem_of_getElem? (i := 16) rfl) rfl sc__law_kind bd__law_kind rfl rfl rfl (fun Φ lev => ok__law_kind P w ⟨K, He.ga K⟩ mg base Φ lev), ?_⟩
  refine List.forall_mem_cons.mpr ⟨defOk_of (B := cfg0 P w K mg base) X G c (List.mem_of_getElem? (i := 17) rfl) (List.mem_of_getElem? (i := 17) rfl) rfl sc__law_problem bd__law_problem rfl rfl rfl (fun Φ lev => ok__law_problem P w ⟨K, He.ga K⟩ mg base Φ lev), ?_⟩
  refine List.forall_mem_cons.mpr ⟨defOk_of (B := cfg0 P w K mg base) X G c (List.mem_of_getElem? (i := 18) rfl) (List.mem_of_getElem? (i := 18) rfl) rfl sc__law_spoilt bd__law_spoilt rfl rfl rfl (fun Φ lev => ok__law_spoilt P w ⟨K, He.ga K⟩ mg base Φ lev), ?_⟩
  refine List.forall_mem_cons.mpr ⟨defOk_of (B := cfg0 P w K mg base) X G c (List.mem_of_getElem? (i := 19) rfl) (List.mem_of_getElem? (i := 19) rfl) rfl sc__law_told bd__law_told rfl rfl rfl (fun Φ lev => ok__law_told P w ⟨K, He.ga K⟩ mg base Φ lev), ?_⟩
  refine List.forall_mem_cons.mpr ⟨defOk_of (B := cfg0 P w K mg base) X G c (List.mem_of_getElem? (i := 20) rfl) (List.mem_of_getElem? (i := 20) rfl) rfl sc_law bd_law rfl rfl rfl (fun Φ lev => ok_law P w ⟨K, He.ga K⟩ mg base Φ lev), ?_⟩
  exact fun _ h => nomatch h
theorem tab_ex {P : Program} {w : World} {K : PySem.W.Frag} {h : Heap} {mg : Str → Option Value} (X : K.In h) (G : h.Ns mainGlobals mg) (c : SaysI fa fn K) (base : Heap) (x : Str) (fs : List Str) (hx : excs.lookup x = some fs) : ExOk (cfg0 P w K mg base) x fs := by
  have hx0 := hx
  unfold excs at hx
  simp only [List.lookup] at hx
  split at hx
  · rename_i e
    cases hx
    cases eq_of_beq e
    exact exOk_of (B := cfg0 P w K mg base) (fun _ => rfl) X G c (List.mem_of_getElem? (i := 21) rfl) hx0 rfl scI_TextError bdI_TextError okI_TextError rfl hiI_TextError (by simp) (by decide +kernel)
  cases hx
theorem tabOk {P : Program} {w : World} {K : PySem.W.Frag} {h : Heap} {mg : Str → Option Value} (X : K.In h) (G : h.Ns mainGlobals mg) (c : SaysI fa fn K) (base : Heap) : TabOk (cfg0 P w K mg base) excs tab :=
  ⟨tab_fn X G c base, fun x d hx => globB_ok X G (says_glb c hx), fun x hx => says_free c X G hx, tab_ex X G c base⟩
end K70
open PySem PySem.W PySem.Calls PyProof.Rows
theorem K70.holds (plain : ∀ ns : List Int, ns.length ≤ 63 → ∃ st, K70.df_law.run (Ip.callF K70.tab (Ip.xcOf K70.excs) 12) (Ip.xcOf K70.excs) [.scr ns] [] = .ok (.bl true) st) : PySem.Challenge.rw_rulestand_k70_tokens_and_places.Holds := by
  w_on; o_law
  refine HandSHeadRun.head_any (r := OpenLaw.row PySem.Challenge.rw_rulestand_k70_tokens_and_places) (q := view (OpenLaw.row PySem.Challenge.rw_rulestand_k70_tokens_and_places).prog [35]) (H := K70.hk) (ob := K70.ob) (M := 1500) (loose := K70.loose) (d := HandSHeadRun.topDef (OpenLaw.row PySem.Challenge.rw_rulestand_k70_tokens_and_places).prog 35) (kwd := []) K70.ob_eq
    (by kernel_rfl) (fun s => by kernel_rfl) K70.run (by kernel_rfl) (by kernel_rfl) (by kernel_rfl) (by rfl) (by first | assumption | decide +kernel) (by decide +kernel) ⟨rfl, rfl, rfl, rfl, rfl, by decide +kernel⟩ ?hw ?hc
  case hw => w_witness2
  case hc =>
    refine L2.walk_ofE (l := PySem.Challenge.rw_rulestand_k70_tokens_and_places) (n := 63) (k := 15) (x := "_law_script") (CX := L2.CX0) rfl (by decide) (by kernel_rfl) ⟨rfl, by decide, by decide⟩ ?F (fun _ _ _ _ z => z)
    intro w mg fa h Y G hmg0
    obtain ⟨K, KX, c⟩ := Y
    have hmg : mg ("law" : PySem.Str) = some (.ref fa) := by
      have e : (HandSHeadRun.topDef (OpenLaw.row PySem.Challenge.rw_rulestand_k70_tokens_and_places).prog 35).name = ("law" : PySem.Str) := by kernel_rfl
      rw [← e]
      exact hmg0
    obtain ⟨fd, F⟩ := c.def_ (d := K70.d_law) (List.mem_of_getElem? (i := 20) rfl)
    have e := hmg.symm.trans (Ip.says_glo c KX G (f := "law") (List.mem_of_getElem? (i := 20) rfl))
    cases e
    exact ⟨K, fd, Ip.spLaw ⟨K, He.ga K⟩ (K70.df_law.run (Ip.callF K70.tab (Ip.xcOf K70.excs) 12) (Ip.xcOf K70.excs)), KX, fun s v => L2.FunD.bindsA F K70.bd_law s [v] rfl, fun H a ns hl _ hS => Ip.law_sp (T := ⟨K, He.ga K⟩) plain H a ns hl hS,
      fun base _ _ => Ip.law_fn (B := K70.cfg0 (PySem.Challenge.rw_rulestand_k70_tokens_and_places).prog w K mg base) (K70.tabOk KX G c base) F K70.sc_law rfl rfl fun Φ lev => K70.ok_law _ w ⟨K, He.ga K⟩ mg base Φ lev⟩

theorem PySem.Challenge.cw_rulestand_k70_tokens_and_places_holds : PySem.Challenge.rw_rulestand_k70_tokens_and_places.Holds :=
  K70.holds fun ns _ => K70.law_ok ns
