import PyProof.Rows.All
import Wide.All
import OpenK.AllK
import Wide.FinOn
import HandS.ForMost
import HandS.Exc
import HandS.ExcOwn
import HandS.TryOnly
import HandS.WordsExc
import HandS.IsInst
import HandS.Deep
import HandS.TupAny
import HandS.TupMul
import HandS.SetFor
import HandS.Small
import HandS.NoneIn
import HandS.Style
import HandS.Zip
import HandS.Flow
import HandS.HeadHook2
import HandS.Head0
import HandS.Head1
import HandS.Head2
import HandS.HeadEnd
import PySem.Challenge.RW_shadowroom_k05_whole_rooms_never_meet
set_option Elab.async false
set_option linter.all false
set_option maxRecDepth 100000
set_option maxHeartbeats 4000000
/-! Sw, part A: data trees, objects by numbers, the monad, and how they stand for the machine's heap. -/
namespace Sw
open PySem PySem.Spec PyProof.Rows L2

/-- data: a value with all that never changes; what changes is a number into the list of objects -/
inductive D where
  | non | bl (b : Bool) | int (i : Int) | str (s : Str) | tup (xs : List D) | lst (xs : List D) | ref (n : Nat) | rd (ns : List Int) | clo (k : Nat) (xs : List D)
  deriving Inhabited

/-- an object that may change -/
inductive Ob where
  | lst (xs : List D)
  | dct (kvs : List (Key × D))
  | dtu (kvs : List (List Key × D))
  | ins (C : Str) (fs : List (Str × D))

abbrev PH := List Ob
inductive R (α : Type) where
  | ok (a : α) (h : PH)
  | ex (c : Str) (xs : List D) (h : PH)
  | bad
abbrev M (α : Type) : Type := PH → R α
abbrev Env := List (Option D)
abbrev EM := Env → M D
abbrev LM := Env → M (List D)
abbrev TM := Env → M Bool

def pur {α : Type} (a : α) : M α := fun h => .ok a h
def bnd {α β : Type} (m : M α) (f : α → M β) : M β := fun h => match m h with
  | .ok a h' => f a h'
  | .ex c xs h' => .ex c xs h'
  | .bad => .bad
def bad {α : Type} : M α := fun _ => .bad

section
variable {α β γ : Type}
theorem pur_ap (a : α) (h : PH) : pur a h = .ok a h := rfl
theorem bnd_ap (m : M α) (f : α → M β) (h : PH) : bnd m f h = (match m h with
  | .ok a h' => f a h'
  | .ex c xs h' => .ex c xs h'
  | .bad => .bad) := rfl
theorem bnd_ok {m : M α} {f : α → M β} {h h' : PH} {a : α} (e : m h = .ok a h') : bnd m f h = f a h' := by
  unfold bnd
  rw [e]
end

/-! ### the world: how data stands for machine values -/
/-- K: the written part; cl: the classes' addresses; U: addresses held by one owner each; rho: the objects' addresses; H: the abstract heap -/
structure Wd where
  K : PySem.W.Frag
  cl : Str → Addr
  U : Addr → Prop
  ρ : List Addr
  H : Hp

def KT (K : PySem.W.Frag) (a : Addr) (xs : List V) : Prop := ∃ (o : Obj) (its : Array Value) (n : Nat), K.lookup a = some o ∧ o.cls = .type "tuple" ∧ o.data = .seq its n ∧ its.size ≤ sizeLine ∧ Vals xs its.toList

def AtT (G : Wd) (a : Addr) (vs : List V) : Prop := (G.H a = some (.tup vs) ∧ a ∉ G.ρ ∧ ¬ G.U a ∧ vs.length ≤ sizeLine) ∨ KT G.K a vs
def KL (K : PySem.W.Frag) (a : Addr) (xs : List V) : Prop := ∃ (o : Obj) (its : Array Value) (n : Nat), K.lookup a = some o ∧ o.cls = .type "list" ∧ o.dict = none ∧ o.data = .seq its n ∧ its.size ≤ sizeLine ∧ Vals xs its.toList
def AtL (G : Wd) (a : Addr) (vs : List V) : Prop := G.H a = some (.lst vs) ∧ a ∉ G.ρ ∧ ¬ G.U a ∧ vs.length ≤ sizeLine
/-- a list of ints that is only read: the script -/
def AtR (G : Wd) (a : Addr) (vs : List V) : Prop := ((G.H a = some (.lst vs) ∨ ∃ o, G.H a = some (.frz o (.lst vs))) ∧ a ∉ G.ρ ∧ ¬ G.U a ∧ vs.length ≤ sizeLine) ∨ KL G.K a vs

mutual
def Rep (G : Wd) : D → V → Prop
  | .non, v => v = .non
  | .bl b, v => v = .bl b
  | .int i, v => v = .int i
  | .str s, v => v = .str s ∧ PyData.strOk s = true
  | .tup xs, v => ∃ a vs, v = .ref a ∧ AtT G a vs ∧ Reps G xs vs
  | .lst xs, v => ∃ a vs, v = .ref a ∧ AtL G a vs ∧ Reps G xs vs
  | .ref n, v => ∃ a, G.ρ[n]? = some a ∧ v = .ref a
  | .rd ns, v => ∃ a, v = .ref a ∧ AtR G a (ns.map V.int)
  | .clo _ _, _ => False
def Reps (G : Wd) : List D → List V → Prop
  | [], vs => vs = []
  | x :: xs, vs => ∃ v r, vs = v :: r ∧ Rep G x v ∧ Reps G xs r
end

theorem Reps.len {G : Wd} : ∀ {xs : List D} {vs : List V}, Reps G xs vs → vs.length = xs.length
  | [], vs, h => by
    unfold Reps at h
    rw [h]
    all_goals rfl
  | x :: xs, vs, h => by
    unfold Reps at h
    obtain ⟨v, r, rfl, _, h2⟩ := h
    rw [List.length_cons, List.length_cons, Reps.len h2]
theorem Reps.get {G : Wd} : ∀ {xs : List D} {vs : List V}, Reps G xs vs → ∀ {i : Nat} {x : D}, xs[i]? = some x → ∃ v, vs[i]? = some v ∧ Rep G x v
  | [], _, _, _, _, e => by simp at e
  | x :: xs, vs, h, 0, y, e => by
    unfold Reps at h
    obtain ⟨v, r, rfl, h1, _⟩ := h
    simp at e
    subst e
    exact ⟨v, rfl, h1⟩
  | x :: xs, vs, h, i + 1, y, e => by
    unfold Reps at h
    obtain ⟨v, r, rfl, _, h2⟩ := h
    obtain ⟨u, e1, e2⟩ := Reps.get h2 (i := i) (x := y) (by simpa using e)
    exact ⟨u, by simpa using e1, e2⟩
theorem Reps.app {G : Wd} : ∀ {xs ys : List D} {vs us : List V}, Reps G xs vs → Reps G ys us → Reps G (xs ++ ys) (vs ++ us)
  | [], ys, vs, us, h, h' => by
    unfold Reps at h
    rw [h]
    exact h'
  | x :: xs, ys, vs, us, h, h' => by
    unfold Reps at h
    obtain ⟨v, r, rfl, h1, h2⟩ := h
    show Reps G (x :: (xs ++ ys)) (v :: (r ++ us))
    unfold Reps
    exact ⟨v, _, rfl, h1, Reps.app h2 h'⟩
theorem Reps.one {G : Wd} {x : D} {v : V} (h : Rep G x v) : Reps G [x] [v] := by
  unfold Reps
  exact ⟨v, [], rfl, h, by unfold Reps; rfl⟩
theorem Reps.nil {G : Wd} : Reps G [] [] := by
  unfold Reps
  rfl
theorem Reps.cons {G : Wd} {x : D} {v : V} {xs : List D} {vs : List V} (h : Rep G x v) (t : Reps G xs vs) : Reps G (x :: xs) (v :: vs) := by
  unfold Reps
  exact ⟨v, vs, rfl, h, t⟩
theorem Reps.nil_inv {G : Wd} {vs : List V} (h : Reps G [] vs) : vs = [] := by
  unfold Reps at h
  exact h
theorem Reps.cons_inv {G : Wd} {x : D} {xs : List D} {vs : List V} (h : Reps G (x :: xs) vs) : ∃ v r, vs = v :: r ∧ Rep G x v ∧ Reps G xs r := by
  unfold Reps at h
  exact h
theorem Reps.take {G : Wd} : ∀ {xs : List D} {vs : List V} (n : Nat), Reps G xs vs → Reps G (xs.take n) (vs.take n)
  | _, _, 0, _ => by
    simp only [List.take_zero]
    exact .nil
  | [], vs, n + 1, h => by
    rw [h.nil_inv]
    exact .nil
  | x :: xs, vs, n + 1, h => by
    obtain ⟨v, r, rfl, h1, h2⟩ := h.cons_inv
    simp only [List.take_succ_cons]
    exact .cons h1 (Reps.take n h2)
theorem Reps.drop {G : Wd} : ∀ {xs : List D} {vs : List V} (n : Nat), Reps G xs vs → Reps G (xs.drop n) (vs.drop n)
  | _, _, 0, h => by
    simp only [List.drop_zero]
    exact h
  | [], vs, n + 1, h => by
    rw [h.nil_inv]
    exact .nil
  | x :: xs, vs, n + 1, h => by
    obtain ⟨v, r, rfl, h1, h2⟩ := h.cons_inv
    simp only [List.drop_succ_cons]
    exact Reps.drop n h2
theorem Reps.set {G : Wd} : ∀ {xs : List D} {vs : List V} (n : Nat) {x : D} {v : V}, Reps G xs vs → Rep G x v → Reps G (xs.set n x) (vs.set n v)
  | [], vs, n, _, _, h, _ => by
    rw [h.nil_inv]
    exact .nil
  | y :: xs, vs, 0, x, v, h, q => by
    obtain ⟨u, r, rfl, h1, h2⟩ := h.cons_inv
    exact .cons q h2
  | y :: xs, vs, n + 1, x, v, h, q => by
    obtain ⟨u, r, rfl, h1, h2⟩ := h.cons_inv
    exact .cons h1 (Reps.set n h2 q)
theorem Reps.erase {G : Wd} : ∀ {xs : List D} {vs : List V} (n : Nat), Reps G xs vs → Reps G (xs.eraseIdx n) (vs.eraseIdx n)
  | [], vs, n, h => by
    rw [h.nil_inv]
    exact .nil
  | y :: xs, vs, 0, h => by
    obtain ⟨u, r, rfl, h1, h2⟩ := h.cons_inv
    exact h2
  | y :: xs, vs, n + 1, h => by
    obtain ⟨u, r, rfl, h1, h2⟩ := h.cons_inv
    exact .cons h1 (Reps.erase n h2)
theorem Reps.rev {G : Wd} : ∀ {xs : List D} {vs : List V}, Reps G xs vs → Reps G xs.reverse vs.reverse
  | [], vs, h => by
    rw [h.nil_inv]
    exact .nil
  | y :: xs, vs, h => by
    obtain ⟨u, r, rfl, h1, h2⟩ := h.cons_inv
    rw [List.reverse_cons, List.reverse_cons]
    exact (Reps.rev h2).app (.one h1)
theorem Reps.rep {G : Wd} {xs : List D} {vs : List V} (h : Reps G xs vs) : ∀ k : Nat, Reps G (List.replicate k xs).flatten (List.replicate k vs).flatten
  | 0 => .nil
  | k + 1 => by
    simp only [List.replicate_succ, List.flatten_cons]
    exact h.app (Reps.rep h k)

/-- what leans on a world stands in the next one -/
structure Wd.Le (G G' : Wd) : Prop where
  K : G'.K = G.K
  cl : G'.cl = G.cl
  ρ : G.ρ <+: G'.ρ
  st : ∀ a o, G.H a = some o → a ∉ G.ρ → ¬ G.U a → G'.H a = some o ∧ a ∉ G'.ρ ∧ ¬ G'.U a
theorem Wd.Le.refl (G : Wd) : G.Le G := ⟨rfl, rfl, List.prefix_refl _, fun _ _ h1 h2 h3 => ⟨h1, h2, h3⟩⟩
theorem Wd.Le.trans {G1 G2 G3 : Wd} (a : G1.Le G2) (b : G2.Le G3) : G1.Le G3 :=
  ⟨b.K.trans a.K, b.cl.trans a.cl, a.ρ.trans b.ρ, fun c o h1 h2 h3 => let ⟨q1, q2, q3⟩ := a.st c o h1 h2 h3; b.st c o q1 q2 q3⟩
theorem pre_get {α : Type} {l l' : List α} (h : l <+: l') {n : Nat} {a : α} (e : l[n]? = some a) : l'[n]? = some a := by
  obtain ⟨t, rfl⟩ := h
  rw [List.getElem?_append_left (by
    have := (List.getElem?_eq_some_iff.mp e).1
    exact this)]
  exact e
theorem AtT.le {G G' : Wd} (l : G.Le G') {a : Addr} {vs : List V} (h : AtT G a vs) : AtT G' a vs := by
  rcases h with ⟨h1, h2, h3, h4⟩ | h
  · obtain ⟨q1, q2, q3⟩ := l.st a _ h1 h2 h3
    exact .inl ⟨q1, q2, q3, h4⟩
  · exact .inr (by rw [l.K]; exact h)
theorem AtL.le {G G' : Wd} (l : G.Le G') {a : Addr} {vs : List V} (h : AtL G a vs) : AtL G' a vs := by
  obtain ⟨h1, h2, h3, h4⟩ := h
  obtain ⟨q1, q2, q3⟩ := l.st a _ h1 h2 h3
  exact ⟨q1, q2, q3, h4⟩
theorem AtR.le {G G' : Wd} (l : G.Le G') {a : Addr} {vs : List V} (h : AtR G a vs) : AtR G' a vs := by
  rcases h with ⟨h1, h2, h3, h4⟩ | h
  · rcases h1 with h1 | ⟨o, h1⟩
    · obtain ⟨q1, q2, q3⟩ := l.st a _ h1 h2 h3
      exact .inl ⟨.inl q1, q2, q3, h4⟩
    · obtain ⟨q1, q2, q3⟩ := l.st a _ h1 h2 h3
      exact .inl ⟨.inr ⟨o, q1⟩, q2, q3, h4⟩
  · exact .inr (by rw [l.K]; exact h)
mutual
theorem Rep.le {G G' : Wd} (l : G.Le G') : ∀ (d : D) {v : V}, Rep G d v → Rep G' d v
  | .non, v, h => by
    unfold Rep at h ⊢
    exact h
  | .bl b, v, h => by
    unfold Rep at h ⊢
    exact h
  | .int i, v, h => by
    unfold Rep at h ⊢
    exact h
  | .str s, v, h => by
    unfold Rep at h ⊢
    exact h
  | .tup xs, v, h => by
    unfold Rep at h ⊢
    obtain ⟨a, vs, e, h1, h2⟩ := h
    exact ⟨a, vs, e, h1.le l, Reps.le l xs h2⟩
  | .lst xs, v, h => by
    unfold Rep at h ⊢
    obtain ⟨a, vs, e, h1, h2⟩ := h
    exact ⟨a, vs, e, h1.le l, Reps.le l xs h2⟩
  | .ref n, v, h => by
    unfold Rep at h ⊢
    obtain ⟨a, e, h1⟩ := h
    exact ⟨a, pre_get l.ρ e, h1⟩
  | .rd ns, v, h => by
    unfold Rep at h ⊢
    obtain ⟨a, e, h1⟩ := h
    exact ⟨a, e, h1.le l⟩
  | .clo _ _, v, h => by
    unfold Rep at h
    exact h.elim
theorem Reps.le {G G' : Wd} (l : G.Le G') : ∀ (xs : List D) {vs : List V}, Reps G xs vs → Reps G' xs vs
  | [], vs, h => by
    unfold Reps at h ⊢
    exact h
  | x :: xs, vs, h => by
    unfold Reps at h ⊢
    obtain ⟨v, r, e, h1, h2⟩ := h
    exact ⟨v, r, e, Rep.le l x h1, Reps.le l xs h2⟩
end

/-- the pairs of a dict -/
def RepKV {κ : Type} (G : Wd) (kvs : List (κ × D)) (kvs' : List (κ × V)) : Prop := kvs'.map (·.1) = kvs.map (·.1) ∧ Reps G (kvs.map (·.2)) (kvs'.map (·.2))
theorem RepKV.le {κ : Type} {G G' : Wd} (l : G.Le G') {kvs : List (κ × D)} {kvs' : List (κ × V)} (h : RepKV G kvs kvs') : RepKV G' kvs kvs' := ⟨h.1, Reps.le l _ h.2⟩

def ObAt (G : Wd) (a : Addr) : Ob → Prop
  | .lst xs => ∃ vs, G.H a = some (.lst vs) ∧ vs.length ≤ sizeLine ∧ Reps G xs vs
  | .dct kvs => ∃ kvs', G.H a = some (.dK kvs') ∧ RepKV G kvs kvs'
  | .dtu kvs => ∃ kvs', G.H a = some (.dT kvs') ∧ RepKV G kvs kvs'
  | .ins C fs => ∃ dx fs', G.H a = some (.ins (G.cl C) dx fs') ∧ RepKV G fs fs'

structure Wd.Ok (G : Wd) (h : PH) : Prop where
  len : G.ρ.length = h.length
  nd : G.ρ.Nodup
  own : ∀ a, G.U a → a ∉ G.ρ ∧ ∃ vs, G.H a = some (.lst vs)
  obs : ∀ (n : Nat) a o, G.ρ[n]? = some a → h[n]? = some o → ObAt G a o

/-- an expression's step: owned addresses are as they were -/
structure Wd.To (G G' : Wd) : Prop where
  le : G.Le G'
  U : G'.U = G.U
  ow : ∀ a, G.U a → G'.H a = G.H a
theorem Wd.To.refl (G : Wd) : G.To G := ⟨.refl G, rfl, fun _ _ => rfl⟩
theorem Wd.To.trans {G1 G2 G3 : Wd} (a : G1.To G2) (b : G2.To G3) : G1.To G3 :=
  ⟨a.le.trans b.le, b.U.trans a.U, fun c h => (b.ow c (by rw [a.U]; exact h)).trans (a.ow c h)⟩
theorem ObAt.le {G G' : Wd} (l : G.Le G') {a : Addr} (e : G'.H a = G.H a) : ∀ {o : Ob}, ObAt G a o → ObAt G' a o
  | .lst xs, h => by
    obtain ⟨vs, h1, h2, h3⟩ := h
    exact ⟨vs, e.trans h1, h2, Reps.le l _ h3⟩
  | .dct kvs, h => by
    obtain ⟨vs, h1, h3⟩ := h
    exact ⟨vs, e.trans h1, h3.le l⟩
  | .dtu kvs, h => by
    obtain ⟨vs, h1, h3⟩ := h
    exact ⟨vs, e.trans h1, h3.le l⟩
  | .ins C fs, h => by
    obtain ⟨dx, vs, h1, h3⟩ := h
    exact ⟨dx, vs, e.trans (by rw [l.cl]; exact h1), h3.le l⟩
/-- what stands at an object's address -/
theorem Wd.Ok.at {G : Wd} {h : PH} (k : G.Ok h) {n : Nat} {a : Addr} (e : G.ρ[n]? = some a) : ∃ o, h[n]? = some o ∧ ObAt G a o := by
  have hn : n < h.length := by
    rw [← k.len]
    exact (List.getElem?_eq_some_iff.mp e).1
  exact ⟨h[n], List.getElem?_eq_getElem hn, k.obs n a _ e (List.getElem?_eq_getElem hn)⟩
theorem ObAt.some_ {G : Wd} {a : Addr} {o : Ob} (h : ObAt G a o) : ∃ u, G.H a = some u ∧ (∀ xs, u ≠ .tup xs) ∧ (∀ o x, u ≠ .frz o x) := by
  cases o with
  | lst xs =>
    obtain ⟨vs, h1, _⟩ := h
    exact ⟨_, h1, fun _ z => (by cases z), fun _ _ z => (by cases z)⟩
  | dct xs =>
    obtain ⟨vs, h1, _⟩ := h
    exact ⟨_, h1, fun _ z => (by cases z), fun _ _ z => (by cases z)⟩
  | dtu xs =>
    obtain ⟨vs, h1, _⟩ := h
    exact ⟨_, h1, fun _ z => (by cases z), fun _ _ z => (by cases z)⟩
  | ins C xs =>
    obtain ⟨dx, vs, h1, _⟩ := h
    exact ⟨_, h1, fun _ z => (by cases z), fun _ _ z => (by cases z)⟩

/-! ### steps of a world -/
/-- a thing that is not tracked as an object is laid at a free place -/
def Wd.lay (G : Wd) (p : Addr) (o : HO) : Wd := { G with H := upd G.H p o }
/-- the same, held by one owner -/
def Wd.layU (G : Wd) (p : Addr) (o : HO) : Wd := { G with H := upd G.H p o, U := fun a => a = p ∨ G.U a }
/-- .. as a new object -/
def Wd.layO (G : Wd) (p : Addr) (o : HO) : Wd := { G with H := upd G.H p o, ρ := G.ρ ++ [p] }
/-- the object at p is changed -/
def Wd.put (G : Wd) (p : Addr) (o : HO) : Wd := { G with H := upd G.H p o }

theorem Wd.Ok.in_ {G : Wd} {h : PH} (k : G.Ok h) {a : Addr} (e : a ∈ G.ρ) : ∃ u, G.H a = some u := by
  obtain ⟨n, hn, rfl⟩ := List.mem_iff_getElem.mp e
  obtain ⟨o, _, ho⟩ := k.at (n := n) (a := G.ρ[n]) (List.getElem?_eq_getElem hn)
  obtain ⟨u, hu, _⟩ := ho.some_
  exact ⟨u, hu⟩
theorem Wd.Ok.notin {G : Wd} {h : PH} (k : G.Ok h) {p : Addr} (e : G.H p = none) : p ∉ G.ρ := fun hm => by
  obtain ⟨u, hu⟩ := k.in_ hm
  rw [e] at hu
  cases hu
theorem Wd.Ok.notU {G : Wd} {h : PH} (k : G.Ok h) {p : Addr} (e : G.H p = none) : ¬ G.U p := fun hm => by
  obtain ⟨_, vs, hu⟩ := k.own p hm
  rw [e] at hu
  cases hu
theorem Wd.Ok.neU {G : Wd} {h : PH} (k : G.Ok h) {p a : Addr} (e : G.H p = none) (ha : G.U a) : a ≠ p := fun q => k.notU e (q ▸ ha)
theorem Wd.Ok.neR {G : Wd} {h : PH} (k : G.Ok h) {p a : Addr} (e : G.H p = none) (ha : a ∈ G.ρ) : a ≠ p := fun q => k.notin e (q ▸ ha)
theorem Wd.lay_to {G : Wd} {h : PH} (k : G.Ok h) {p : Addr} {o : HO} (e : G.H p = none) : G.To (G.lay p o) :=
  ⟨⟨rfl, rfl, List.prefix_refl _, fun a u h1 h2 h3 => ⟨(upd_ne (ne_of_none h1 e)).trans h1, h2, h3⟩⟩, rfl, fun a ha => upd_ne (k.neU e ha)⟩
theorem Wd.lay_ok {G : Wd} {h : PH} (k : G.Ok h) {p : Addr} {o : HO} (e : G.H p = none) : (G.lay p o).Ok h where
  len := k.len
  nd := k.nd
  own := fun a ha => by
    obtain ⟨h1, vs, h2⟩ := k.own a ha
    exact ⟨h1, vs, (upd_ne (k.neU e ha)).trans h2⟩
  obs := fun n a ob h1 h2 => (k.obs n a ob h1 h2).le (Wd.lay_to k e).le (upd_ne (k.neR e (List.mem_of_getElem? h1)))
/-- a new list with one owner -/
theorem Wd.layU_le {G : Wd} {p : Addr} {o : HO} (e : G.H p = none) : G.Le (G.layU p o) :=
  ⟨rfl, rfl, List.prefix_refl _, fun a u h1 h2 h3 => ⟨(upd_ne (ne_of_none h1 e)).trans h1, h2, fun q => q.elim (ne_of_none h1 e) h3⟩⟩
theorem Wd.layU_ok {G : Wd} {h : PH} (k : G.Ok h) {p : Addr} {vs : List V} (e : G.H p = none) : (G.layU p (.lst vs)).Ok h where
  len := k.len
  nd := k.nd
  own := fun a ha => by
    rcases ha with rfl | ha
    · exact ⟨k.notin e, vs, upd_same⟩
    · obtain ⟨h1, vs, h2⟩ := k.own a ha
      exact ⟨h1, vs, (upd_ne (k.neU e ha)).trans h2⟩
  obs := fun n a ob h1 h2 => (k.obs n a ob h1 h2).le (Wd.layU_le e) (upd_ne (k.neR e (List.mem_of_getElem? h1)))
/-- a new object -/
theorem Wd.layO_to {G : Wd} {h : PH} (k : G.Ok h) {p : Addr} {o : HO} (e : G.H p = none) : G.To (G.layO p o) :=
  ⟨⟨rfl, rfl, List.prefix_append _ _, fun a u h1 h2 h3 => ⟨(upd_ne (ne_of_none h1 e)).trans h1, fun q => by
    rcases List.mem_append.mp q with q | q
    · exact h2 q
    · exact ne_of_none h1 e (by simpa using q), h3⟩⟩, rfl, fun a ha => upd_ne (k.neU e ha)⟩
theorem Wd.layO_ok {G : Wd} {h : PH} (k : G.Ok h) {p : Addr} {o : HO} {ob : Ob} (e : G.H p = none) (new : ObAt (G.layO p o) p ob) : (G.layO p o).Ok (h ++ [ob]) where
  len := by
    show (G.ρ ++ [p]).length = _
    rw [List.length_append, List.length_append, k.len]
    all_goals rfl
  nd := by
    show (G.ρ ++ [p]).Nodup
    rw [List.nodup_append]
    refine ⟨k.nd, by simp, fun a ha b hb => ?_⟩
    have : b = p := by simpa using hb
    subst this
    exact k.neR e ha
  own := fun a ha => by
    obtain ⟨h1, vs, h2⟩ := k.own a ha
    refine ⟨fun q => ?_, vs, (upd_ne (k.neU e ha)).trans h2⟩
    rcases List.mem_append.mp q with q | q
    · exact h1 q
    · exact k.neU e ha (by simpa using q)
  obs := fun n a o' h1 h2 => by
    have h1 : (G.ρ ++ [p])[n]? = some a := h1
    by_cases hn : n < G.ρ.length
    · rw [List.getElem?_append_left hn] at h1
      rw [List.getElem?_append_left (by rw [← k.len]; exact hn)] at h2
      exact (k.obs n a o' h1 h2).le (Wd.layO_to k e).le (upd_ne (k.neR e (List.mem_of_getElem? h1)))
    · rw [List.getElem?_append_right (by omega)] at h1
      rw [List.getElem?_append_right (by rw [← k.len]; omega)] at h2
      have hz : n - G.ρ.length = 0 := by
        have := (List.getElem?_eq_some_iff.mp h1).1
        simp at this
        omega
      rw [hz] at h1
      rw [← k.len, hz] at h2
      simp at h1 h2
      subst h1 h2
      exact new
/-- an object changed -/
theorem Wd.put_to {G : Wd} {h : PH} (k : G.Ok h) {n : Nat} {p : Addr} {o : HO} (e : G.ρ[n]? = some p) : G.To (G.put p o) := by
  refine ⟨⟨rfl, rfl, List.prefix_refl _, fun a u h1 h2 h3 => ⟨?_, h2, h3⟩⟩, rfl, fun a ha => ?_⟩
  · have : a ≠ p := fun q => h2 (q ▸ List.mem_of_getElem? e)
    exact (upd_ne this).trans h1
  · have : a ≠ p := fun q => (k.own a ha).1 (q ▸ List.mem_of_getElem? e)
    exact upd_ne this
theorem nodup_ix2 {l : List Addr} (nd : l.Nodup) {i j : Nat} {a : Addr} (h1 : l[i]? = some a) (h2 : l[j]? = some a) : i = j := by
  obtain ⟨q1, e1⟩ := List.getElem?_eq_some_iff.mp h1
  obtain ⟨q2, e2⟩ := List.getElem?_eq_some_iff.mp h2
  exact (List.getElem_inj nd).mp (e1.trans e2.symm)
theorem Wd.put_ok {G : Wd} {h : PH} (k : G.Ok h) {n : Nat} {p : Addr} {o : HO} {ob : Ob} (e : G.ρ[n]? = some p) (new : ObAt (G.put p o) p ob) : (G.put p o).Ok (h.set n ob) where
  len := by
    rw [List.length_set]
    exact k.len
  nd := k.nd
  own := fun a ha => by
    obtain ⟨h1, vs, h2⟩ := k.own a ha
    have : a ≠ p := fun q => h1 (q ▸ List.mem_of_getElem? e)
    exact ⟨h1, vs, (upd_ne this).trans h2⟩
  obs := fun m a o' h1 h2 => by
    have h1 : G.ρ[m]? = some a := h1
    by_cases q : m = n
    · subst q
      rw [e] at h1
      cases h1
      have hm : m < h.length := by
        rw [← k.len]
        exact (List.getElem?_eq_some_iff.mp e).1
      rw [List.getElem?_set_self hm] at h2
      cases h2
      exact new
    · rw [List.getElem?_set_ne (fun z => q z.symm)] at h2
      have : a ≠ p := fun z => q (nodup_ix2 k.nd (z ▸ h1) e)
      exact (k.obs m a o' h1 h2).le (Wd.put_to k e).le (upd_ne this)
/-- an owned list changed -/
def Wd.putU (G : Wd) (p : Addr) (o : HO) : Wd := { G with H := upd G.H p o }
theorem Wd.putU_le {G : Wd} {p : Addr} {o : HO} (e : G.U p) : G.Le (G.putU p o) :=
  ⟨rfl, rfl, List.prefix_refl _, fun a u h1 h2 h3 => ⟨(upd_ne (fun q => h3 (by rw [q]; exact e))).trans h1, h2, h3⟩⟩
theorem Wd.putU_ok {G : Wd} {h : PH} (k : G.Ok h) {p : Addr} {vs : List V} (e : G.U p) : (G.putU p (.lst vs)).Ok h where
  len := k.len
  nd := k.nd
  own := fun a ha => by
    obtain ⟨h1, us, h2⟩ := k.own a ha
    refine ⟨h1, ?_⟩
    by_cases q : a = p
    · subst q
      exact ⟨vs, upd_same⟩
    · exact ⟨us, (upd_ne q).trans h2⟩
  obs := fun n a o' h1 h2 => by
    have : a ≠ p := fun z => (k.own p e).1 (z ▸ List.mem_of_getElem? h1)
    exact (k.obs n a o' h1 h2).le (Wd.putU_le e) (upd_ne this)
/-- owners give up what they hold -/
def Wd.drop (G : Wd) (B : Addr → Prop) : Wd := { G with U := B }
theorem Wd.drop_le {G : Wd} {B : Addr → Prop} (b : ∀ a, B a → G.U a) : G.Le (G.drop B) :=
  ⟨rfl, rfl, List.prefix_refl _, fun a u h1 h2 h3 => ⟨h1, h2, fun q => h3 (b a q)⟩⟩
theorem Wd.drop_ok {G : Wd} {h : PH} (k : G.Ok h) {B : Addr → Prop} (b : ∀ a, B a → G.U a) : (G.drop B).Ok h where
  len := k.len
  nd := k.nd
  own := fun a ha => k.own a (b a ha)
  obs := fun n a o' h1 h2 => (k.obs n a o' h1 h2).le (Wd.drop_le b) rfl
/-- a held list becomes an object -/
def Wd.pass (G : Wd) (p : Addr) (B : Addr → Prop) : Wd := { G with U := B, ρ := G.ρ ++ [p] }
theorem Wd.pass_le {G : Wd} {p : Addr} {B : Addr → Prop} (u : G.U p) (b : ∀ a, B a → G.U a) : G.Le (G.pass p B) :=
  ⟨rfl, rfl, List.prefix_append _ _, fun a u' h1 h2 h3 => ⟨h1, fun q => by
    rcases List.mem_append.mp q with q | q
    · exact h2 q
    · exact h3 ((show a = p by simpa using q) ▸ u), fun q => h3 (b a q)⟩⟩
theorem Wd.pass_ok {G : Wd} {h : PH} (k : G.Ok h) {p : Addr} {B : Addr → Prop} (u : G.U p) (b : ∀ a, B a → G.U a) (nb : ¬ B p) {xs : List D} {vs : List V} (e : G.H p = some (.lst vs)) (hl : vs.length ≤ sizeLine) (r : Reps G xs vs) : (G.pass p B).Ok (h ++ [.lst xs]) where
  len := by
    show (G.ρ ++ [p]).length = _
    rw [List.length_append, List.length_append, k.len]
    all_goals rfl
  nd := by
    show (G.ρ ++ [p]).Nodup
    rw [List.nodup_append]
    refine ⟨k.nd, by simp, fun a ha c hc => ?_⟩
    have : c = p := by simpa using hc
    subst this
    exact fun q => (k.own c u).1 (q ▸ ha)
  own := fun a ha => by
    obtain ⟨h1, vs, h2⟩ := k.own a (b a ha)
    refine ⟨fun q => ?_, vs, h2⟩
    rcases List.mem_append.mp q with q | q
    · exact h1 q
    · exact nb ((show a = p by simpa using q) ▸ ha)
  obs := fun n a o' h1 h2 => by
    have h1 : (G.ρ ++ [p])[n]? = some a := h1
    by_cases hn : n < G.ρ.length
    · rw [List.getElem?_append_left hn] at h1
      rw [List.getElem?_append_left (by rw [← k.len]; exact hn)] at h2
      exact (k.obs n a o' h1 h2).le (Wd.pass_le u b) rfl
    · rw [List.getElem?_append_right (by omega)] at h1
      rw [List.getElem?_append_right (by rw [← k.len]; omega)] at h2
      have hz : n - G.ρ.length = 0 := by
        have := (List.getElem?_eq_some_iff.mp h1).1
        simp at this
        omega
      rw [hz] at h1
      rw [← k.len, hz] at h2
      simp at h1 h2
      subst h1 h2
      exact ⟨vs, e, hl, Reps.le (Wd.pass_le u b) _ r⟩
end Sw

set_option maxHeartbeats 4000000
/-! Sw, part B: the judgements. -/
namespace Sw
open PySem PySem.Spec L2

/-! ### exceptions -/
/-- the own fields of an exception: as much as a law asks for -/
def XR (G : Wd) (xs : List D) (dx : Option Addr) : Prop := xs = [] ∨ ∃ a v w dv dw, dx = some a ∧ G.H a = some (.xd [("block", v), ("row", w)]) ∧ xs = [dv, dw] ∧ Rep G dv v ∧ Rep G dw w

/-- what is fixed for the whole text -/
structure Tx where
  P : Program
  w : World
  K : PySem.W.Frag
  mg : Str → Option Value
  base : Heap
  CX : CXT
  cl : Str → Addr
  xm : Bool
/-- what is fixed around a piece of text -/
structure Sx where
  T : Tx
  E : XK
  N : List Str
  sc : Scope
  k : Nat
  fa : Str → Bool
  rz : Bool
abbrev Sx.P (S : Sx) : Program := S.T.P
abbrev Sx.w (S : Sx) : World := S.T.w
abbrev Sx.K (S : Sx) : PySem.W.Frag := S.T.K
abbrev Sx.mg (S : Sx) : Str → Option Value := S.T.mg
abbrev Sx.base (S : Sx) : Heap := S.T.base
abbrev Sx.CX (S : Sx) : CXT := S.T.CX
abbrev Sx.cl (S : Sx) : Str → Addr := S.T.cl
/-- a context for a def's promise -/
def Tx.sx (T : Tx) (E : XK) : Sx := ⟨T, E, [], { kind := .function, names := [], isGenerator := false, isCoroutine := false }, 0, fun _ => false, false⟩

/-- a context of such a piece -/
structure InX (S : Sx) (X : Cx) : Prop where
  prog : X.prog = S.P
  w : X.w = S.w
  K : X.K = S.K
  mg : X.mg = S.mg
  base : X.base = S.base
  N : X.N = S.N
  sc : X.env.scope = S.sc
  room : Room S.k X.A
  calm : X.calm = true
  fn : ∀ x, S.fa x = true → X.fn x = true
  pass : Passes S.CX X S.E
  own : PassesOwn (model X.prog X.w) X.A X.env X.xe
  kind : X.env.scope.kind = .function
  blk : ∀ X' : Cx, X'.prog = S.P → X'.w = S.w → Passes S.CX X' E0
  tk : S.rz = true → Takes X (fun cls d _ H => S.E cls d H)

def Pst {α : Type} (S : Sx) (G : Wd) (r : R α) (Z : α → PH → Wd → Prop) : Prop := match r with
  | .ok a h' => ∀ G', G.To G' → G'.Ok h' → Z a h' G'
  | .ex c xs h' => S.T.xm = true ∧ ∀ G' dx, G.To G' → G'.Ok h' → XR G' xs dx → S.E (.ref (S.cl c)) dx G'.H
  | .bad => False
section
variable {α β : Type} {S : Sx} {G G1 : Wd} {r : R α} {Z Z' : α → PH → Wd → Prop}
theorem Pst.step (t : G.To G1) (p : Pst S G r Z) : Pst S G1 r Z := by
  cases r with
  | ok a h' => exact fun G' t' k => p G' (t.trans t') k
  | ex c xs h' => exact ⟨p.1, fun G' dx t' k x => p.2 G' dx (t.trans t') k x⟩
  | bad => exact p
theorem Pst.mono (p : Pst S G r Z) (f : ∀ a h' G', G.To G' → G'.Ok h' → Z a h' G' → Z' a h' G') : Pst S G r Z' := by
  cases r with
  | ok a h' => exact fun G' t' k => f a h' G' t' k (p G' t' k)
  | ex c xs h' => exact p
  | bad => exact p
theorem Pst.bnd {m : M β} {f : β → M α} {h : PH} (p : Pst S G (Sw.bnd m f h) Z) : Pst S G (m h) (fun a h1 G1 => Pst S G1 (f a h1) Z) := by
  unfold Sw.bnd at p
  cases e : m h with
  | ok a h1 =>
    rw [e] at p
    exact fun G1 t1 k1 => p.step t1
  | ex c xs h1 =>
    rw [e] at p
    exact p
  | bad =>
    rw [e] at p
    exact p
theorem Pst.pur {a : α} {h : PH} (p : Pst S G (Sw.pur a h) Z) (k : G.Ok h) : Z a h G := p G (.refl G) k
end

/-! ### the local names -/
/-- O: the places of the lists that this def alone holds; B: what others hold -/
structure EnvOk (O : List Nat) (B : Addr → Prop) (G : Wd) (σ : St) (Γ : Env) : Prop where
  len : σ.length = Γ.length
  val : ∀ (i : Nat) d, Γ[i]? = some (some d) → i ∉ O → ∃ v, σ[i]? = some (some v) ∧ Rep G d v
  own : ∀ (i : Nat) d, Γ[i]? = some (some d) → i ∈ O → ∃ xs a vs, d = .lst xs ∧ σ[i]? = some (some (.ref a)) ∧ G.U a ∧ ¬ B a ∧ G.H a = some (.lst vs) ∧ vs.length ≤ sizeLine ∧ Reps G xs vs
  sep : ∀ (i j : Nat) d d' a, i ∈ O → j ∈ O → Γ[i]? = some (some d) → Γ[j]? = some (some d') → σ[i]? = some (some (.ref a)) → σ[j]? = some (some (.ref a)) → i = j
  bU : ∀ a, B a → G.U a
theorem EnvOk.to {O : List Nat} {B : Addr → Prop} {G G' : Wd} {σ : St} {Γ : Env} (e : EnvOk O B G σ Γ) (t : G.To G') : EnvOk O B G' σ Γ where
  len := e.len
  val := fun i d h1 h2 => let ⟨v, q1, q2⟩ := e.val i d h1 h2; ⟨v, q1, q2.le t.le⟩
  own := fun i d h1 h2 => let ⟨xs, a, vs, q1, q2, q3, q4, q5, q6, q7⟩ := e.own i d h1 h2; ⟨xs, a, vs, q1, q2, by rw [t.U]; exact q3, q4, (t.ow a q3).trans q5, q6, Reps.le t.le _ q7⟩
  sep := e.sep
  bU := fun a h => by
    rw [t.U]
    exact e.bU a h
/-- a value that is only looked at -/
def BRep (G : Wd) (d : D) (v : V) : Prop := Rep G d v ∨ ∃ xs a vs, d = .lst xs ∧ v = .ref a ∧ G.U a ∧ G.H a = some (.lst vs) ∧ vs.length ≤ sizeLine ∧ Reps G xs vs
theorem BRep.to {G G' : Wd} (t : G.To G') {d : D} {v : V} (h : BRep G d v) : BRep G' d v := by
  rcases h with h | ⟨xs, a, vs, q1, q2, q3, q5, q6, q7⟩
  · exact .inl (h.le t.le)
  · exact .inr ⟨xs, a, vs, q1, q2, by rw [t.U]; exact q3, (t.ow a q3).trans q5, q6, Reps.le t.le _ q7⟩

structure Here (S : Sx) (O : List Nat) (B : Addr → Prop) (G : Wd) (h : PH) (σ : St) (Γ : Env) : Prop where
  K : G.K = S.K
  cl : G.cl = S.cl
  ok : G.Ok h
  env : EnvOk O B G σ Γ
theorem Here.to {S : Sx} {O : List Nat} {B : Addr → Prop} {G G' : Wd} {h h' : PH} {σ : St} {Γ : Env} (w : Here S O B G h σ Γ) (t : G.To G') (k : G'.Ok h') : Here S O B G' h' σ Γ :=
  ⟨t.le.K.trans w.K, t.le.cl.trans w.cl, k, w.env.to t⟩

/-! ### the judgements -/
def SE (S : Sx) (O : List Nat) (t : TE) (m : EM) : Prop := ∀ (B : Addr → Prop) (G : Wd) (h : PH) (σ : St) (Γ : Env) (Q : VK), Here S O B G h σ Γ → Pst S G (m Γ h) (fun d _ G' => ∀ v, Rep G' d v → Q v G'.H) → t σ G.H Q
def SB (S : Sx) (O : List Nat) (t : TE) (m : EM) : Prop := ∀ (B : Addr → Prop) (G : Wd) (h : PH) (σ : St) (Γ : Env) (Q : VK), Here S O B G h σ Γ → Pst S G (m Γ h) (fun d _ G' => ∀ v, BRep G' d v → Q v G'.H) → t σ G.H Q
def ST (S : Sx) (O : List Nat) (t : TT) (m : TM) : Prop := ∀ (B : Addr → Prop) (G : Wd) (h : PH) (σ : St) (Γ : Env) (Q : Bool → Hp → Prop), Here S O B G h σ Γ → Pst S G (m Γ h) (fun b _ G' => Q b G'.H) → t σ G.H Q
def SA (S : Sx) (O : List Nat) (t : TA) (m : LM) : Prop := ∀ (B : Addr → Prop) (G : Wd) (h : PH) (σ : St) (Γ : Env) (Q : List V → Hp → Prop), Here S O B G h σ Γ → Pst S G (m Γ h) (fun ds _ G' => ∀ vs, Reps G' ds vs → Q vs G'.H) → t σ G.H Q
/-- a list just made: one place holds it -/
def SF (S : Sx) (O : List Nat) (t : TE) (m : LM) : Prop := ∀ (B : Addr → Prop) (G : Wd) (h : PH) (σ : St) (Γ : Env) (Q : VK), Here S O B G h σ Γ →
  Pst S G (m Γ h) (fun ds h' G' => ∀ p vs, G'.H p = none → vs.length ≤ sizeLine → Reps G' ds vs → Q (.ref p) (upd G'.H p (.lst vs))) → t σ G.H Q

structure RE (S : Sx) (O : List Nat) (e : Expr) (m : EM) : Prop where
  ex : ∃ t, (∀ X, InX S X → PE X e t) ∧ SE S O t m
structure RB (S : Sx) (O : List Nat) (e : Expr) (m : EM) : Prop where
  ex : ∃ t, (∀ X, InX S X → PE X e t) ∧ SB S O t m
structure RT (S : Sx) (O : List Nat) (e : Expr) (m : TM) : Prop where
  ex : ∃ t, (∀ X, InX S X → PT X e t) ∧ ST S O t m
structure RW (S : Sx) (O : List Nat) (e : Expr) (m : TM) : Prop where
  ex : ∃ t, (∀ X, InX S X → PW X e t) ∧ ST S O t m
/-- several, from the left -/
def seqA : List EM → LM
  | [] => fun _ => pur []
  | m :: ms => fun Γ => bnd (m Γ) fun x => bnd (seqA ms Γ) fun xs => pur (x :: xs)
theorem seqA_len : ∀ {ms : List EM} {Γ : Env} {h h' : PH} {ds : List D}, seqA ms Γ h = .ok ds h' → ds.length = ms.length
  | [], Γ, h, h', ds, e => by
    unfold seqA pur at e
    cases e
    rfl
  | m :: ms, Γ, h, h', ds, e => by
    unfold seqA at e
    unfold bnd at e
    cases e1 : m Γ h with
    | ok x h1 =>
      rw [e1] at e
      have e : bnd (seqA ms Γ) (fun xs => pur (x :: xs)) h1 = .ok ds h' := e
      unfold bnd at e
      cases e2 : seqA ms Γ h1 with
      | ok xs h2 =>
        rw [e2] at e
        cases e
        rw [List.length_cons, List.length_cons, seqA_len e2]
      | ex c xs h2 =>
        rw [e2] at e
        cases e
      | bad =>
        rw [e2] at e
        cases e
    | ex c xs h2 =>
      rw [e1] at e
      cases e
    | bad =>
      rw [e1] at e
      cases e
structure RA (S : Sx) (O : List Nat) (es : List Expr) (ms : List EM) : Prop where
  ex : ∃ t, (∀ X, InX S X → PA X es t) ∧ SA S O t (seqA ms)
structure RF (S : Sx) (O : List Nat) (e : Expr) (m : LM) : Prop where
  ex : ∃ t, (∀ X, InX S X → PE X e t) ∧ SF S O t m

variable {S : Sx} {O : List Nat}
theorem RB.of {e : Expr} {m : EM} (r : RE S O e m) : RB S O e m := by
  obtain ⟨t, h1, h2⟩ := r.ex
  exact ⟨t, h1, fun B G h σ Γ Q w p => h2 B G h σ Γ Q w (p.mono fun d h' G' _ _ z v q => z v (.inl q))⟩

/-! ### names and constants -/
def gV (i : Nat) : EM := fun Γ h => match Γ[i]? with
  | some (some d) => .ok d h
  | _ => .bad
def gC (d : D) : EM := fun _ h => .ok d h
theorem sb_var {i : Nat} : SB S O (tVar i) (gV i) := by
  intro B G h σ Γ Q w p
  unfold gV at p
  cases e : Γ[i]? with
  | none =>
    rw [e] at p
    exact p.elim
  | some o =>
    cases o with
    | none =>
      rw [e] at p
      exact p.elim
    | some d =>
      rw [e] at p
      by_cases hi : i ∈ O
      · obtain ⟨xs, a, vs, q1, q2, q3, q4, q5, q6, q7⟩ := w.env.own i d e hi
        exact ⟨_, q2, p G (.refl G) w.ok _ (.inr ⟨xs, a, vs, q1, rfl, q3, q5, q6, q7⟩)⟩
      · obtain ⟨v, q1, q2⟩ := w.env.val i d e hi
        exact ⟨v, q1, p G (.refl G) w.ok v (.inl q2)⟩
theorem se_var {i : Nat} (hi : i ∉ O) : SE S O (tVar i) (gV i) := by
  intro B G h σ Γ Q w p
  unfold gV at p
  cases e : Γ[i]? with
  | none =>
    rw [e] at p
    exact p.elim
  | some o =>
    cases o with
    | none =>
      rw [e] at p
      exact p.elim
    | some d =>
      rw [e] at p
      obtain ⟨v, q1, q2⟩ := w.env.val i d e hi
      exact ⟨v, q1, p G (.refl G) w.ok v q2⟩
/-- a name in the i-th place -/
structure Nm (S : Sx) (i : Nat) (x : Str) : Prop where
  n : S.N[i]? = some x
  v : Vis S.sc x
  d1 : (x == ("__debug__" : Str)) = false
  d2 : (x == ("__classdict__" : Str)) = false
theorem Nm.pe {i : Nat} {x : Str} {pos : Pos} (n : Nm S i x) : ∀ X, InX S X → PE X (.Name x pos) (tVar i) := fun X hX => pe_var (by rw [hX.N]; exact n.n) (by rw [hX.sc]; exact n.v) n.d1 n.d2
theorem rb_var {i : Nat} {x : Str} {pos : Pos} (n : Nm S i x) : RB S O (.Name x pos) (gV i) := ⟨tVar i, n.pe, sb_var⟩
theorem re_var {i : Nat} {x : Str} {pos : Pos} (n : Nm S i x) (hi : i ∉ O) : RE S O (.Name x pos) (gV i) := ⟨tVar i, n.pe, se_var hi⟩
theorem se_c {d : D} {v : V} (r : ∀ G : Wd, G.K = S.K → Rep G d v) : SE S O (tC v) (gC d) := fun B G h σ Γ Q w p => p G (.refl G) w.ok v (r G w.K)
theorem re_int {i : Int} {j pos} : RE S O (.Constant (.int i) j pos) (gC (.int i)) := ⟨_, fun X _ => pe_int, se_c fun G _ => by unfold Rep; rfl⟩
theorem re_bl {b : Bool} {j pos} : RE S O (.Constant (.bool b) j pos) (gC (.bl b)) := ⟨_, fun X _ => pe_bl, se_c fun G _ => by unfold Rep; rfl⟩
theorem re_non {j pos} : RE S O (.Constant .none j pos) (gC .non) := ⟨_, fun X _ => pe_non, se_c fun G _ => by unfold Rep; rfl⟩
theorem re_str {x : Str} {j pos} (hx : PyData.strOk x = true) : RE S O (.Constant (.str x) j pos) (gC (.str x)) := ⟨_, fun X _ => pe_str, se_c fun G _ => by unfold Rep; exact ⟨rfl, hx⟩⟩
/-- a global name in this scope -/
def Gb (S : Sx) (x : Str) : Prop := S.sc.names.lookup x = some .globalImplicit
theorem Gb.gl {x : Str} (g : Gb S x) {X : Cx} (hX : InX S X) : Gl X x := by
  show X.env.scope.names.lookup x = _
  rw [hX.sc]
  exact g
/-- a module's constant -/
structure Mc (S : Sx) (x : Str) (d : D) : Prop where
  ex : ∃ v u, S.mg x = some u ∧ RelV v u ∧ ∀ G : Wd, G.K = S.K → Rep G d v
  nd : (x == ("__debug__" : Str)) = false
theorem re_glob {x : Str} {d : D} {pos : Pos} (g : Gb S x) (c : Mc S x d) : RE S O (.Name x pos) (gC d) := by
  obtain ⟨v, u, h1, h2, h3⟩ := c.ex
  exact ⟨_, fun X hX => pe_glob (g.gl hX) (by rw [hX.mg]; exact h1) h2 c.nd, se_c h3⟩

/-! ### operators -/
def g2 (f : D → D → M D) (a b : EM) : EM := fun Γ => bnd (a Γ) fun x => bnd (b Γ) fun y => f x y
def g1 (f : D → M D) (a : EM) : EM := fun Γ => bnd (a Γ) fun x => f x
/-- by values: what r asks follows -/
def S2 (S : Sx) (r : R2) (f : D → D → M D) : Prop := ∀ (G : Wd) (h : PH) (x y : V) (dx dy : D) (Q : VK), G.K = S.K → G.cl = S.cl → G.Ok h → BRep G dx x → BRep G dy y →
  Pst S G (f dx dy h) (fun d _ G' => ∀ v, Rep G' d v → Q v G'.H) → r x y G.H Q
theorem se_2 {r : R2} {f : D → D → M D} {ta tb : TE} {ma mb : EM} (hr : S2 S r f) (ha : SB S O ta ma) (hb : SB S O tb mb) : SE S O (tOp r ta tb) (g2 f ma mb) := by
  intro B G h σ Γ Q w p
  refine ha B G h σ Γ _ w (p.bnd.mono fun dx h1 G1 t1 k1 p1 x rx => ?_)
  refine hb B G1 h1 σ Γ _ (w.to t1 k1) (p1.bnd.mono fun dy h2 G2 t2 k2 p2 y ry => ?_)
  exact hr G2 h2 x y dx dy Q ((w.to t1 k1).to t2 k2).K ((w.to t1 k1).to t2 k2).cl k2 (rx.to t2) ry p2
structure Op2 (S : Sx) (o : Value → Value → Sem Value) (f : D → D → M D) : Prop where
  ex : ∃ r : R2, (∀ X, InX S X → OpR X o r) ∧ S2 S r f
theorem re_bin {a b : Expr} {op : Operator} {pos : Pos} {f : D → D → M D} {ma mb : EM} (o : Op2 S (binaryOp op) f) (ha : RB S O a ma) (hb : RB S O b mb) : RE S O (.BinOp a op b pos) (g2 f ma mb) := by
  obtain ⟨r, o1, o2⟩ := o.ex
  obtain ⟨ta, a1, a2⟩ := ha.ex
  obtain ⟨tb, b1, b2⟩ := hb.ex
  exact ⟨_, fun X hX => pe_op (o1 X hX) (a1 X hX) (b1 X hX), se_2 o2 a2 b2⟩
theorem re_cmp {a b : Expr} {op : CmpOp} {pos : Pos} {f : D → D → M D} {ma mb : EM} (o : Op2 S (compareOp op) f) (ha : RB S O a ma) (hb : RB S O b mb) (hm : behindInMarks op b = false) : RE S O (.Compare a [op] [b] pos) (g2 f ma mb) := by
  obtain ⟨r, o1, o2⟩ := o.ex
  obtain ⟨ta, a1, a2⟩ := ha.ex
  obtain ⟨tb, b1, b2⟩ := hb.ex
  exact ⟨_, fun X hX => pe_cmpR (o1 X hX) (a1 X hX) (b1 X hX) hm, se_2 o2 a2 b2⟩
/-- a value that is True or False, as a test -/
def isB (d : D) : M Bool := fun h => match d with
  | .bl b => .ok b h
  | _ => .bad
def tB (a : EM) : TM := fun Γ => bnd (a Γ) isB
theorem Rep.bl_inv {G : Wd} {b : Bool} {v : V} (h : Rep G (.bl b) v) : v = .bl b := by
  unfold Rep at h
  exact h
theorem st_b {t : TE} {m : EM} (h : SE S O t m) : ST S O (tTest t) (tB m) := by
  intro B G h0 σ Γ Q w p
  refine h B G h0 σ Γ _ w (p.bnd.mono fun d h1 G1 t1 k1 p1 v r => ?_)
  cases d with
  | bl b => exact ⟨b, r.bl_inv, p1 G1 (.refl G1) k1⟩
  | _ => exact p1.elim
theorem rt_cmp {a b : Expr} {op : CmpOp} {pos : Pos} {f : D → D → M D} {ma mb : EM} (o : Op2 S (compareOp op) f) (ha : RB S O a ma) (hb : RB S O b mb) (hm : behindInMarks op b = false) : RT S O (.Compare a [op] [b] pos) (tB (g2 f ma mb)) := by
  obtain ⟨r, o1, o2⟩ := o.ex
  obtain ⟨ta, a1, a2⟩ := ha.ex
  obtain ⟨tb, b1, b2⟩ := hb.ex
  exact ⟨_, fun X hX => pt_cmpR (o1 X hX) (a1 X hX) (b1 X hX) hm, st_b (se_2 o2 a2 b2)⟩
/-- e is no comparison, and, or, not: its value is asked -/
theorem rt_val {e : Expr} {m : EM} (h : RE S O e m) (he : ∀ env whole, isTrue e env whole = (do let v ← whole; standAt e.pos; holding [v] (truthy v))) : RT S O e (tB m) := by
  obtain ⟨t, h1, h2⟩ := h.ex
  exact ⟨_, fun X hX => pt_val (h1 X hX) (he _), st_b h2⟩
/-- chains a < b < c -/
def gChain (f f' : D → D → M D) (a b c : EM) : EM := fun Γ => bnd (a Γ) fun x => bnd (b Γ) fun y => bnd (bnd (f x y) isB) fun k => if k = true then bnd (c Γ) fun z => f' y z else pur (.bl false)
theorem se_chain {r r' : R2} {f f' : D → D → M D} {ta tb tc : TE} {ma mb mc : EM} (hr : S2 S r f) (hr' : S2 S r' f') (ha : SB S O ta ma) (hb : SB S O tb mb) (hc : SB S O tc mc) :
    SE S O (fun σ H Q => ta σ H fun x H1 => tb σ H1 fun y H2 => r x y H2 fun z H3 => ∃ k, z = .bl k ∧ if k = true then tc σ H3 (fun u H4 => r' y u H4 Q) else Q (.bl false) H3) (gChain f f' ma mb mc) := by
  intro B G h σ Γ Q w p
  refine ha B G h σ Γ _ w (p.bnd.mono fun dx h1 G1 t1 k1 p1 x rx => ?_)
  refine hb B G1 h1 σ Γ _ (w.to t1 k1) (p1.bnd.mono fun dy h2 G2 t2 k2 p2 y ry => ?_)
  have w2 := (w.to t1 k1).to t2 k2
  refine hr G2 h2 x y dx dy _ w2.K w2.cl k2 (rx.to t2) ry (p2.bnd.bnd.mono fun d h3 G3 t3 k3 p3 v rv => ?_)
  cases d with
  | bl b =>
    refine ⟨b, rv.bl_inv, ?_⟩
    have p3' : Pst S G3 ((if b = true then bnd (mc Γ) fun z => f' dy z else pur (.bl false)) h3) _ := p3 G3 (.refl G3) k3
    cases b with
    | true =>
      rw [if_pos rfl] at p3' ⊢
      have w3 := w2.to t3 k3
      refine hc B G3 h3 σ Γ _ w3 (p3'.bnd.mono fun dz h4 G4 t4 k4 p4 z rz => ?_)
      exact hr' G4 h4 y z dy dz Q (w3.to t4 k4).K (w3.to t4 k4).cl k4 ((ry.to t3).to t4) rz p4
    | false =>
      rw [if_neg Bool.false_ne_true] at p3' ⊢
      exact p3'.pur k3 (.bl false) (by unfold Rep; rfl)
  | _ => exact p3.elim
end Sw

set_option maxHeartbeats 4000000
/-! Sw, part C: tests, arguments, displays, operators by values. -/
namespace Sw
open PySem PySem.Spec L2
variable {S : Sx} {O : List Nat}

/-! ### inversions -/
section
variable {G : Wd} {v : V}
theorem Rep.int_inv {i : Int} (h : Rep G (.int i) v) : v = .int i := by
  unfold Rep at h
  exact h
theorem Rep.non_inv (h : Rep G .non v) : v = .non := by
  unfold Rep at h
  exact h
theorem Rep.str_inv {s : Str} (h : Rep G (.str s) v) : v = .str s ∧ PyData.strOk s = true := by
  unfold Rep at h
  exact h
theorem Rep.tup_inv {xs : List D} (h : Rep G (.tup xs) v) : ∃ a vs, v = .ref a ∧ AtT G a vs ∧ Reps G xs vs := by
  unfold Rep at h
  exact h
theorem Rep.lst_inv {xs : List D} (h : Rep G (.lst xs) v) : ∃ a vs, v = .ref a ∧ AtL G a vs ∧ Reps G xs vs := by
  unfold Rep at h
  exact h
theorem Rep.ref_inv {n : Nat} (h : Rep G (.ref n) v) : ∃ a, G.ρ[n]? = some a ∧ v = .ref a := by
  unfold Rep at h
  exact h
theorem Rep.of_int {i : Int} : Rep G (.int i) (.int i) := by
  unfold Rep
  rfl
theorem Rep.of_bl {b : Bool} : Rep G (.bl b) (.bl b) := by
  unfold Rep
  rfl
theorem Rep.of_non : Rep G .non .non := by
  unfold Rep
  rfl
theorem BRep.int_inv {i : Int} (h : BRep G (.int i) v) : v = .int i := by
  rcases h with h | ⟨_, _, _, e, _⟩
  · exact h.int_inv
  · cases e
theorem BRep.bl_inv {i : Bool} (h : BRep G (.bl i) v) : v = .bl i := by
  rcases h with h | ⟨_, _, _, e, _⟩
  · exact h.bl_inv
  · cases e
theorem BRep.non_inv (h : BRep G .non v) : v = .non := by
  rcases h with h | ⟨_, _, _, e, _⟩
  · exact h.non_inv
  · cases e
theorem BRep.str_inv {s : Str} (h : BRep G (.str s) v) : v = .str s ∧ PyData.strOk s = true := by
  rcases h with h | ⟨_, _, _, e, _⟩
  · exact h.str_inv
  · cases e
theorem BRep.tup_inv {xs : List D} (h : BRep G (.tup xs) v) : ∃ a vs, v = .ref a ∧ AtT G a vs ∧ Reps G xs vs := by
  rcases h with h | ⟨_, _, _, e, _⟩
  · exact h.tup_inv
  · cases e
theorem BRep.ref_inv {n : Nat} (h : BRep G (.ref n) v) : ∃ a, G.ρ[n]? = some a ∧ v = .ref a := by
  rcases h with h | ⟨_, _, _, e, _⟩
  · exact h.ref_inv
  · cases e
theorem AtT.seq {a : Addr} {vs : List V} (h : AtT G a vs) : SqT G.K G.H a vs := by
  rcases h with ⟨h, _⟩ | h
  · exact .inl (.inl h)
  · exact .inr h
theorem AtL.seq {a : Addr} {vs : List V} (h : AtL G a vs) : SqL G.K G.H a vs := .inl (.inl h.1)
theorem AtR.seq {a : Addr} {vs : List V} (h : AtR G a vs) : SqL G.K G.H a vs := by
  rcases h with ⟨h | ⟨o, h⟩, _⟩ | h
  · exact .inl (.inl h)
  · exact .inl (.inr ⟨o, h⟩)
  · exact .inr h
theorem KL.len {K : PySem.W.Frag} {a : Addr} {vs : List V} (h : KL K a vs) : vs.length ≤ sizeLine := by
  obtain ⟨o, its, n, _, _, _, _, h1, h2⟩ := h
  have := h2.length
  simp only [Array.length_toList] at this
  omega
theorem AtR.len {a : Addr} {vs : List V} (h : AtR G a vs) : vs.length ≤ sizeLine := by
  rcases h with ⟨_, _, _, h⟩ | h
  · exact h
  · exact h.len
theorem Rep.rd_inv {ns : List Int} (h : Rep G (.rd ns) v) : ∃ a, v = .ref a ∧ AtR G a (ns.map V.int) := by
  unfold Rep at h
  exact h
theorem BRep.rd_inv {ns : List Int} (h : BRep G (.rd ns) v) : ∃ a, v = .ref a ∧ AtR G a (ns.map V.int) := by
  rcases h with h | ⟨_, _, _, e, _⟩
  · exact h.rd_inv
  · cases e
theorem Reps.ints : ∀ ns : List Int, Reps G (ns.map D.int) (ns.map V.int)
  | [] => .nil
  | n :: ns => .cons .of_int (Reps.ints ns)
theorem KT.len {K : PySem.W.Frag} {a : Addr} {vs : List V} (h : KT K a vs) : vs.length ≤ sizeLine := by
  obtain ⟨o, its, n, _, _, _, h1, h2⟩ := h
  have := h2.length
  simp only [Array.length_toList] at this
  omega
theorem AtT.len {a : Addr} {vs : List V} (h : AtT G a vs) : vs.length ≤ sizeLine := by
  rcases h with ⟨_, _, _, h⟩ | h
  · exact h
  · exact h.len
end

/-! ### what may be walked, indexed, counted: a tuple, a list -/
def seqD (h : PH) : D → Option (List D)
  | .tup xs => some xs
  | .lst xs => some xs
  | .rd ns => some (ns.map D.int)
  | .ref n => match h[n]? with
    | some (.lst xs) => some xs
    | _ => none
  | _ => none
theorem seq_at {G : Wd} {h : PH} {d : D} {v : V} {xs : List D} (k : G.Ok h) (r : BRep G d v) (e : seqD h d = some xs) : ∃ a vs, v = .ref a ∧ (SqL G.K G.H a vs ∨ SqT G.K G.H a vs) ∧ vs.length ≤ sizeLine ∧ Reps G xs vs := by
  cases d with
  | tup ys =>
    cases e
    obtain ⟨a, vs, rfl, h1, h2⟩ := r.tup_inv
    exact ⟨a, vs, rfl, .inr h1.seq, h1.len, h2⟩
  | lst ys =>
    cases e
    rcases r with r | ⟨zs, a, vs, e, rfl, h1, h2, h3, h4⟩
    · obtain ⟨a, vs, rfl, h1, h2⟩ := r.lst_inv
      exact ⟨a, vs, rfl, .inl h1.seq, h1.2.2.2, h2⟩
    · cases e
      exact ⟨a, vs, rfl, .inl (SqL.of h2), h3, h4⟩
  | rd ns =>
    cases e
    obtain ⟨a, rfl, h1⟩ := r.rd_inv
    exact ⟨a, _, rfl, .inl h1.seq, h1.len, .ints ns⟩
  | ref n =>
    obtain ⟨a, h1, rfl⟩ := r.ref_inv
    obtain ⟨o, h2, h3⟩ := k.at h1
    have e : (match h[n]? with
      | some (.lst xs) => some xs
      | _ => none) = some xs := e
    rw [h2] at e
    cases o with
    | lst ys =>
      cases e
      obtain ⟨vs, q1, q2, q3⟩ := h3
      exact ⟨a, vs, rfl, .inl (SqL.of q1), q2, q3⟩
    | _ => cases e
  | _ => cases e

/-! ### data for == -/
mutual
def dat (rf : Nat → Option PyData) : D → Option PyData
  | .non => some .none
  | .bl b => some (.bool b)
  | .int i => some (.int i)
  | .str s => some (.str s)
  | .tup xs => (datL rf xs).map PyData.tuple
  | .lst xs => (datL rf xs).map PyData.list
  | .ref n => rf n
  | .rd _ => none
  | .clo _ _ => none
def datL (rf : Nat → Option PyData) : List D → Option (List PyData)
  | [] => some []
  | x :: xs => (dat rf x).bind fun a => (datL rf xs).map fun b => a :: b
end
def rfS (h : PH) (rf : Nat → Option PyData) (n : Nat) : Option PyData := match h[n]? with
  | some (.lst xs) => (datL rf xs).map PyData.list
  | _ => none
def rfH (h : PH) : Nat → Option PyData := rfS h (rfS h (rfS h fun _ => none))
def RfOk (G : Wd) (rf : Nat → Option PyData) : Prop := ∀ (n : Nat) a p, G.ρ[n]? = some a → rf n = some p → Dp G.K G.H (.ref a) p ∧ p.canLay0 = true
mutual
theorem dat_ok {G : Wd} {rf : Nat → Option PyData} (f : RfOk G rf) : ∀ (d : D) {v : V} {p : PyData}, Rep G d v → dat rf d = some p → Dp G.K G.H v p ∧ p.canLay0 = true
  | .non, v, p, r, e => by
    unfold dat at e
    cases e
    rw [r.non_inv]
    exact ⟨.non, by unfold PyData.canLay0; rfl⟩
  | .bl b, v, p, r, e => by
    unfold dat at e
    cases e
    rw [r.bl_inv]
    exact ⟨.bl b, by unfold PyData.canLay0; rfl⟩
  | .int i, v, p, r, e => by
    unfold dat at e
    cases e
    rw [r.int_inv]
    exact ⟨.int i, by unfold PyData.canLay0; rfl⟩
  | .str s, v, p, r, e => by
    unfold dat at e
    cases e
    rw [r.str_inv.1]
    exact ⟨.str s, by unfold PyData.canLay0; exact r.str_inv.2⟩
  | .tup xs, v, p, r, e => by
    unfold dat at e
    obtain ⟨ps, e1, e2⟩ := Option.map_eq_some_iff.mp e
    obtain ⟨a, vs, rfl, h1, h2⟩ := r.tup_inv
    obtain ⟨q1, q2⟩ := datL_ok f xs h2 e1
    rw [← e2]
    exact ⟨.tup h1.seq q1, by unfold PyData.canLay0; exact q2⟩
  | .lst xs, v, p, r, e => by
    unfold dat at e
    obtain ⟨ps, e1, e2⟩ := Option.map_eq_some_iff.mp e
    obtain ⟨a, vs, rfl, h1, h2⟩ := r.lst_inv
    obtain ⟨q1, q2⟩ := datL_ok f xs h2 e1
    rw [← e2]
    exact ⟨.lst h1.seq q1, by unfold PyData.canLay0; exact q2⟩
  | .ref n, v, p, r, e => by
    unfold dat at e
    obtain ⟨a, h1, rfl⟩ := r.ref_inv
    exact f n a p h1 e
  | .rd _, v, p, r, e => by
    unfold dat at e
    cases e
  | .clo _ _, v, p, r, e => by
    unfold dat at e
    cases e
theorem datL_ok {G : Wd} {rf : Nat → Option PyData} (f : RfOk G rf) : ∀ (xs : List D) {vs : List V} {ps : List PyData}, Reps G xs vs → datL rf xs = some ps → DpAll G.K G.H vs ps ∧ PyData.canLayAll0 ps = true
  | [], vs, ps, r, e => by
    unfold datL at e
    cases e
    rw [r.nil_inv]
    exact ⟨.nil, by unfold PyData.canLayAll0; rfl⟩
  | x :: xs, vs, ps, r, e => by
    unfold datL at e
    obtain ⟨p, e1, e2⟩ := Option.bind_eq_some_iff.mp e
    obtain ⟨qs, e3, e4⟩ := Option.map_eq_some_iff.mp e2
    obtain ⟨v, r', rfl, h1, h2⟩ := r.cons_inv
    obtain ⟨a1, a2⟩ := dat_ok f x h1 e1
    obtain ⟨b1, b2⟩ := datL_ok f xs h2 e3
    rw [← e4]
    refine ⟨.cons a1 b1, ?_⟩
    unfold PyData.canLayAll0
    rw [a2, b2]
    all_goals rfl
end
theorem rfS_ok {G : Wd} {h : PH} (k : G.Ok h) {rf : Nat → Option PyData} (f : RfOk G rf) : RfOk G (rfS h rf) := fun n a p h1 e => by
  obtain ⟨o, h2, h3⟩ := k.at h1
  unfold rfS at e
  rw [h2] at e
  cases o with
  | lst xs =>
    obtain ⟨ps, e1, e2⟩ := Option.map_eq_some_iff.mp e
    obtain ⟨vs, q1, q2, q3⟩ := h3
    obtain ⟨b1, b2⟩ := datL_ok f xs q3 e1
    rw [← e2]
    exact ⟨.lst (SqL.of q1) b1, by unfold PyData.canLay0; exact b2⟩
  | _ => cases e
theorem rfH_ok {G : Wd} {h : PH} (k : G.Ok h) : RfOk G (rfH h) := rfS_ok k (rfS_ok k (rfS_ok k fun _ _ _ _ e => by cases e))
theorem bdat_ok {G : Wd} {h : PH} (k : G.Ok h) {d : D} {v : V} {p : PyData} (r : BRep G d v) (e : dat (rfH h) d = some p) : Dp G.K G.H v p ∧ p.canLay0 = true := by
  rcases r with r | ⟨xs, a, vs, rfl, rfl, h1, h2, h3, h4⟩
  · exact dat_ok (rfH_ok k) d r e
  · unfold dat at e
    obtain ⟨ps, e1, e2⟩ := Option.map_eq_some_iff.mp e
    obtain ⟨q1, q2⟩ := datL_ok (rfH_ok k) xs h4 e1
    rw [← e2]
    exact ⟨.lst (SqL.of h2) q1, by unfold PyData.canLay0; exact q2⟩

def dEq : D → D → M D := fun a b h => match dat (rfH h) a, dat (rfH h) b with
  | some p, some q => if min p.depth q.depth ≤ 64 then .ok (.bl (PyData.eqv p q)) h else .bad
  | _, _ => .bad
def dNe : D → D → M D := fun a b h => match dat (rfH h) a, dat (rfH h) b with
  | some p, some q => if min p.depth q.depth ≤ 64 then .ok (.bl (!PyData.eqv p q)) h else .bad
  | _, _ => .bad
def rEqM (K : PySem.W.Frag) (f : Bool → Bool) : R2 := fun x y H Q => ∃ d e, Dp K H x d ∧ Dp K H y e ∧ d.canLay0 = true ∧ e.canLay0 = true ∧ min d.depth e.depth ≤ 64 ∧ Q (.bl (f (PyData.eqv d e))) H
theorem or_eqM {X : Cx} {k : Nat} (hr : Room k X.A) : OpR X (compareOp .Eq) (rEqM X.K id) := by
  intro pins s σ H x y v u Q I rx ry h
  obtain ⟨d, e, hd, he, sd, se, hm, q⟩ := h
  obtain ⟨as, r1⟩ := Dp.reads I d x v hd rx
  obtain ⟨bs, r2⟩ := Dp.reads I e y u he ry
  have := hr.units
  exact SeqAt.compareEq_reads r1 r2 sd se (by omega) ⟨.bl _, H, I, rfl, q⟩
theorem or_neM {X : Cx} {k : Nat} (hr : Room k X.A) : OpR X (compareOp .NotEq) (rEqM X.K not) := by
  intro pins s σ H x y v u Q I rx ry h
  obtain ⟨d, e, hd, he, sd, se, hm, q⟩ := h
  obtain ⟨as, r1⟩ := Dp.reads I d x v hd rx
  obtain ⟨bs, r2⟩ := Dp.reads I e y u he ry
  have := hr.units
  exact SeqAt.compareNe_reads r1 r2 sd se (by omega) ⟨.bl _, H, I, rfl, q⟩
theorem o_eq : Op2 S (compareOp .Eq) dEq := by
  refine ⟨rEqM S.K id, fun X hX => by rw [← hX.K]; exact or_eqM hX.room, fun G h x y dx dy Q gK gc k rx ry p => ?_⟩
  unfold dEq at p
  cases e1 : dat (rfH h) dx with
  | none =>
    rw [e1] at p
    exact p.elim
  | some a =>
    cases e2 : dat (rfH h) dy with
    | none =>
      rw [e1, e2] at p
      exact p.elim
    | some b =>
      rw [e1, e2] at p
      by_cases hd : min a.depth b.depth ≤ 64
      · simp only [if_pos hd] at p
        obtain ⟨a1, a2⟩ := bdat_ok k rx e1
        obtain ⟨b1, b2⟩ := bdat_ok k ry e2
        rw [← gK]
        exact ⟨a, b, a1, b1, a2, b2, hd, p G (.refl G) k _ .of_bl⟩
      · simp only [if_neg hd] at p
        exact p.elim
theorem o_ne : Op2 S (compareOp .NotEq) dNe := by
  refine ⟨rEqM S.K not, fun X hX => by rw [← hX.K]; exact or_neM hX.room, fun G h x y dx dy Q gK gc k rx ry p => ?_⟩
  unfold dNe at p
  cases e1 : dat (rfH h) dx with
  | none =>
    rw [e1] at p
    exact p.elim
  | some a =>
    cases e2 : dat (rfH h) dy with
    | none =>
      rw [e1, e2] at p
      exact p.elim
    | some b =>
      rw [e1, e2] at p
      by_cases hd : min a.depth b.depth ≤ 64
      · simp only [if_pos hd] at p
        obtain ⟨a1, a2⟩ := bdat_ok k rx e1
        obtain ⟨b1, b2⟩ := bdat_ok k ry e2
        rw [← gK]
        exact ⟨a, b, a1, b1, a2, b2, hd, p G (.refl G) k _ .of_bl⟩
      · simp only [if_neg hd] at p
        exact p.elim

/-! ### whole numbers -/
def i2 (g : Int → Int → D) : D → D → M D := fun a b h => match a, b with
  | .int i, .int j => .ok (g i j) h
  | _, _ => .bad
def i2c (c : Int → Int → Bool) (g : Int → Int → D) : D → D → M D := fun a b h => match a, b with
  | .int i, .int j => if c i j = true then .ok (g i j) h else .bad
  | _, _ => .bad
theorem s_i2 {gv : Int → Int → V} {g : Int → Int → D} (e : ∀ G i j, Rep G (g i j) (gv i j)) : S2 S (rI0 gv) (i2 g) := by
  intro G h x y dx dy Q gK gc k rx ry p
  cases dx with
  | int i =>
    cases dy with
    | int j => exact ⟨i, j, rx.int_inv, ry.int_inv, p G (.refl G) k _ (e G i j)⟩
    | _ => exact p.elim
  | _ => exact p.elim
theorem s_i2c {C : Int → Int → Prop} {c : Int → Int → Bool} {gv : Int → Int → V} {g : Int → Int → D} (hc : ∀ i j, c i j = true → C i j) (e : ∀ G i j, Rep G (g i j) (gv i j)) : S2 S (rI C gv) (i2c c g) := by
  intro G h x y dx dy Q gK gc k rx ry p
  cases dx with
  | int i =>
    cases dy with
    | int j =>
      have p : Pst S G (if c i j = true then R.ok (g i j) h else .bad) _ := p
      by_cases q : c i j = true
      · rw [if_pos q] at p
        exact ⟨i, j, rx.int_inv, ry.int_inv, hc i j q, p G (.refl G) k _ (e G i j)⟩
      · rw [if_neg q] at p
        exact p.elim
    | _ => exact p.elim
  | _ => exact p.elim
def dSub := i2 fun i j => .int (i - j)
def dMod := i2c (fun _ j => decide (0 < j)) fun i j => .int (i % j)
def dDiv := i2c (fun _ j => decide (0 < j ∧ j < 1073741824)) fun i j => .int (i / j)
def dPow := i2c (fun i j => decide (0 ≤ j ∧ j ≤ 1000000 ∧ i.natAbs < 2 ^ 64)) fun i j => .int (i ^ j.toNat)
def dLt := i2 fun i j => .bl (decide (i < j))
def dLe := i2 fun i j => .bl (decide (i ≤ j))
def dGt := i2 fun i j => .bl (decide (j < i))
def dGe := i2 fun i j => .bl (decide (j ≤ i))
theorem o_sub : Op2 S (binaryOp .Sub) dSub := ⟨_, fun X _ => op_sub, s_i2 fun _ _ _ => .of_int⟩
theorem o_mod : Op2 S (binaryOp .Mod) dMod := ⟨_, fun X _ => op_mod, s_i2c (fun i j h => of_decide_eq_true h) fun _ _ _ => .of_int⟩
theorem o_div : Op2 S (binaryOp .FloorDiv) dDiv := ⟨_, fun X _ => op_fdiv, s_i2c (C := CDiv) (fun i j h => (of_decide_eq_true h : 0 < j ∧ j < 1073741824)) fun _ _ _ => .of_int⟩
theorem o_pow : Op2 S (binaryOp .Pow) dPow := ⟨_, fun X _ => op_pow, s_i2c (C := CPow) (fun i j h => (of_decide_eq_true h : 0 ≤ j ∧ j ≤ 1000000 ∧ i.natAbs < 2 ^ 64)) fun _ _ _ => .of_int⟩
theorem o_lt : Op2 S (compareOp .Lt) dLt := ⟨_, fun X _ => op_lt, s_i2 fun _ _ _ => .of_bl⟩
theorem o_le : Op2 S (compareOp .LtE) dLe := ⟨_, fun X _ => op_le, s_i2 fun _ _ _ => .of_bl⟩
theorem o_gt : Op2 S (compareOp .Gt) dGt := ⟨_, fun X _ => op_gt, s_i2 fun _ _ _ => .of_bl⟩
theorem o_ge : Op2 S (compareOp .GtE) dGe := ⟨_, fun X _ => op_ge, s_i2 fun _ _ _ => .of_bl⟩
/-- is None -/
def dIsN : D → D → M D := fun a b h => match b, a with
  | .non, .non => .ok (.bl true) h
  | .non, _ => .ok (.bl false) h
  | _, _ => .bad
def dIsNot : D → D → M D := fun a b h => match b, a with
  | .non, .non => .ok (.bl false) h
  | .non, _ => .ok (.bl true) h
  | _, _ => .bad
def isNonD : D → Bool
  | .non => true
  | _ => false
theorem BRep.non_iff {G : Wd} {d : D} {v : V} (h : BRep G d v) : decide (v = .non) = isNonD d := by
  cases d with
  | non => rw [h.non_inv]; simp [isNonD]
  | bl b => rw [h.bl_inv]; simp [isNonD]
  | int b => rw [h.int_inv]; simp [isNonD]
  | str b => rw [h.str_inv.1]; simp [isNonD]
  | tup b =>
    obtain ⟨a, vs, rfl, _⟩ := h.tup_inv
    simp [isNonD]
  | lst b =>
    rcases h with h | ⟨xs, a, vs, e, rfl, _⟩
    · obtain ⟨a, vs, rfl, _⟩ := h.lst_inv
      simp [isNonD]
    · simp [isNonD]
  | ref b =>
    obtain ⟨a, _, rfl⟩ := h.ref_inv
    simp [isNonD]
  | rd b =>
    obtain ⟨a, rfl, _⟩ := h.rd_inv
    simp [isNonD]
  | clo _ _ =>
    rcases h with h | ⟨_, _, _, e, _⟩
    · unfold Rep at h
      exact h.elim
    · cases e
theorem o_isN : Op2 S (compareOp .Is) dIsN := by
  refine ⟨_, fun X _ => op_isN, fun G h x y dx dy Q gK gc k rx ry p => ?_⟩
  cases dy with
  | non =>
    refine ⟨ry.non_inv, ?_⟩
    rw [rx.non_iff]
    cases dx <;> exact p G (.refl G) k _ .of_bl
  | _ => exact p.elim
theorem o_isNot : Op2 S (compareOp .IsNot) dIsNot := by
  refine ⟨_, fun X _ => op_notN, fun G h x y dx dy Q gK gc k rx ry p => ?_⟩
  cases dy with
  | non =>
    refine ⟨ry.non_inv, ?_⟩
    rw [rx.non_iff]
    cases dx <;> exact p G (.refl G) k _ .of_bl
  | _ => exact p.elim

/-! ### chains -/
theorem re_chain {a b c : Expr} {op op' : CmpOp} {pos : Pos} {f f' : D → D → M D} {ma mb mc : EM} (o : Op2 S (compareOp op) f) (o' : Op2 S (compareOp op') f') (ha : RB S O a ma) (hb : RB S O b mb) (hc : RB S O c mc)
    (hm : lastMarks [op, op'] [b, c] = false) : RE S O (.Compare a [op, op'] [b, c] pos) (gChain f f' ma mb mc) := by
  obtain ⟨r, o1, o2⟩ := o.ex
  obtain ⟨r', p1, p2⟩ := o'.ex
  obtain ⟨ta, a1, a2⟩ := ha.ex
  obtain ⟨tb, b1, b2⟩ := hb.ex
  obtain ⟨tc, c1, c2⟩ := hc.ex
  exact ⟨_, fun X hX => pe_chain (o1 X hX) (p1 X hX) (a1 X hX) (b1 X hX) (c1 X hX) hm, se_chain o2 p2 a2 b2 c2⟩
theorem rt_chain {a b c : Expr} {op op' : CmpOp} {pos : Pos} {f f' : D → D → M D} {ma mb mc : EM} (o : Op2 S (compareOp op) f) (o' : Op2 S (compareOp op') f') (ha : RB S O a ma) (hb : RB S O b mb) (hc : RB S O c mc)
    (hm : lastMarks [op, op'] [b, c] = false) : RT S O (.Compare a [op, op'] [b, c] pos) (tB (gChain f f' ma mb mc)) := by
  obtain ⟨r, o1, o2⟩ := o.ex
  obtain ⟨r', p1, p2⟩ := o'.ex
  obtain ⟨ta, a1, a2⟩ := ha.ex
  obtain ⟨tb, b1, b2⟩ := hb.ex
  obtain ⟨tc, c1, c2⟩ := hc.ex
  exact ⟨_, fun X hX => pt_chain (o1 X hX) (p1 X hX) (a1 X hX) (b1 X hX) (c1 X hX) hm, st_b (se_chain o2 p2 a2 b2 c2)⟩

/-! ### and, or, not, if else -/
def tNt (a : TM) : TM := fun Γ => bnd (a Γ) fun b => pur (!b)
def tAn (a b : TM) : TM := fun Γ => bnd (a Γ) fun k => if k = true then b Γ else pur false
def tOrr (a b : TM) : TM := fun Γ => bnd (a Γ) fun k => if k = true then pur true else b Γ
def gOfT (a : TM) : EM := fun Γ => bnd (a Γ) fun b => pur (.bl b)
theorem rt_not {a : Expr} {m : TM} {pos : Pos} (h : RT S O a m) : RT S O (.UnaryOp .Not a pos) (tNt m) := by
  obtain ⟨t, h1, h2⟩ := h.ex
  refine ⟨_, fun X hX => pt_not (h1 X hX), fun B G h0 σ Γ Q w p => ?_⟩
  exact h2 B G h0 σ Γ _ w (p.bnd.mono fun b h1 G1 t1 k1 p1 => p1.pur k1)
theorem RW.rt {e : Expr} {m : TM} (h : RW S O e m) : RT S O e m := by
  obtain ⟨t, h1, h2⟩ := h.ex
  exact ⟨t, fun X hX => (h1 X hX).pt, h2⟩
theorem rw_and1 {a : Expr} {m : TM} {pos : Pos} (h : RT S O a m) : RW S O (.BoolOp .And [a] pos) m := by
  obtain ⟨t, h1, h2⟩ := h.ex
  exact ⟨t, fun X hX => pw_and1 (h1 X hX), h2⟩
theorem rw_or1 {a : Expr} {m : TM} {pos : Pos} (h : RT S O a m) : RW S O (.BoolOp .Or [a] pos) m := by
  obtain ⟨t, h1, h2⟩ := h.ex
  exact ⟨t, fun X hX => pw_or1 (h1 X hX), h2⟩
theorem rw_and {a b : Expr} {rest : List Expr} {ma mb : TM} {pos : Pos} (ha : RT S O a ma) (hb : RW S O (.BoolOp .And (b :: rest) pos) mb) : RW S O (.BoolOp .And (a :: b :: rest) pos) (tAn ma mb) := by
  obtain ⟨t, h1, h2⟩ := ha.ex
  obtain ⟨u, g1, g2⟩ := hb.ex
  refine ⟨_, fun X hX => pw_and (h1 X hX) (g1 X hX), fun B G h0 σ Γ Q w p => ?_⟩
  refine h2 B G h0 σ Γ _ w (p.bnd.mono fun b h1 G1 t1 k1 p1 => ?_)
  cases b with
  | true =>
    simp only [if_true] at p1 ⊢
    exact g2 B G1 h1 σ Γ _ (w.to t1 k1) p1
  | false =>
    simp only [Bool.false_eq_true, if_false] at p1 ⊢
    exact p1.pur k1
theorem rw_or {a b : Expr} {rest : List Expr} {ma mb : TM} {pos : Pos} (ha : RT S O a ma) (hb : RW S O (.BoolOp .Or (b :: rest) pos) mb) : RW S O (.BoolOp .Or (a :: b :: rest) pos) (tOrr ma mb) := by
  obtain ⟨t, h1, h2⟩ := ha.ex
  obtain ⟨u, g1, g2⟩ := hb.ex
  refine ⟨_, fun X hX => pw_or (h1 X hX) (g1 X hX), fun B G h0 σ Γ Q w p => ?_⟩
  refine h2 B G h0 σ Γ _ w (p.bnd.mono fun b h1 G1 t1 k1 p1 => ?_)
  cases b with
  | true =>
    simp only [if_true] at p1 ⊢
    exact p1.pur k1
  | false =>
    simp only [Bool.false_eq_true, if_false] at p1 ⊢
    exact g2 B G1 h1 σ Γ _ (w.to t1 k1) p1
/-- as values, all but the last True or False -/
def gAn (a b : EM) : EM := fun Γ => bnd (tB a Γ) fun k => if k = true then b Γ else pur (.bl false)
def gOr (a b : EM) : EM := fun Γ => bnd (tB a Γ) fun k => if k = true then pur (.bl true) else b Γ
def gNt (a : EM) : EM := fun Γ => bnd (tB a Γ) fun k => pur (.bl (!k))
theorem se_bool {t : TE} {m : EM} (h : SE S O t m) : ∀ (B : Addr → Prop) (G : Wd) (h0 : PH) (σ : St) (Γ : Env) (Q : VK), Here S O B G h0 σ Γ → Pst S G (tB m Γ h0) (fun b _ G' => Q (.bl b) G'.H) → t σ G.H Q := by
  intro B G h0 σ Γ Q w p
  refine h B G h0 σ Γ _ w (p.bnd.mono fun d h1 G1 t1 k1 p1 v r => ?_)
  cases d with
  | bl b =>
    rw [r.bl_inv]
    exact p1 G1 (.refl G1) k1
  | _ => exact p1.elim
theorem se_boolX {t : TE} {m : EM} (h : SE S O t m) {B : Addr → Prop} {G : Wd} {h0 : PH} {σ : St} {Γ : Env} {Q : Bool → Hp → Prop} (w : Here S O B G h0 σ Γ) (p : Pst S G (tB m Γ h0) (fun b _ G' => Q b G'.H)) : t σ G.H fun x H1 => ∃ c, x = .bl c ∧ Q c H1 :=
  se_bool h B G h0 σ Γ _ w (p.mono fun b h' G' _ _ z => ⟨b, rfl, z⟩)
theorem re_one {a : Expr} {op : BoolOp} {m : EM} {pos : Pos} (h : RE S O a m) : RE S O (.BoolOp op [a] pos) m := by
  obtain ⟨t, h1, h2⟩ := h.ex
  exact ⟨t, fun X hX => pe_one (h1 X hX), h2⟩
theorem re_and {a b : Expr} {rest : List Expr} {ma mb : EM} {pos : Pos} (ha : RE S O a ma) (hb : RE S O (.BoolOp .And (b :: rest) pos) mb) : RE S O (.BoolOp .And (a :: b :: rest) pos) (gAn ma mb) := by
  obtain ⟨t, h1, h2⟩ := ha.ex
  obtain ⟨u, g1, g2⟩ := hb.ex
  refine ⟨_, fun X hX => pe_and (h1 X hX) (g1 X hX), fun B G h0 σ Γ Q w p => ?_⟩
  refine se_boolX h2 w (p.bnd.mono fun b h1 G1 t1 k1 p1 => ?_)
  cases b with
  | true =>
    simp only [if_true] at p1 ⊢
    exact g2 B G1 h1 σ Γ _ (w.to t1 k1) p1
  | false =>
    simp only [Bool.false_eq_true, if_false] at p1 ⊢
    exact p1.pur k1 _ .of_bl
theorem re_or {a b : Expr} {rest : List Expr} {ma mb : EM} {pos : Pos} (ha : RE S O a ma) (hb : RE S O (.BoolOp .Or (b :: rest) pos) mb) : RE S O (.BoolOp .Or (a :: b :: rest) pos) (gOr ma mb) := by
  obtain ⟨t, h1, h2⟩ := ha.ex
  obtain ⟨u, g1, g2⟩ := hb.ex
  refine ⟨_, fun X hX => pe_or (h1 X hX) (g1 X hX), fun B G h0 σ Γ Q w p => ?_⟩
  refine se_boolX h2 w (p.bnd.mono fun b h1 G1 t1 k1 p1 => ?_)
  cases b with
  | true =>
    simp only [if_true] at p1 ⊢
    exact p1.pur k1 _ .of_bl
  | false =>
    simp only [Bool.false_eq_true, if_false] at p1 ⊢
    exact g2 B G1 h1 σ Γ _ (w.to t1 k1) p1
theorem re_not {a : Expr} {m : EM} {pos : Pos} (h : RE S O a m) : RE S O (.UnaryOp .Not a pos) (gNt m) := by
  obtain ⟨t, h1, h2⟩ := h.ex
  refine ⟨_, fun X hX => pe_not (h1 X hX), fun B G h0 σ Γ Q w p => ?_⟩
  exact se_boolX h2 w (p.bnd.mono fun b h1 G1 t1 k1 p1 => p1.pur k1 _ .of_bl)
def gIf (c : TM) (a b : EM) : EM := fun Γ => bnd (c Γ) fun k => if k = true then a Γ else b Γ
theorem re_if {c a b : Expr} {mc : TM} {ma mb : EM} {pos : Pos} (hc : RT S O c mc) (ha : RE S O a ma) (hb : RE S O b mb) : RE S O (.IfExp c a b pos) (gIf mc ma mb) := by
  obtain ⟨t, h1, h2⟩ := hc.ex
  obtain ⟨u, g1, g2⟩ := ha.ex
  obtain ⟨z, f1, f2⟩ := hb.ex
  refine ⟨_, fun X hX => pe_ifExp (h1 X hX) (g1 X hX) (f1 X hX), fun B G h0 σ Γ Q w p => ?_⟩
  refine h2 B G h0 σ Γ _ w (p.bnd.mono fun b h1 G1 t1 k1 p1 => ?_)
  cases b with
  | true =>
    simp only [if_true] at p1 ⊢
    exact g2 B G1 h1 σ Γ _ (w.to t1 k1) p1
  | false =>
    simp only [Bool.false_eq_true, if_false] at p1 ⊢
    exact f2 B G1 h1 σ Γ _ (w.to t1 k1) p1
end Sw

set_option maxHeartbeats 4000000
/-! Sw, part D: arguments, displays, subscripts, fields, calls. -/
namespace Sw
open PySem PySem.Spec L2
variable {S : Sx} {O : List Nat}

theorem ra_nil : RA S O [] [] := ⟨tNil, fun X _ => pa_nil, fun B G h σ Γ Q w p => (p.pur w.ok) [] .nil⟩
theorem ra_cons {e : Expr} {es : List Expr} {m : EM} {ms : List EM} (he : RE S O e m) (hs : RA S O es ms) (hst : ∀ env, starEach (e :: es) env = (false, eval e env) :: starEach es env := by intro _; rfl) : RA S O (e :: es) (m :: ms) := by
  obtain ⟨t, h1, h2⟩ := he.ex
  obtain ⟨u, g1, g2⟩ := hs.ex
  refine ⟨_, fun X hX => pa_cons (h1 X hX) (g1 X hX) (hst _), fun B G h σ Γ Q w p => ?_⟩
  unfold seqA at p
  refine h2 B G h σ Γ _ w (p.bnd.mono fun d h1 G1 t1 k1 p1 v r => ?_)
  refine g2 B G1 h1 σ Γ _ (w.to t1 k1) (p1.bnd.mono fun ds h3 G2 t2 k2 p2 vs rs => ?_)
  exact p2.pur k2 (v :: vs) (.cons (r.le t2.le) rs)

/-! ### new things -/
theorem rep_layT {G : Wd} {h : PH} (k : G.Ok h) {p : Addr} {ds : List D} {vs : List V} (e : G.H p = none) (hl : vs.length ≤ sizeLine) (r : Reps G ds vs) : Rep (G.lay p (.tup vs)) (.tup ds) (.ref p) := by
  unfold Rep
  exact ⟨p, vs, rfl, .inl ⟨upd_same, k.notin e, k.notU e, hl⟩, Reps.le (Wd.lay_to k e).le _ r⟩
theorem rep_layL {G : Wd} {h : PH} (k : G.Ok h) {p : Addr} {ds : List D} {vs : List V} (e : G.H p = none) (hl : vs.length ≤ sizeLine) (r : Reps G ds vs) : Rep (G.lay p (.lst vs)) (.lst ds) (.ref p) := by
  unfold Rep
  exact ⟨p, vs, rfl, ⟨upd_same, k.notin e, k.notU e, hl⟩, Reps.le (Wd.lay_to k e).le _ r⟩
theorem rep_layO {G : Wd} {h : PH} (k : G.Ok h) {p : Addr} {o : HO} : Rep (G.layO p o) (.ref h.length) (.ref p) := by
  unfold Rep
  refine ⟨p, ?_, rfl⟩
  show (G.ρ ++ [p])[h.length]? = some p
  rw [← k.len]
  simp
/-- a tuple is laid -/
theorem Pst.layT {S : Sx} {G : Wd} {h : PH} {ds : List D} {vs : List V} {Q : VK} (p : Pst S G (Sw.pur (.tup ds) h) (fun d _ G' => ∀ v, Rep G' d v → Q v G'.H)) (k : G.Ok h) (hl : vs.length ≤ sizeLine) (r : Reps G ds vs) : ∀ a, G.H a = none → Q (.ref a) (upd G.H a (.tup vs)) :=
  fun a e => p (G.lay a (.tup vs)) (Wd.lay_to k e) (Wd.lay_ok k e) _ (rep_layT k e hl r)
theorem Pst.layL {S : Sx} {G : Wd} {h : PH} {ds : List D} {vs : List V} {Q : VK} (p : Pst S G (Sw.pur (.lst ds) h) (fun d _ G' => ∀ v, Rep G' d v → Q v G'.H)) (k : G.Ok h) (hl : vs.length ≤ sizeLine) (r : Reps G ds vs) : ∀ a, G.H a = none → Q (.ref a) (upd G.H a (.lst vs)) :=
  fun a e => p (G.lay a (.lst vs)) (Wd.lay_to k e) (Wd.lay_ok k e) _ (rep_layL k e hl r)
def newL (ds : List D) : M D := fun h => .ok (.ref h.length) (h ++ [.lst ds])
theorem Pst.layO {S : Sx} {G : Wd} {h : PH} {ob : Ob} {ho : HO} {Q : VK} (p : Pst S G (.ok (.ref h.length) (h ++ [ob]) : R D) (fun d _ G' => ∀ v, Rep G' d v → Q v G'.H)) (k : G.Ok h)
    (new : ∀ a, G.H a = none → ObAt (G.layO a ho) a ob) : ∀ a, G.H a = none → Q (.ref a) (upd G.H a ho) :=
  fun a e => p (G.layO a ho) (Wd.layO_to k e) (Wd.layO_ok k e (new a e)) _ (rep_layO k)
theorem Pst.newL {S : Sx} {G : Wd} {h : PH} {ds : List D} {vs : List V} {Q : VK} (p : Pst S G (Sw.newL ds h) (fun d _ G' => ∀ v, Rep G' d v → Q v G'.H)) (k : G.Ok h) (hl : vs.length ≤ sizeLine) (r : Reps G ds vs) : ∀ a, G.H a = none → Q (.ref a) (upd G.H a (.lst vs)) :=
  Pst.layO (ob := .lst ds) p k fun a e => ⟨vs, upd_same, hl, Reps.le (Wd.layO_to k e).le _ r⟩

def gTup (ms : List EM) : EM := fun Γ => bnd (seqA ms Γ) fun ds => pur (.tup ds)
theorem Pst.ok_len {ms : List EM} {Γ : Env} {G : Wd} {h : PH} {Z : List D → PH → Wd → Prop} (p : Pst S G (seqA ms Γ h) Z) : Pst S G (seqA ms Γ h) (fun ds h' G' => ds.length = ms.length ∧ Z ds h' G') := by
  cases e : seqA ms Γ h with
  | ok ds h' =>
    rw [e] at p
    exact fun G' t k => ⟨seqA_len e, p G' t k⟩
  | ex c xs h' =>
    rw [e] at p
    exact p
  | bad =>
    rw [e] at p
    exact p
theorem line_small {n : Nat} (h : n ≤ 1000) : n ≤ sizeLine := by rw [sizeLine_eq]; omega
theorem re_tup {es : List Expr} {ms : List EM} {x1 pos} (h : RA S O es ms) (hl : ms.length ≤ 1000) : RE S O (.Tuple es x1 pos) (gTup ms) := by
  obtain ⟨t, h1, h2⟩ := h.ex
  refine ⟨_, fun X hX => pe_tup (h1 X hX), fun B G h σ Γ Q w p => ?_⟩
  unfold gTup at p
  refine h2 B G h σ Γ _ w (p.bnd.ok_len.mono fun ds h1 G1 t1 k1 ⟨hn, p1⟩ vs r => ?_)
  have hl' : vs.length ≤ sizeLine := line_small (by rw [r.len, hn]; exact hl)
  exact ⟨hl', p1.layT k1 hl' r⟩
theorem rf_lst {es : List Expr} {ms : List EM} {pos} (h : RA S O es ms) (hl : ms.length ≤ 1000) : RF S O (.List es pos) (seqA ms) := by
  obtain ⟨t, h1, h2⟩ := h.ex
  refine ⟨_, fun X hX => pe_lst (h1 X hX), fun B G h σ Γ Q w p => ?_⟩
  refine h2 B G h σ Γ _ w (p.ok_len.mono fun ds h1 G1 t1 k1 ⟨hn, p1⟩ vs r => ?_)
  have hl' : vs.length ≤ sizeLine := line_small (by rw [r.len, hn]; exact hl)
  exact ⟨hl', fun a e => p1 a vs e hl' r⟩
/-- a new list as a value; as an object -/
def gVal (m : LM) : EM := fun Γ => bnd (m Γ) fun ds => pur (.lst ds)
def gNew (m : LM) : EM := fun Γ => bnd (m Γ) newL
theorem re_val {e : Expr} {m : LM} (h : RF S O e m) : RE S O e (gVal m) := by
  obtain ⟨t, h1, h2⟩ := h.ex
  refine ⟨_, h1, fun B G h σ Γ Q w p => ?_⟩
  unfold gVal at p
  exact h2 B G h σ Γ _ w (p.bnd.mono fun ds h1 G1 t1 k1 p1 a vs e hl r => p1.layL k1 hl r a e)
theorem re_new {e : Expr} {m : LM} (h : RF S O e m) : RE S O e (gNew m) := by
  obtain ⟨t, h1, h2⟩ := h.ex
  refine ⟨_, h1, fun B G h σ Γ Q w p => ?_⟩
  unfold gNew at p
  exact h2 B G h σ Γ _ w (p.bnd.mono fun ds h1 G1 t1 k1 p1 a vs e hl r => p1.newL k1 hl r a e)

/-! ### dicts by keys -/
section
variable {κ : Type} [DecidableEq κ]
def getD_ (kvs : List (κ × D)) (k : κ) : Option D := (kvs.find? fun kv => decide (kv.1 = k)).map (·.2)
def putD_ (kvs : List (κ × D)) (k : κ) (v : D) : List (κ × D) :=
  if (kvs.any fun kv => decide (kv.1 = k)) = true then kvs.map (fun kv => if kv.1 = k then (kv.1, v) else kv) else kvs ++ [(k, v)]
theorem RepKV.nil {G : Wd} : RepKV G ([] : List (κ × D)) [] := ⟨rfl, .nil⟩
theorem RepKV.cons {G : Wd} {k : κ} {d : D} {v : V} {kvs : List (κ × D)} {kvs' : List (κ × V)} (r : Rep G d v) (t : RepKV G kvs kvs') : RepKV G ((k, d) :: kvs) ((k, v) :: kvs') :=
  ⟨by simp only [List.map_cons, t.1], .cons r t.2⟩
theorem RepKV.cons_inv {G : Wd} {k : κ} {d : D} {kvs : List (κ × D)} : ∀ {kvs' : List (κ × V)}, RepKV G ((k, d) :: kvs) kvs' → ∃ v r, kvs' = (k, v) :: r ∧ Rep G d v ∧ RepKV G kvs r
  | [], h => by
    have := h.1
    simp at this
  | (k', v) :: r, h => by
    obtain ⟨h1, h2⟩ := h
    simp only [List.map_cons, List.cons.injEq] at h1
    obtain ⟨u, t, e, q1, q2⟩ := Reps.cons_inv h2
    simp only [List.map_cons, List.cons.injEq] at e
    refine ⟨v, r, by rw [h1.1], ?_, h1.2, ?_⟩
    · rw [e.1]
      exact q1
    · rw [e.2]
      exact q2
theorem RepKV.nil_inv {G : Wd} {kvs' : List (κ × V)} (h : RepKV G [] kvs') : kvs' = [] := by
  have := h.1
  simpa using this
theorem RepKV.get {G : Wd} {k : κ} : ∀ {kvs : List (κ × D)} {kvs' : List (κ × V)}, RepKV G kvs kvs' → (getD_ kvs k = none ∧ valV kvs' k = none) ∨ ∃ d v, getD_ kvs k = some d ∧ valV kvs' k = some v ∧ Rep G d v
  | [], kvs', h => by
    rw [h.nil_inv]
    exact .inl ⟨rfl, rfl⟩
  | (j, d) :: kvs, kvs', h => by
    obtain ⟨v, r, rfl, h1, h2⟩ := h.cons_inv
    by_cases e : j = k
    · exact .inr ⟨d, v, by simp [getD_, e], valV_pos e, h1⟩
    · have e1 : getD_ ((j, d) :: kvs) k = getD_ kvs k := by simp [getD_, e]
      rw [e1, valV_neg e]
      exact RepKV.get h2
theorem RepKV.any_ {G : Wd} {k : κ} : ∀ {kvs : List (κ × D)} {kvs' : List (κ × V)}, RepKV G kvs kvs' → (kvs.any fun kv => decide (kv.1 = k)) = (kvs'.any fun kv => decide (kv.1 = k))
  | [], kvs', h => by
    rw [h.nil_inv]
    all_goals rfl
  | (j, d) :: kvs, kvs', h => by
    obtain ⟨v, r, rfl, h1, h2⟩ := h.cons_inv
    simp only [List.any_cons, RepKV.any_ h2]
theorem RepKV.app {G : Wd} : ∀ {kvs ls : List (κ × D)} {kvs' ls' : List (κ × V)}, RepKV G kvs kvs' → RepKV G ls ls' → RepKV G (kvs ++ ls) (kvs' ++ ls')
  | [], ls, kvs', ls', h, h' => by
    rw [h.nil_inv]
    exact h'
  | (j, d) :: kvs, ls, kvs', ls', h, h' => by
    obtain ⟨v, r, rfl, h1, h2⟩ := h.cons_inv
    exact .cons h1 (RepKV.app h2 h')
theorem RepKV.map_ {G : Wd} {k : κ} {x : D} {u : V} (q : Rep G x u) : ∀ {kvs : List (κ × D)} {kvs' : List (κ × V)}, RepKV G kvs kvs' → RepKV G (kvs.map fun kv => if kv.1 = k then (kv.1, x) else kv) (kvs'.map fun kv => if kv.1 = k then (kv.1, u) else kv)
  | [], kvs', h => by
    rw [h.nil_inv]
    exact .nil
  | (j, d) :: kvs, kvs', h => by
    obtain ⟨v, r, rfl, h1, h2⟩ := h.cons_inv
    simp only [List.map_cons]
    by_cases e : j = k
    · rw [if_pos e, if_pos e]
      exact .cons q (RepKV.map_ q h2)
    · rw [if_neg e, if_neg e]
      exact .cons h1 (RepKV.map_ q h2)
theorem RepKV.put {G : Wd} {k : κ} {kvs : List (κ × D)} {kvs' : List (κ × V)} {x : D} {u : V} (h : RepKV G kvs kvs') (q : Rep G x u) : RepKV G (putD_ kvs k x) (putK kvs' k u) := by
  unfold putD_ putK
  rw [h.any_]
  split
  · exact h.map_ q
  · exact h.app (.cons q .nil)
theorem RepKV.len {G : Wd} {kvs : List (κ × D)} {kvs' : List (κ × V)} (h : RepKV G kvs kvs') : kvs'.length = kvs.length := by
  have := congrArg List.length h.1
  simpa using this
end
def keyD : D → Option Key
  | .int i => some (.inl i)
  | .str s => some (.inr s)
  | _ => none
theorem keyD_v {G : Wd} {d : D} {v : V} {k : Key} (r : BRep G d v) (e : keyD d = some k) : v = kV k := by
  cases d with
  | int i =>
    cases e
    exact r.int_inv
  | str s =>
    cases e
    exact r.str_inv.1
  | _ => cases e

/-! ### o[i] -/
def ixS (xs : List D) (i : D) : M D := fun h => match i with
  | .int k => (match atI xs k with
    | some d => .ok d h
    | none => .bad)
  | _ => .bad
def ixK (kvs : List (Key × D)) (i : D) : M D := fun h => match keyD i with
  | some k => (match getD_ kvs k with
    | some d => .ok d h
    | none => .bad)
  | none => .bad
def ixZ (z : Str) (i : D) : M D := fun h => match i with
  | .int k => if z.cps.size ≤ 16777216 then (match atI z.cps.toList k with
    | some c => .ok (.str ⟨#[c]⟩) h
    | none => .bad) else .bad
  | _ => .bad
def dIx : D → D → M D
  | .tup xs, i => ixS xs i
  | .lst xs, i => ixS xs i
  | .str z, i => ixZ z i
  | .rd ns, i => ixS (ns.map D.int) i
  | .ref n, i => fun h => (match h[n]? with
    | some (.lst xs) => ixS xs i h
    | some (.dct kvs) => ixK kvs i h
    | _ => .bad)
  | _, _ => bad
/-- a dict's item, by values -/
def rIxD : R2 := fun x y H Q => ∃ a v, x = .ref a ∧ DGet H a y (some v) ∧ Q v H
theorem ix_dict {X : Cx} {k : Nat} (hr : Room k X.A) : IxR X rIxD := by
  intro value slice pins s σ H x y v u Q I rx ry h hs
  obtain ⟨a, z, rfl, g, q⟩ := h
  cases rx
  exact PyProof.Rows.tail_any (dict_typeIs I g) PySem.F.slot_dict_getitem.lookup (d_getItem (hu_of hr) I g ry fun w' s3 I3 rw' => ⟨z, H, I3, rw', q⟩) hs
def rIxA (K : PySem.W.Frag) : R2 := fun x y H Q => rIx K x y H Q ∨ rIxD x y H Q
theorem strOk_at {z : Str} {i : Int} {c : Nat} (h : PyData.strOk z = true) (e : atI z.cps.toList i = some c) : PyData.strOk ⟨#[c]⟩ = true := by
  obtain ⟨j, _, e1, _⟩ := atI_get e
  have hm : c ∈ z.cps := by
    have := List.mem_of_getElem? e1
    simpa using this
  unfold PyData.strOk at h ⊢
  simp only [Array.all_eq_true_iff_forall_mem] at h
  have := h c hm
  simpa using this
theorem atI_rep {G : Wd} {xs : List D} {vs : List V} {i : Int} {d : D} (r : Reps G xs vs) (e : atI xs i = some d) : ∃ v, atI vs i = some v ∧ Rep G d v := by
  unfold atI at e ⊢
  rw [r.len]
  cases q : ixN xs.length i with
  | none =>
    rw [q] at e
    cases e
  | some j =>
    rw [q] at e
    exact r.get e
structure IxOp (S : Sx) (f : D → D → M D) : Prop where
  ex : ∃ r : R2, (∀ X, InX S X → IxR X r) ∧ S2 S r f
theorem o_ix : IxOp S dIx := by
  refine ⟨rIxA S.K, fun X hX => by rw [← hX.K]; exact ix_seq.or (ix_dict hX.room), fun G h x y dx dy Q gK gc k rx ry p => ?_⟩
  have seq : ∀ {xs : List D} {vs : List V} {a : Addr}, (SqL G.K G.H a vs ∨ SqT G.K G.H a vs) → Reps G xs vs → Pst S G (ixS xs dy h) (fun d _ G' => ∀ v, Rep G' d v → Q v G'.H) → rIxA S.K (.ref a) y G.H Q := by
    intro xs vs a hs r p
    cases dy with
    | int i =>
      unfold ixS at p
      cases e : atI xs i with
      | none =>
        simp only [e] at p
        exact p.elim
      | some d =>
        simp only [e] at p
        obtain ⟨v, q1, q2⟩ := atI_rep r e
        rw [← gK]
        rcases hs with hs | hs
        · exact .inl (.inl ⟨a, vs, i, v, rfl, ry.int_inv, hs, q1, p G (.refl G) k v q2⟩)
        · exact .inl (.inr (.inl ⟨a, vs, i, v, rfl, ry.int_inv, hs, q1, p G (.refl G) k v q2⟩))
    | _ => exact p.elim
  cases dx with
  | tup xs =>
    obtain ⟨a, vs, rfl, h1, h2⟩ := rx.tup_inv
    exact seq (.inr h1.seq) h2 p
  | lst xs =>
    obtain ⟨a, vs, rfl, h1, _, h2⟩ := seq_at k rx (xs := xs) rfl
    exact seq h1 h2 p
  | rd ns =>
    obtain ⟨a, vs, rfl, h1, _, h2⟩ := seq_at k rx (xs := ns.map D.int) rfl
    exact seq h1 h2 p
  | str z =>
    cases dy with
    | int i =>
      have p : Pst S G (ixZ z (.int i) h) (fun d _ G' => ∀ v, Rep G' d v → Q v G'.H) := p
      unfold ixZ at p
      by_cases hz : z.cps.size ≤ 16777216
      · simp only [if_pos hz] at p
        cases e : atI z.cps.toList i with
        | none =>
          simp only [e] at p
          exact p.elim
        | some c =>
          simp only [e] at p
          obtain ⟨q1, q2⟩ := rx.str_inv
          refine .inl (.inr (.inr ⟨z, i, c, q1, ry.int_inv, ?_, e, p G (.refl G) k _ ?_⟩))
          · rw [sizeLine_eq]
            exact hz
          · unfold Rep
            exact ⟨rfl, strOk_at q2 e⟩
      · simp only [if_neg hz] at p
        exact p.elim
    | _ => exact p.elim
  | ref n =>
    obtain ⟨a, h1, rfl⟩ := rx.ref_inv
    obtain ⟨o, h2, h3⟩ := k.at h1
    have p : Pst S G (match h[n]? with
      | some (.lst xs) => ixS xs dy h
      | some (.dct kvs) => ixK kvs dy h
      | _ => .bad : R D) (fun d _ G' => ∀ v, Rep G' d v → Q v G'.H) := p
    rw [h2] at p
    cases o with
    | lst xs =>
      obtain ⟨vs, q1, q2, q3⟩ := h3
      exact seq (.inl (SqL.of q1)) q3 p
    | dct kvs =>
      obtain ⟨kvs', q1, q2⟩ := h3
      have p : Pst S G (ixK kvs dy h) (fun d _ G' => ∀ v, Rep G' d v → Q v G'.H) := p
      unfold ixK at p
      cases e : keyD dy with
      | none =>
        simp only [e] at p
        exact p.elim
      | some key =>
        simp only [e] at p
        rcases q2.get (k := key) with ⟨g1, _⟩ | ⟨d, v, g1, g2, g3⟩
        · simp only [g1] at p
          exact p.elim
        · simp only [g1] at p
          refine .inr ⟨a, v, rfl, ?_, p G (.refl G) k v g3⟩
          rw [keyD_v ry e, ← g2]
          exact DGet.k q1
    | _ => exact p.elim
  | _ => exact p.elim
theorem re_ix {a b : Expr} {ma mb : EM} {pos : Pos} (ha : RB S O a ma) (hb : RB S O b mb) (hs : PlainIx b) : RE S O (.Subscript a b pos) (g2 dIx ma mb) := by
  obtain ⟨r, o1, o2⟩ := o_ix (S := S).ex
  obtain ⟨ta, a1, a2⟩ := ha.ex
  obtain ⟨tb, b1, b2⟩ := hb.ex
  exact ⟨_, fun X hX => pe_ix (o1 X hX) (a1 X hX) (b1 X hX) hs, se_2 o2 a2 b2⟩

/-! ### in, not in -/
def rInM (K : PySem.W.Frag) (f : Bool → Bool) : R2 := fun x y H Q => ∃ d e es, Dp K H x d ∧ Dp K H y e ∧ (e = .list es ∨ e = .tuple es) ∧ d.canLay0 = true ∧ PyData.canLayAll0 es = true ∧ min (PyData.depthAll es) d.depth ≤ 60 ∧ Q (.bl (f (es.any fun z => PyData.eqv z d))) H
theorem or_inM {X : Cx} {k : Nat} (hr : Room k X.A) : OpR X (compareOp .In) (rInM X.K id) := by
  intro pins s σ H x y v u Q I rx ry h
  obtain ⟨d, e, es, hd, he, hc, sd, se, hm, q⟩ := h
  obtain ⟨as, r1⟩ := Dp.reads I d x v hd rx
  obtain ⟨bs, r2⟩ := Dp.reads I e y u he ry
  have := hr.units
  rcases hc with rfl | rfl
  · exact SeqAt.in_list_reads r2 r1 se sd (by omega) ⟨.bl _, H, I, rfl, q⟩
  · exact SeqAt.in_tuple_reads r2 r1 se sd (by omega) ⟨.bl _, H, I, rfl, q⟩
theorem or_ninM {X : Cx} {k : Nat} (hr : Room k X.A) : OpR X (compareOp .NotIn) (rInM X.K not) := by
  intro pins s σ H x y v u Q I rx ry h
  obtain ⟨d, e, es, hd, he, hc, sd, se, hm, q⟩ := h
  obtain ⟨as, r1⟩ := Dp.reads I d x v hd rx
  obtain ⟨bs, r2⟩ := Dp.reads I e y u he ry
  have := hr.units
  rcases hc with rfl | rfl
  · exact SeqAt.notIn_list_reads r2 r1 se sd (by omega) ⟨.bl _, H, I, rfl, q⟩
  · exact SeqAt.notIn_tuple_reads r2 r1 se sd (by omega) ⟨.bl _, H, I, rfl, q⟩
def rDIn (f : Bool → Bool) : R2 := fun x y H Q => ∃ a o, y = .ref a ∧ DGet H a x o ∧ Q (.bl (f o.isSome)) H
theorem or_din {X : Cx} {k : Nat} (hr : Room k X.A) : OpR X (compareOp .In) (rDIn id) := by
  intro pins s σ H x y v u Q I rx ry h
  obtain ⟨a, o, rfl, g, q⟩ := h
  cases ry
  exact d_in (hu_of hr) I g rx fun s3 I3 => ⟨.bl _, H, I3, rfl, q⟩
theorem or_dnin {X : Cx} {k : Nat} (hr : Room k X.A) : OpR X (compareOp .NotIn) (rDIn not) := by
  intro pins s σ H x y v u Q I rx ry h
  obtain ⟨a, o, rfl, g, q⟩ := h
  cases ry
  exact d_notIn (hu_of hr) I g rx fun s3 I3 => ⟨.bl _, H, I3, rfl, q⟩
def datS (h : PH) (d : D) : Option (List PyData) := (seqD h d).bind fun xs => datL (rfH h) xs
def inS (f : Bool → Bool) (a b : D) : M D := fun h => match dat (rfH h) a, datS h b with
  | some p, some qs => if min (PyData.depthAll qs) p.depth ≤ 60 then .ok (.bl (f (qs.any fun z => PyData.eqv z p))) h else .bad
  | _, _ => .bad
def inK (f : Bool → Bool) (a : D) (kvs : List (Key × D)) : M D := fun h => match keyD a with
  | some k => .ok (.bl (f (getD_ kvs k).isSome)) h
  | none => .bad
def dInB (f : Bool → Bool) : D → D → M D
  | a, .ref n => fun h => (match h[n]? with
    | some (.dct kvs) => inK f a kvs h
    | _ => inS f a (.ref n) h)
  | a, b => inS f a b
def dIn := dInB id
def dNotIn := dInB not
theorem datS_ok {G : Wd} {h : PH} (k : G.Ok h) {d : D} {v : V} {qs : List PyData} (r : BRep G d v) (e : datS h d = some qs) : ∃ p, Dp G.K G.H v p ∧ (p = .list qs ∨ p = .tuple qs) ∧ PyData.canLayAll0 qs = true := by
  unfold datS at e
  obtain ⟨xs, e1, e2⟩ := Option.bind_eq_some_iff.mp e
  obtain ⟨a, vs, rfl, h1, _, h2⟩ := seq_at k r e1
  obtain ⟨b1, b2⟩ := datL_ok (rfH_ok k) xs h2 e2
  rcases h1 with h1 | h1
  · exact ⟨_, .lst h1 b1, .inl rfl, b2⟩
  · exact ⟨_, .tup h1 b1, .inr rfl, b2⟩
theorem s_in (f : Bool → Bool) : S2 S (fun x y H Q => rInM S.K f x y H Q ∨ rDIn f x y H Q) (dInB f) := by
  intro G h x y dx dy Q gK gc k rx ry p
  have deep : Pst S G (inS f dx dy h) (fun d _ G' => ∀ v, Rep G' d v → Q v G'.H) → rInM S.K f x y G.H Q := by
    intro p
    unfold inS at p
    cases e1 : dat (rfH h) dx with
    | none =>
      simp only [e1] at p
      exact p.elim
    | some a =>
      cases e2 : datS h dy with
      | none =>
        simp only [e1, e2] at p
        exact p.elim
      | some qs =>
        simp only [e1, e2] at p
        by_cases hd : min (PyData.depthAll qs) a.depth ≤ 60
        · rw [if_pos hd] at p
          obtain ⟨a1, a2⟩ := bdat_ok k rx e1
          obtain ⟨b, b1, b2, b3⟩ := datS_ok k ry e2
          rw [← gK]
          exact ⟨a, b, qs, a1, b1, b2, a2, b3, hd, p G (.refl G) k _ .of_bl⟩
        · rw [if_neg hd] at p
          exact p.elim
  cases dy with
  | ref n =>
    obtain ⟨a, h1, rfl⟩ := ry.ref_inv
    obtain ⟨o, h2, h3⟩ := k.at h1
    have p : Pst S G (match h[n]? with
      | some (.dct kvs) => inK f dx kvs h
      | _ => inS f dx (.ref n) h : R D) (fun d _ G' => ∀ v, Rep G' d v → Q v G'.H) := p
    rw [h2] at p
    cases o with
    | dct kvs =>
      obtain ⟨kvs', q1, q2⟩ := h3
      have p : Pst S G (inK f dx kvs h) (fun d _ G' => ∀ v, Rep G' d v → Q v G'.H) := p
      unfold inK at p
      cases e : keyD dx with
      | none =>
        simp only [e] at p
        exact p.elim
      | some key =>
        simp only [e] at p
        refine .inr ⟨a, valV kvs' key, rfl, ?_, ?_⟩
        · rw [keyD_v rx e]
          exact DGet.k q1
        · rcases q2.get (k := key) with ⟨g1, g2⟩ | ⟨d, v, g1, g2, g3⟩
          · rw [g2]
            rw [g1] at p
            exact p G (.refl G) k _ .of_bl
          · rw [g2]
            rw [g1] at p
            exact p G (.refl G) k _ .of_bl
    | _ => exact .inl (deep p)
  | _ => exact .inl (deep p)
theorem o_in : Op2 S (compareOp .In) dIn := ⟨_, fun X hX => by rw [← hX.K]; exact (or_inM hX.room).or (or_din hX.room), s_in id⟩
theorem o_notin : Op2 S (compareOp .NotIn) dNotIn := ⟨_, fun X hX => by rw [← hX.K]; exact (or_ninM hX.room).or (or_dnin hX.room), s_in not⟩
end Sw

set_option maxHeartbeats 400000
/-! Sw, part E: +, *, slices, fields, calls, methods, instances, built-in functions. -/
namespace Sw
open PySem PySem.Spec L2
variable {S : Sx} {O : List Nat}

/-! ### a + b, a * b -/
def dAdd : D → D → M D
  | .int i, .int j => pur (.int (i + j))
  | .tup xs, .tup ys => fun h => if xs.length + ys.length ≤ 16777216 then .ok (.tup (xs ++ ys)) h else .bad
  | _, _ => bad
def rAdd2 (K : PySem.W.Frag) : R2 := fun x y H Q => (rI0 fun i j => .int (i + j)) x y H Q ∨ rCatA K x y H Q
theorem o_add : Op2 S (binaryOp .Add) dAdd := by
  refine ⟨rAdd2 S.K, fun X hX => by rw [← hX.K]; exact op_add.or op_catA, fun G h x y dx dy Q gK gc k rx ry p => ?_⟩
  cases dx with
  | int i =>
    cases dy with
    | int j => exact .inl ⟨i, j, rx.int_inv, ry.int_inv, p G (.refl G) k _ .of_int⟩
    | _ => exact p.elim
  | tup xs =>
    cases dy with
    | tup ys =>
      obtain ⟨a, vs, rfl, h1, h2⟩ := rx.tup_inv
      obtain ⟨b, us, rfl, g1, g2⟩ := ry.tup_inv
      have p : Pst S G (if xs.length + ys.length ≤ 16777216 then .ok (.tup (xs ++ ys)) h else .bad : R D) (fun d _ G' => ∀ v, Rep G' d v → Q v G'.H) := p
      by_cases hl : xs.length + ys.length ≤ 16777216
      · rw [if_pos hl] at p
        have hl' : vs.length + us.length ≤ sizeLine := by
          rw [h2.len, g2.len, sizeLine_eq]
          exact hl
        rw [← gK]
        refine .inr ⟨a, b, vs, us, rfl, rfl, h1.seq, g1.seq, hl', fun e => ?_, fun _ e => ?_, fun _ _ => ?_⟩
        · refine p G (.refl G) k _ ?_
          subst e
          have e2 : xs = [] := List.eq_nil_of_length_eq_zero (by rw [← h2.len]; rfl)
          subst e2
          unfold Rep
          exact ⟨b, us, rfl, g1, g2⟩
        · refine p G (.refl G) k _ ?_
          subst e
          have e2 : ys = [] := List.eq_nil_of_length_eq_zero (by rw [← g2.len]; rfl)
          subst e2
          unfold Rep
          rw [List.append_nil]
          exact ⟨a, vs, rfl, h1, h2⟩
        · exact Pst.layT (ds := xs ++ ys) p k (by rw [List.length_append]; exact hl') (h2.app g2)
      · rw [if_neg hl] at p
        exact p.elim
    | _ => exact p.elim
  | _ => exact p.elim
/-- list + list: a new list -/
def lAdd (a b : EM) : LM := fun Γ => bnd (a Γ) fun x => bnd (b Γ) fun y => fun h => match seqL h x, seqL h y with
  | some xs, some ys => if xs.length + ys.length ≤ 16777216 then .ok (xs ++ ys) h else .bad
  | _, _ => .bad
where
  seqL (h : PH) : D → Option (List D)
    | .lst xs => some xs
    | .ref n => match h[n]? with
      | some (.lst xs) => some xs
      | _ => none
    | _ => none
theorem seqL_at {G : Wd} {h : PH} {d : D} {v : V} {xs : List D} (k : G.Ok h) (r : BRep G d v) (e : lAdd.seqL h d = some xs) : ∃ a vs, v = .ref a ∧ G.H a = some (.lst vs) ∧ vs.length ≤ sizeLine ∧ Reps G xs vs := by
  cases d with
  | lst ys =>
    cases e
    rcases r with r | ⟨zs, a, vs, e, rfl, h1, h2, h3, h4⟩
    · obtain ⟨a, vs, rfl, h1, h2⟩ := r.lst_inv
      exact ⟨a, vs, rfl, h1.1, h1.2.2.2, h2⟩
    · cases e
      exact ⟨a, vs, rfl, h2, h3, h4⟩
  | ref n =>
    obtain ⟨a, h1, rfl⟩ := r.ref_inv
    obtain ⟨o, h2, h3⟩ := k.at h1
    have e : (match h[n]? with
      | some (.lst xs) => some xs
      | _ => none) = some xs := e
    rw [h2] at e
    cases o with
    | lst ys =>
      cases e
      obtain ⟨vs, q1, q2, q3⟩ := h3
      exact ⟨a, vs, rfl, q1, q2, q3⟩
    | _ => cases e
  | _ => cases e
theorem rf_add {a b : Expr} {ma mb : EM} {pos : Pos} (ha : RB S O a ma) (hb : RB S O b mb) : RF S O (.BinOp a .Add b pos) (lAdd ma mb) := by
  obtain ⟨ta, a1, a2⟩ := ha.ex
  obtain ⟨tb, b1, b2⟩ := hb.ex
  refine ⟨_, fun X hX => pe_op op_cat (a1 X hX) (b1 X hX), fun B G h σ Γ Q w p => ?_⟩
  unfold lAdd at p
  refine a2 B G h σ Γ _ w (p.bnd.mono fun dx h1 G1 t1 k1 p1 x rx => ?_)
  refine b2 B G1 h1 σ Γ _ (w.to t1 k1) (p1.bnd.mono fun dy h2 G2 t2 k2 p2 y ry => ?_)
  cases e1 : lAdd.seqL h2 dx with
  | none =>
    simp only [e1] at p2
    exact p2.elim
  | some xs =>
    cases e2 : lAdd.seqL h2 dy with
    | none =>
      simp only [e1, e2] at p2
      exact p2.elim
    | some ys =>
      simp only [e1, e2] at p2
      by_cases hl : xs.length + ys.length ≤ 16777216
      · rw [if_pos hl] at p2
        obtain ⟨a, vs, rfl, q1, q2, q3⟩ := seqL_at k2 (rx.to t2) e1
        obtain ⟨b, us, rfl, f1, f2, f3⟩ := seqL_at k2 ry e2
        have hl' : vs.length + us.length ≤ sizeLine := by
          rw [q3.len, f3.len, sizeLine_eq]
          exact hl
        refine ⟨a, b, vs, us, rfl, rfl, q1, f1, hl', fun c hc => ?_⟩
        exact p2 G2 (.refl G2) k2 c _ hc (by rw [List.length_append]; exact hl') (q3.app f3)
      · rw [if_neg hl] at p2
        exact p2.elim
def dMul : D → D → M D
  | .int i, .int j => fun h => if i.natAbs < 2 ^ 64 ∨ j.natAbs < 2 ^ 64 then .ok (.int (i * j)) h else .bad
  | .tup xs, .int k => fun h => if xs ≠ [] ∧ 2 ≤ k ∧ k ≤ 1000 ∧ xs.length ≤ 1000 then .ok (.tup (List.replicate k.toNat xs).flatten) h else .bad
  | _, _ => bad
theorem o_mul : Op2 S (binaryOp .Mult) dMul := by
  refine ⟨fun x y H Q => (rI CMul fun i j => .int (i * j)) x y H Q ∨ rRepT S.K x y H Q, fun X hX => by rw [← hX.K]; exact op_mul.or op_repT, fun G h x y dx dy Q gK gc k rx ry p => ?_⟩
  cases dx with
  | int i =>
    cases dy with
    | int j =>
      have p : Pst S G (if i.natAbs < 2 ^ 64 ∨ j.natAbs < 2 ^ 64 then .ok (.int (i * j)) h else .bad : R D) (fun d _ G' => ∀ v, Rep G' d v → Q v G'.H) := p
      by_cases hc : i.natAbs < 2 ^ 64 ∨ j.natAbs < 2 ^ 64
      · rw [if_pos hc] at p
        refine .inl ⟨i, j, rx.int_inv, ry.int_inv, ?_, p G (.refl G) k _ .of_int⟩
        unfold CMul
        rcases hc with hc | hc
        · exact .inl ⟨by omega, by omega⟩
        · exact .inr ⟨by omega, by omega⟩
      · rw [if_neg hc] at p
        exact p.elim
    | _ => exact p.elim
  | tup xs =>
    cases dy with
    | int j =>
      have p : Pst S G (if xs ≠ [] ∧ 2 ≤ j ∧ j ≤ 1000 ∧ xs.length ≤ 1000 then .ok (.tup (List.replicate j.toNat xs).flatten) h else .bad : R D) (fun d _ G' => ∀ v, Rep G' d v → Q v G'.H) := p
      obtain ⟨a, vs, rfl, h1, h2⟩ := rx.tup_inv
      by_cases hc : xs ≠ [] ∧ 2 ≤ j ∧ j ≤ 1000 ∧ xs.length ≤ 1000
      · rw [if_pos hc] at p
        obtain ⟨c1, c2, c3, c4⟩ := hc
        rw [← gK]
        refine .inr ⟨a, j, vs, rfl, ry.int_inv, h1.seq, fun e => c1 (List.eq_nil_of_length_eq_zero (by rw [← h2.len, e]; rfl)), c2, c3, by rw [h2.len]; exact c4, ?_⟩
        refine Pst.layT (ds := (List.replicate j.toNat xs).flatten) p k ?_ (h2.rep _)
        rw [PyProof.Rows.lm_len_rep_flat, sizeLine_eq, h2.len]
        have a1 : j.toNat * xs.length ≤ 1000 * 1000 := Nat.mul_le_mul (by omega) c4
        omega
      · rw [if_neg hc] at p
        exact p.elim
    | _ => exact p.elim
  | _ => exact p.elim
/-- list * int: a new list -/
def lMul (a b : EM) : LM := fun Γ => bnd (a Γ) fun x => bnd (b Γ) fun y => fun h => match lAdd.seqL h x, y with
  | some xs, .int k => if -(2 ^ 63) ≤ k ∧ k < 2 ^ 63 ∧ xs.length * k.toNat ≤ 16777216 then .ok (List.replicate k.toNat xs).flatten h else .bad
  | _, _ => .bad
theorem rf_mul {a b : Expr} {ma mb : EM} {pos : Pos} (ha : RB S O a ma) (hb : RB S O b mb) : RF S O (.BinOp a .Mult b pos) (lMul ma mb) := by
  obtain ⟨ta, a1, a2⟩ := ha.ex
  obtain ⟨tb, b1, b2⟩ := hb.ex
  refine ⟨_, fun X hX => pe_op op_rep (a1 X hX) (b1 X hX), fun B G h σ Γ Q w p => ?_⟩
  unfold lMul at p
  refine a2 B G h σ Γ _ w (p.bnd.mono fun dx h1 G1 t1 k1 p1 x rx => ?_)
  refine b2 B G1 h1 σ Γ _ (w.to t1 k1) (p1.bnd.mono fun dy h2 G2 t2 k2 p2 y ry => ?_)
  cases e1 : lAdd.seqL h2 dx with
  | none =>
    simp only [e1] at p2
    exact p2.elim
  | some xs =>
    cases dy with
    | int j =>
      simp only [e1] at p2
      by_cases hc : -(2 ^ 63) ≤ j ∧ j < 2 ^ 63 ∧ xs.length * j.toNat ≤ 16777216
      · rw [if_pos hc] at p2
        obtain ⟨a, vs, rfl, q1, q2, q3⟩ := seqL_at k2 (rx.to t2) e1
        have hl' : vs.length * j.toNat ≤ sizeLine := by
          rw [q3.len, sizeLine_eq]
          exact hc.2.2
        refine ⟨a, j, vs, rfl, ry.int_inv, q1, hc.1, hc.2.1, hl', fun c hc => ?_⟩
        exact p2 G2 (.refl G2) k2 c _ hc (by rw [PyProof.Rows.lm_len_rep_flat, Nat.mul_comm]; exact hl') (q3.rep _)
      · rw [if_neg hc] at p2
        exact p2.elim
    | _ =>
      simp only [e1] at p2
      exact p2.elim

/-! ### slices -/
def SO (S : Sx) (O : List Nat) (t : TO) (m : Env → M (Option Int)) : Prop := ∀ (B : Addr → Prop) (G : Wd) (h : PH) (σ : St) (Γ : Env) (Q : Option Int → Hp → Prop), Here S O B G h σ Γ → Pst S G (m Γ h) (fun o _ G' => Q o G'.H) → t σ G.H Q
structure RO (S : Sx) (O : List Nat) (e : Option Expr) (m : Env → M (Option Int)) : Prop where
  ex : ∃ t, (∀ X, InX S X → PO X e t) ∧ SO S O t m
def oNo : Env → M (Option Int) := fun _ => pur none
def oSome (a : EM) : Env → M (Option Int) := fun Γ => bnd (a Γ) fun d h => match d with
  | .int i => .ok (some i) h
  | _ => .bad
theorem ro_no : RO S O none oNo := ⟨tNoPart, fun X _ => po_none, fun B G h σ Γ Q w p => p.pur w.ok⟩
theorem ro_some {e : Expr} {m : EM} (h : RE S O e m) : RO S O (some e) (oSome m) := by
  obtain ⟨t, h1, h2⟩ := h.ex
  refine ⟨_, fun X hX => po_some (h1 X hX), fun B G h σ Γ Q w p => ?_⟩
  unfold oSome at p
  refine h2 B G h σ Γ _ w (p.bnd.mono fun d h1 G1 t1 k1 p1 v r => ?_)
  cases d with
  | int i => exact ⟨i, r.int_inv, p1 G1 (.refl G1) k1⟩
  | _ => exact p1.elim
def cutD (xs : List D) (lo hi : Option Int) : List D := (xs.drop (HT.sIx xs.length 0 lo)).take (HT.sIx xs.length xs.length hi - HT.sIx xs.length 0 lo)
theorem Reps.cut {G : Wd} {xs : List D} {vs : List V} (r : Reps G xs vs) (lo hi : Option Int) : Reps G (cutD xs lo hi) (cutV vs lo hi) := by
  unfold cutD cutV
  rw [r.len]
  exact (r.drop _).take _
theorem cutV_whole {xs : List V} {lo hi : Option Int} (h : HT.sIx xs.length 0 lo = 0 ∧ HT.sIx xs.length xs.length hi = xs.length) : cutV xs lo hi = xs := by
  unfold cutV
  rw [h.1, h.2]
  simp
/-- t[lo:hi] -/
def gSl (a : EM) (l u : Env → M (Option Int)) : EM := fun Γ => bnd (a Γ) fun x => bnd (l Γ) fun i => bnd (u Γ) fun j => fun h => match x with
  | .tup xs => .ok (.tup (cutD xs i j)) h
  | _ => .bad
theorem re_sl {e : Expr} {lo hi : Option Expr} {p2 pos : Pos} {m : EM} {l u : Env → M (Option Int)} (he : RE S O e m) (hl : RO S O lo l) (hu : RO S O hi u) : RE S O (.Subscript e (.Slice lo hi none p2) pos) (gSl m l u) := by
  obtain ⟨t, h1, h2⟩ := he.ex
  obtain ⟨tl, l1, l2⟩ := hl.ex
  obtain ⟨tu, u1, u2⟩ := hu.ex
  refine ⟨_, fun X hX => pe_slice (r := rSlA S.K) (by rw [← hX.K]; exact sl_tupA) (h1 X hX) (l1 X hX) (u1 X hX), fun B G h σ Γ Q w p => ?_⟩
  unfold gSl at p
  refine h2 B G h σ Γ _ w (p.bnd.mono fun d h1 G1 t1 k1 p1 v r => ?_)
  refine l2 B G1 h1 σ Γ _ (w.to t1 k1) (p1.bnd.mono fun i h2 G2 t2 k2 p2 => ?_)
  refine u2 B G2 h2 σ Γ _ ((w.to t1 k1).to t2 k2) (p2.bnd.mono fun j h3 G3 t3 k3 p3 => ?_)
  have r3 := (r.le t2.le).le t3.le
  have gK : G3.K = S.K := (((w.to t1 k1).to t2 k2).to t3 k3).K
  cases d with
  | tup xs =>
    obtain ⟨a, vs, rfl, q1, q2⟩ := r3.tup_inv
    rw [← gK]
    refine ⟨a, vs, rfl, q1.seq, fun e => ?_, fun e => ?_⟩
    · refine p3 G3 (.refl G3) k3 _ ?_
      unfold Rep
      refine ⟨a, vs, rfl, q1, ?_⟩
      have := q2.cut i j
      rw [cutV_whole e] at this
      exact this
    · exact Pst.layT (ds := cutD xs i j) p3 k3 (Nat.le_trans (cutV_length _ _ _) q1.len) (q2.cut i j)
  | _ => exact p3.elim
/-- xs[lo:hi]: a new list -/
def lSl (a : EM) (l u : Env → M (Option Int)) : LM := fun Γ => bnd (a Γ) fun x => bnd (l Γ) fun i => bnd (u Γ) fun j => fun h => match lAdd.seqL h x with
  | some xs => .ok (cutD xs i j) h
  | none => .bad
theorem rf_sl {e : Expr} {lo hi : Option Expr} {p2 pos : Pos} {m : EM} {l u : Env → M (Option Int)} (he : RB S O e m) (hl : RO S O lo l) (hu : RO S O hi u) : RF S O (.Subscript e (.Slice lo hi none p2) pos) (lSl m l u) := by
  obtain ⟨t, h1, h2⟩ := he.ex
  obtain ⟨tl, l1, l2⟩ := hl.ex
  obtain ⟨tu, u1, u2⟩ := hu.ex
  refine ⟨_, fun X hX => pe_slice (r := rSlL S.K) (by rw [← hX.K]; exact sl_list) (h1 X hX) (l1 X hX) (u1 X hX), fun B G h σ Γ Q w p => ?_⟩
  unfold lSl at p
  refine h2 B G h σ Γ _ w (p.bnd.mono fun d h1 G1 t1 k1 p1 v r => ?_)
  refine l2 B G1 h1 σ Γ _ (w.to t1 k1) (p1.bnd.mono fun i h2 G2 t2 k2 p2 => ?_)
  refine u2 B G2 h2 σ Γ _ ((w.to t1 k1).to t2 k2) (p2.bnd.mono fun j h3 G3 t3 k3 p3 => ?_)
  have r3 := (r.to t2).to t3
  cases e : lAdd.seqL h3 d with
  | none =>
    simp only [e] at p3
    exact p3.elim
  | some xs =>
    simp only [e] at p3
    obtain ⟨a, vs, rfl, q1, q2, q3⟩ := seqL_at k3 r3 e
    refine ⟨a, vs, rfl, SqL.of q1, fun c hc => ?_⟩
    exact p3 G3 (.refl G3) k3 c _ hc (Nat.le_trans (cutV_length _ _ _) q2) (q3.cut i j)


end Sw

set_option maxHeartbeats 400000
/-! Sw, part F: fields, calls, methods, instances, built-in functions. -/
namespace Sw
open PySem PySem.Spec L2
variable {S : Sx} {O : List Nat}

/-! ### fields, methods, calls -/
/-- the classes: where each stands, its fields -/
structure ClsOk (S : Sx) (C : Str) (fs : List Str) : Prop where
  cl : Cls S.K (S.cl C)
  no : ∀ f ∈ fs, NoAttr S.K (S.cl C) f
def gFld (C f : Str) (a : EM) : EM := fun Γ => bnd (a Γ) fun d h => match d with
  | .ref n => (match h[n]? with
    | some (.ins C' fs) => if C' = C then (match getD_ fs f with
      | some x => .ok x h
      | none => .bad) else .bad
    | _ => .bad)
  | _ => .bad
theorem lookup_valV {fs : List (Str × V)} {f : Str} : fs.lookup f = valV fs f := by
  induction fs with
  | nil => rfl
  | cons p r ih =>
    obtain ⟨g, v⟩ := p
    by_cases e : g = f
    · subst e
      rw [valV_pos rfl]
      simp [List.lookup]
    · rw [valV_neg e, ← ih]
      have : (f == g) = false := beq_eq_false_iff_ne.mpr (fun q => e q.symm)
      simp [List.lookup, this]
theorem re_fld {e : Expr} {C f : Str} {fs : List Str} {m : EM} {pos : Pos} (c : ClsOk S C fs) (hf : f ∈ fs) (he : RE S O e m) (hb : ∀ env, attributeBase e f env (eval e env) = eval e env) : RE S O (.Attribute e f pos) (gFld C f m) := by
  obtain ⟨t, h1, h2⟩ := he.ex
  refine ⟨tFld S.K t f, fun X hX => by rw [← hX.K]; exact pe_fld (h1 X hX) (hb _), fun B G h σ Γ Q w p => ?_⟩
  unfold gFld at p
  refine h2 B G h σ Γ _ w (p.bnd.mono fun d h1 G1 t1 k1 p1 v r => ?_)
  cases d with
  | ref n =>
    obtain ⟨a, q1, rfl⟩ := r.ref_inv
    obtain ⟨o, q2, q3⟩ := k1.at q1
    simp only [q2] at p1
    cases o with
    | ins C' gs =>
      simp only at p1
      by_cases hC : C' = C
      · subst hC
        rw [if_pos rfl] at p1
        obtain ⟨dx, gs', q4, q5⟩ := q3
        rcases q5.get (k := f) with ⟨g1, _⟩ | ⟨d, v, g1, g2, g3⟩
        · simp only [g1] at p1
          exact p1.elim
        · simp only [g1] at p1
          have gc : G1.cl = S.cl := (w.to t1 k1).cl
          refine ⟨a, S.cl C', dx, gs', v, rfl, by rw [← gc]; exact q4, c.cl, c.no f hf, by rw [lookup_valV]; exact g2, p1 G1 (.refl G1) k1 v g3⟩
      · rw [if_neg hC] at p1
        exact p1.elim
    | _ => exact p1.elim
  | _ => exact p1.elim

/-- what a def keeps to: its shadow -/
def spM (T : Tx) (n : Nat) (f : List D → M D) : Sp := fun vs H Q E => vs.length = n ∧ ∃ (G : Wd) (h : PH) (ds : List D), G.K = T.K ∧ G.cl = T.cl ∧ G.Ok h ∧ G.H = H ∧ Reps G ds vs ∧
  Pst (T.sx E) G (f ds h) (fun d _ G' => ∀ v, Rep G' d v → Q v G'.H)
theorem Pst.sx {α : Type} {S : Sx} {G : Wd} {r : R α} {Z : α → PH → Wd → Prop} (p : Pst S G r Z) : Pst (S.T.sx S.E) G r Z := by
  cases r with
  | ok a h' => exact p
  | ex c xs h' => exact p
  | bad => exact p
/-- a def of the module, by its name -/
structure FnS (T : Tx) (x : Str) (k n : Nat) (f : List D → M D) : Prop where
  ex : ∃ (a : Addr) (fd : FuncData) (ps : List Str), ps.length = n ∧ FnOk T.P T.w T.K T.mg T.base T.CX k a fd ps (spM T n f) ∧ T.mg x = some (.ref a) ∧ PySem.W.keepIn T.K (.ref a) = true ∧ Binds T.K fd ps []
  nd : (x == ("__debug__" : Str)) = false
/-- a method -/
structure MtS (T : Tx) (C m : Str) (k n : Nat) (f : List D → M D) : Prop where
  ex : ∃ (a : Addr) (fd : FuncData) (ps : List Str), ps.length = n ∧ FnOk T.P T.w T.K T.mg T.base T.CX k a fd ps (spM T n f) ∧ Meth T.K (T.cl C) m a ∧ Binds T.K fd ps []
  cl : Cls T.K (T.cl C)
/-- a class that is made -/
structure MkS (T : Tx) (C : Str) (k n : Nat) (f : List D → M D) : Prop where
  ex : ∃ (a : Addr) (fd : FuncData) (ps : List Str), ps.length = n + 1 ∧ FnOk T.P T.w T.K T.mg T.base T.CX k a fd ps (spM T (n + 1) f) ∧ Mk T.K (T.cl C) a ∧ Binds T.K fd ps []
  mg : T.mg C = some (.ref (T.cl C))
  nd : (C == ("__debug__" : Str)) = false
def gCall (f : List D → M D) (ms : List EM) : EM := fun Γ => bnd (seqA ms Γ) f
theorem here_sp {n : Nat} {f : List D → M D} {B : Addr → Prop} {G : Wd} {h : PH} {σ : St} {Γ : Env} {Q : VK} {ds : List D} {vs : List V} (w : Here S O B G h σ Γ) (hn : ds.length = n) (r : Reps G ds vs)
    (p : Pst S G (f ds h) (fun d _ G' => ∀ v, Rep G' d v → Q v G'.H)) : spM S.T n f vs G.H Q S.E :=
  ⟨by rw [r.len]; exact hn, G, h, ds, w.K, w.cl, w.ok, rfl, r, p.sx⟩
theorem fn_at {X : Cx} (hX : InX S X) {a : Addr} {fd : FuncData} {ps : List Str} {k : Nat} {sp : Sp} (F : FnOk S.P S.w S.K S.mg S.base S.CX k a fd ps sp) : FnOk X.prog X.w X.K X.mg X.base S.CX k a fd ps sp := by
  rw [hX.prog, hX.w, hX.K, hX.mg, hX.base]
  exact F
theorem re_call {x : Str} {n : Nat} {k0 : Nat} {f : List D → M D} {e : Expr} {es : List Expr} {ms : List EM} {p pos : Pos} (F : FnS S.T x k0 n f) (hk0 : k0 ≤ S.k) (g : Gb S x) (ha : RA S O (e :: es) ms) (hn : ms.length = n)
    (hst : ∀ env, starEach (e :: es) env = (false, eval e env) :: starEach es env) (hpl : ∀ env, (backTo pos (starEach es env)).any (·.1) = false) : RE S O (.Call (.Name x p) (e :: es) [] pos) (gCall f ms) := by
  obtain ⟨a, fd, ps, hps, FO, hm, hk, hb⟩ := F.ex
  obtain ⟨t, a1, a2⟩ := ha.ex
  refine ⟨tCall (spM S.T n f) [] S.E t, fun X hX => pe_call (fn_at hX FO) (hX.room.mono hk0) (g.gl hX) (by rw [hX.mg]; exact hm) (by rw [hX.K]; exact hk) (by rw [hX.K]; exact hb) .nil hX.pass (a1 X hX) F.nd (hst _) (hpl _), fun B G h σ Γ Q w p => ?_⟩
  unfold gCall at p
  refine a2 B G h σ Γ _ w (p.bnd.ok_len.mono fun ds h1 G1 t1 k1 ⟨hl, p1⟩ vs r => ?_)
  rw [List.append_nil]
  exact here_sp (w.to t1 k1) (hl.trans hn) r p1
theorem re_call0 {x : Str} {k0 : Nat} {f : List D → M D} {p pos : Pos} (F : FnS S.T x k0 0 f) (hk0 : k0 ≤ S.k) (g : Gb S x) : RE S O (.Call (.Name x p) [] [] pos) (gCall f []) := by
  obtain ⟨a, fd, ps, hps, FO, hm, hk, hb⟩ := F.ex
  refine ⟨tCall (spM S.T 0 f) [] S.E tNil, fun X hX => pe_call0 (fn_at hX FO) (hX.room.mono hk0) (g.gl hX) (by rw [hX.mg]; exact hm) (by rw [hX.K]; exact hk) (by rw [hX.K]; exact hb) .nil hX.pass F.nd, fun B G h σ Γ Q w p => ?_⟩
  unfold gCall at p
  have p1 := p.bnd.pur w.ok
  exact here_sp w rfl .nil p1
/-- o.m(..) -/
def gMeth (C m : Str) (f : List D → M D) (o : EM) (ms : List EM) : EM := fun Γ => bnd (o Γ) fun d => fun h => match d with
  | .ref n => (match h[n]? with
    | some (.ins C' fs) => if C' = C ∧ (getD_ fs m).isNone then bnd (seqA ms Γ) (fun ds => f (d :: ds)) h else .bad
    | _ => .bad)
  | _ => .bad
theorem se_meth {C m : Str} {n : Nat} {f : List D → M D} {o : EM} {ms : List EM} {to : TE} {t : TA} (ho : SE S O to o) (ha : SA S O t (seqA ms)) (hn : ms.length + 1 = n) : SE S O (tMeth (S.cl C) m (spM S.T n f) [] S.E to t) (gMeth C m f o ms) := by
  intro B G h σ Γ Q w p
  unfold gMeth at p
  refine ho B G h σ Γ _ w (p.bnd.mono fun d h1 G1 t1 k1 p1 v r => ?_)
  have w1 := w.to t1 k1
  cases d with
  | ref i =>
    obtain ⟨a, q1, rfl⟩ := r.ref_inv
    obtain ⟨ob, q2, q3⟩ := k1.at q1
    simp only [q2] at p1
    cases ob with
    | ins C' gs =>
      simp only at p1
      by_cases hC : C' = C ∧ (getD_ gs m).isNone = true
      · rw [if_pos hC] at p1
        obtain ⟨hC, hN⟩ := hC
        subst hC
        obtain ⟨dx, gs', q4, q5⟩ := q3
        refine ⟨a, dx, gs', rfl, by rw [← w1.cl]; exact q4, ?_, ?_⟩
        · rw [lookup_valV]
          rcases q5.get (k := m) with ⟨_, g1⟩ | ⟨d, v, g1, _⟩
          · exact g1
          · rw [g1] at hN
            cases hN
        · refine ha B G1 h1 σ Γ _ w1 (p1.bnd.ok_len.mono fun ds h2 G2 t2 k2 ⟨hl, p2⟩ vs rs => ?_)
          rw [List.append_nil]
          exact here_sp (w1.to t2 k2) (by rw [List.length_cons, hl]; exact hn) (.cons (r.le t2.le) rs) p2
      · rw [if_neg hC] at p1
        exact p1.elim
    | _ => exact p1.elim
  | _ => exact p1.elim
theorem re_meth {C m : Str} {n : Nat} {k0 : Nat} {f : List D → M D} {o : Expr} {mo : EM} {e : Expr} {es : List Expr} {ms : List EM} {apos pos : Pos} {pl : PySem.Env → Sem Bool} (F : MtS S.T C m k0 n f) (hk0 : k0 ≤ S.k) (ho : RE S O o mo) (ha : RA S O (e :: es) ms) (hn : ms.length + 1 = n)
    (hst : ∀ env, starEach (e :: es) env = (false, eval e env) :: starEach es env) (hpl : ∀ env, (backTo pos (starEach es env)).any (·.1) = false)
    (ht : ∀ env, eval (.Call (.Attribute o m apos) (e :: es) [] pos) env = (do
      let ov ← eval o env
      standAt apos.atName
      let (f, first) ← holding [ov] (getMethod ov m (pl env))
      callWith pos f first (backTo pos (starEach (e :: es) env)) (backToKw pos (keywordEach [] env)))) : RE S O (.Call (.Attribute o m apos) (e :: es) [] pos) (gMeth C m f mo ms) := by
  obtain ⟨a, fd, ps, hps, FO, hm, hb⟩ := F.ex
  obtain ⟨to, o1, o2⟩ := ho.ex
  obtain ⟨t, a1, a2⟩ := ha.ex
  exact ⟨tMeth (S.cl C) m (spM S.T n f) [] S.E to t, fun X hX => pe_meth (pl := pl X.env) (o1 X hX) (by rw [hX.K]; exact F.cl) (by rw [hX.K]; exact hm) (fn_at hX FO) (hX.room.mono hk0) (by rw [hX.K]; exact hb) .nil hX.pass (a1 X hX) (hst _) (hpl _) (ht _), se_meth o2 a2 hn⟩
theorem re_meth0 {C m : Str} {k0 : Nat} {f : List D → M D} {o : Expr} {mo : EM} {apos pos : Pos} {pl : PySem.Env → Sem Bool} (F : MtS S.T C m k0 1 f) (hk0 : k0 ≤ S.k) (ho : RE S O o mo)
    (ht : ∀ env, eval (.Call (.Attribute o m apos) [] [] pos) env = (do
      let ov ← eval o env
      standAt apos.atName
      let (f, first) ← holding [ov] (getMethod ov m (pl env))
      callWith pos f first (backTo pos (starEach [] env)) (backToKw pos (keywordEach [] env)))) : RE S O (.Call (.Attribute o m apos) [] [] pos) (gMeth C m f mo []) := by
  obtain ⟨a, fd, ps, hps, FO, hm, hb⟩ := F.ex
  obtain ⟨to, o1, o2⟩ := ho.ex
  exact ⟨tMeth (S.cl C) m (spM S.T 1 f) [] S.E to tNil, fun X hX => pe_meth0 (pl := pl X.env) (o1 X hX) (by rw [hX.K]; exact F.cl) (by rw [hX.K]; exact hm) (fn_at hX FO) (hX.room.mono hk0) (by rw [hX.K]; exact hb) .nil hX.pass (ht _), se_meth (t := tNil) (ms := []) o2 (fun B G h σ Γ Q w p => (p.pur w.ok) [] .nil) rfl⟩
/-- C(..) -/
def gMake (C : Str) (f : List D → M D) (ms : List EM) : EM := fun Γ => bnd (seqA ms Γ) fun ds => fun h => match f (.ref h.length :: ds) (h ++ [.ins C []]) with
  | .ok .non h' => .ok (.ref h.length) h'
  | .ok _ _ => .bad
  | .ex c xs h' => .ex c xs h'
  | .bad => .bad
theorem made_ob {G : Wd} {h : PH} (k : G.Ok h) {x dx : Addr} {C : Str} (hx : G.H x = none) (hd : G.H dx = none) (hne : dx ≠ x) :
    ((G.lay dx (.own x)).layO x (.ins (G.cl C) dx [])).Ok (h ++ [.ins C []]) ∧ G.To ((G.lay dx (.own x)).layO x (.ins (G.cl C) dx [])) ∧ Rep ((G.lay dx (.own x)).layO x (.ins (G.cl C) dx [])) (.ref h.length) (.ref x) := by
  have k1 := Wd.lay_ok k (o := .own x) hd
  have hx1 : (G.lay dx (.own x)).H x = none := (upd_ne (fun q => hne q.symm)).trans hx
  exact ⟨Wd.layO_ok k1 hx1 ⟨dx, [], upd_same, .nil⟩, (Wd.lay_to k hd).trans (Wd.layO_to k1 hx1), rep_layO k1⟩
theorem se_make {C : Str} {n : Nat} {f : List D → M D} {ms : List EM} {t : TA} (ha : SA S O t (seqA ms)) (hn : ms.length = n) : SE S O (tMake (S.cl C) (spM S.T (n + 1) f) [] S.E t) (gMake C f ms) := by
  intro B G h σ Γ Q w p
  unfold gMake at p
  refine ha B G h σ Γ _ w (p.bnd.ok_len.mono fun ds h1 G1 t1 k1 ⟨hl, p1⟩ vs r => ?_)
  intro x dx hx hd hne
  have w1 := w.to t1 k1
  obtain ⟨q1, q2, q3⟩ := made_ob k1 (C := C) hx hd hne
  rw [List.append_nil]
  have e : upd (upd G1.H dx (.own x)) x (.ins (S.cl C) dx []) = ((G1.lay dx (.own x)).layO x (.ins (G1.cl C) dx [])).H := by rw [w1.cl]; rfl
  rw [e]
  refine here_sp (w1.to q2 q1) (ds := .ref h1.length :: ds) (by rw [List.length_cons, hl, hn]) (.cons q3 (Reps.le q2.le _ r)) ?_
  cases e2 : f (.ref h1.length :: ds) (h1 ++ [.ins C []]) with
  | ok d h2 =>
    simp only [e2] at p1
    intro G2 t2 k2 v rv
    cases d with
    | non => exact ⟨rv.non_inv, p1 G2 (q2.trans t2) k2 _ (q3.le t2.le)⟩
    | _ => exact p1.elim
  | ex c xs h2 =>
    simp only [e2] at p1
    exact ⟨p1.1, fun G2 dx2 t2 k2 xr => p1.2 G2 dx2 (q2.trans t2) k2 xr⟩
  | bad =>
    simp only [e2] at p1
    exact p1
theorem re_make {C : Str} {n : Nat} {k0 : Nat} {f : List D → M D} {e : Expr} {es : List Expr} {ms : List EM} {p pos : Pos} (F : MkS S.T C k0 n f) (hk0 : k0 + 1 ≤ S.k) (g : Gb S C) (ha : RA S O (e :: es) ms) (hn : ms.length = n)
    (hst : ∀ env, starEach (e :: es) env = (false, eval e env) :: starEach es env) (hpl : ∀ env, (backTo pos (starEach es env)).any (·.1) = false) : RE S O (.Call (.Name C p) (e :: es) [] pos) (gMake C f ms) := by
  obtain ⟨a, fd, ps, hps, FO, mk, hb⟩ := F.ex
  obtain ⟨t, a1, a2⟩ := ha.ex
  exact ⟨tMake (S.cl C) (spM S.T (n + 1) f) [] S.E t, fun X hX => pe_make (by rw [hX.K]; exact mk) (fn_at hX FO) (hX.room.mono hk0) (g.gl hX) (by rw [hX.mg]; exact F.mg) (by rw [hX.K]; exact hb) .nil hX.pass (a1 X hX) F.nd (hst _) (hpl _), se_make a2 hn⟩

/-! ### built-in functions of values -/
structure BfS (S : Sx) (x : Str) (f : List D → M D) : Prop where
  ex : ∃ (id : String) (r : List V → Hp → VK → Prop), (∀ X, InX S X → CallR X (.builtin id) r) ∧ bootBuiltins x = some (.builtin id) ∧
    ∀ (G : Wd) (h : PH) (vs : List V) (ds : List D) (Q : VK), G.K = S.K → G.cl = S.cl → G.Ok h → Reps G ds vs → Pst S G (f ds h) (fun d _ G' => ∀ v, Rep G' d v → Q v G'.H) → r vs G.H Q
  mg : S.mg x = none
  n1 : x ≠ "__name__"
  n2 : (x == ("__debug__" : Str)) = false
theorem re_bf {x : Str} {f : List D → M D} {e : Expr} {es : List Expr} {ms : List EM} {p pos : Pos} (F : BfS S x f) (g : Gb S x) (ha : RA S O (e :: es) ms)
    (hst : ∀ env, starEach (e :: es) env = (false, eval e env) :: starEach es env) (hpl : ∀ env, (backTo pos (starEach es env)).any (·.1) = false) : RE S O (.Call (.Name x p) (e :: es) [] pos) (gCall f ms) := by
  obtain ⟨id, r, h1, h2, h3⟩ := F.ex
  obtain ⟨t, a1, a2⟩ := ha.ex
  refine ⟨tCB r t, fun X hX => pe_callB (h1 X hX) (g.gl hX) (by rw [hX.mg]; exact F.mg) h2 (a1 X hX) F.n1 F.n2 (hst _) (hpl _), fun B G h σ Γ Q w p => ?_⟩
  unfold gCall at p
  refine a2 B G h σ Γ _ w (p.bnd.mono fun ds h1 G1 t1 k1 p1 vs rs => ?_)
  have w1 := w.to t1 k1
  exact h3 G1 h1 vs ds Q w1.K w1.cl k1 rs p1
def bMax : List D → M D
  | [.int i, .int j] => pur (.int (if j > i then j else i))
  | _ => bad
def bMin : List D → M D
  | [.int i, .int j] => pur (.int (if j < i then j else i))
  | _ => bad
theorem reps2 {G : Wd} {a b : D} {vs : List V} (h : Reps G [a, b] vs) : ∃ u v, vs = [u, v] ∧ Rep G a u ∧ Rep G b v := by
  obtain ⟨u, r, rfl, h1, h2⟩ := h.cons_inv
  obtain ⟨v, r', rfl, h3, h4⟩ := h2.cons_inv
  rw [h4.nil_inv]
  exact ⟨u, v, rfl, h1, h3⟩
theorem reps1 {G : Wd} {a : D} {vs : List V} (h : Reps G [a] vs) : ∃ u, vs = [u] ∧ Rep G a u := by
  obtain ⟨u, r, rfl, h1, h2⟩ := h.cons_inv
  rw [h2.nil_inv]
  exact ⟨u, rfl, h1⟩
theorem bf_max (m : S.mg "max" = none) : BfS S "max" bMax := by
  refine ⟨⟨"max", _, fun X hX => call_max2 hX.calm, by decide +kernel, fun G h vs ds Q gK gc k r p => ?_⟩, m, by decide +kernel, by decide +kernel⟩
  unfold bMax at p
  split at p
  · rename_i i j
    obtain ⟨u, v, rfl, h1, h2⟩ := reps2 r
    exact ⟨i, j, by rw [h1.int_inv, h2.int_inv], p G (.refl G) k _ .of_int⟩
  · exact p.elim
theorem bf_min (m : S.mg "min" = none) : BfS S "min" bMin := by
  refine ⟨⟨"min", _, fun X hX => call_min2 hX.calm, by decide +kernel, fun G h vs ds Q gK gc k r p => ?_⟩, m, by decide +kernel, by decide +kernel⟩
  unfold bMin at p
  split at p
  · rename_i i j
    obtain ⟨u, v, rfl, h1, h2⟩ := reps2 r
    exact ⟨i, j, by rw [h1.int_inv, h2.int_inv], p G (.refl G) k _ .of_int⟩
  · exact p.elim
end Sw

set_option maxHeartbeats 400000
/-! Sw, part G: built-in functions of one thing, list methods. -/
namespace Sw
open PySem PySem.Spec L2
variable {S : Sx} {O : List Nat}

/-! ### a built-in called with one thing that is looked at -/
/-- by values -/
def C1 (S : Sx) (r : List V → Hp → VK → Prop) (f : D → M D) : Prop := ∀ (G : Wd) (h : PH) (x : V) (d : D) (Q : VK), G.K = S.K → G.cl = S.cl → G.Ok h → BRep G d x →
  Pst S G (f d h) (fun d _ G' => ∀ v, Rep G' d v → Q v G'.H) → r [x] G.H Q
/-- .. giving a new list -/
def C1F (S : Sx) (r : List V → Hp → VK → Prop) (f : D → M (List D)) : Prop := ∀ (G : Wd) (h : PH) (x : V) (d : D) (Q : VK), G.K = S.K → G.cl = S.cl → G.Ok h → BRep G d x →
  Pst S G (f d h) (fun ds _ G' => ∀ p vs, G'.H p = none → vs.length ≤ sizeLine → Reps G' ds vs → Q (.ref p) (upd G'.H p (.lst vs))) → r [x] G.H Q
theorem se_c1 {r : List V → Hp → VK → Prop} {f : D → M D} {t : TE} {m : EM} (c : C1 S r f) (h : SB S O t m) : SE S O (tCB r (tCons t tNil)) (g1 f m) := by
  intro B G h0 σ Γ Q w p
  unfold g1 at p
  refine h B G h0 σ Γ _ w (p.bnd.mono fun d h1 G1 t1 k1 p1 v rv => ?_)
  exact c G1 h1 v d Q (w.to t1 k1).K (w.to t1 k1).cl k1 rv p1
def l1 (f : D → M (List D)) (a : EM) : LM := fun Γ => bnd (a Γ) fun x => f x
theorem sf_c1 {r : List V → Hp → VK → Prop} {f : D → M (List D)} {t : TE} {m : EM} (c : C1F S r f) (h : SB S O t m) : SF S O (tCB r (tCons t tNil)) (l1 f m) := by
  intro B G h0 σ Γ Q w p
  unfold l1 at p
  refine h B G h0 σ Γ _ w (p.bnd.mono fun d h1 G1 t1 k1 p1 v rv => ?_)
  exact c G1 h1 v d Q (w.to t1 k1).K (w.to t1 k1).cl k1 rv p1
/-- the name of a built-in function, of a built-in class -/
structure BiF (S : Sx) (x : Str) (id : String) : Prop where
  g : Gb S x
  m : S.mg x = none
  v : bootBuiltins x = some (.builtin id)
  n1 : x ≠ "__name__"
  n2 : (x == ("__debug__" : Str)) = false
structure BiT (S : Sx) (x : Str) (T : String) : Prop where
  g : Gb S x
  m : S.mg x = none
  v : bootBuiltins x = some (.type T)
  n1 : x ≠ "__name__"
  n2 : (x == ("__debug__" : Str)) = false
/-- the rule that a built-in function keeps -/
structure F1 (S : Sx) (id : String) (f : D → M D) : Prop where
  ex : ∃ r, (∀ X, InX S X → CallR X (.builtin id) r) ∧ C1 S r f
structure T1 (S : Sx) (T : String) (f : D → M D) : Prop where
  ex : ∃ r, (∀ X, InX S X → CallR X (.type T) r) ∧ C1 S r f
structure F1F (S : Sx) (id : String) (f : D → M (List D)) : Prop where
  ex : ∃ r, (∀ X, InX S X → CallR X (.builtin id) r) ∧ C1F S r f
structure T1F (S : Sx) (T : String) (f : D → M (List D)) : Prop where
  ex : ∃ r, (∀ X, InX S X → CallR X (.type T) r) ∧ C1F S r f
section
variable {x : Str} {id T : String} {e : Expr} {m : EM} {p pos : Pos}
theorem pe_arg1 {t : TE} {X : Cx} (h : PE X e t) (hst : ∀ env, starEach [e] env = (false, eval e env) :: starEach [] env) : PA X [e] (tCons t tNil) := pa_cons h pa_nil (hst _)
theorem re_f1 {f : D → M D} (b : BiF S x id) (F : F1 S id f) (h : RB S O e m) (hst : ∀ env, starEach [e] env = (false, eval e env) :: starEach [] env) (hpl : ∀ env, (backTo pos (starEach [] env)).any (·.1) = false) : RE S O (.Call (.Name x p) [e] [] pos) (g1 f m) := by
  obtain ⟨r, r1, r2⟩ := F.ex
  obtain ⟨t, h1, h2⟩ := h.ex
  exact ⟨_, fun X hX => pe_callB (r1 X hX) (b.g.gl hX) (by rw [hX.mg]; exact b.m) b.v (pe_arg1 (h1 X hX) hst) b.n1 b.n2 (hst _) (hpl _), se_c1 r2 h2⟩
theorem re_t1 {f : D → M D} (b : BiT S x T) (F : T1 S T f) (h : RB S O e m) (hst : ∀ env, starEach [e] env = (false, eval e env) :: starEach [] env) (hpl : ∀ env, (backTo pos (starEach [] env)).any (·.1) = false) : RE S O (.Call (.Name x p) [e] [] pos) (g1 f m) := by
  obtain ⟨r, r1, r2⟩ := F.ex
  obtain ⟨t, h1, h2⟩ := h.ex
  exact ⟨_, fun X hX => pe_callTy (r1 X hX) (b.g.gl hX) (by rw [hX.mg]; exact b.m) b.v (pe_arg1 (h1 X hX) hst) b.n1 b.n2 (hst _) (hpl _), se_c1 r2 h2⟩
theorem rf_f1 {f : D → M (List D)} (b : BiF S x id) (F : F1F S id f) (h : RB S O e m) (hst : ∀ env, starEach [e] env = (false, eval e env) :: starEach [] env) (hpl : ∀ env, (backTo pos (starEach [] env)).any (·.1) = false) : RF S O (.Call (.Name x p) [e] [] pos) (l1 f m) := by
  obtain ⟨r, r1, r2⟩ := F.ex
  obtain ⟨t, h1, h2⟩ := h.ex
  exact ⟨_, fun X hX => pe_callB (r1 X hX) (b.g.gl hX) (by rw [hX.mg]; exact b.m) b.v (pe_arg1 (h1 X hX) hst) b.n1 b.n2 (hst _) (hpl _), sf_c1 r2 h2⟩
theorem rf_t1 {f : D → M (List D)} (b : BiT S x T) (F : T1F S T f) (h : RB S O e m) (hst : ∀ env, starEach [e] env = (false, eval e env) :: starEach [] env) (hpl : ∀ env, (backTo pos (starEach [] env)).any (·.1) = false) : RF S O (.Call (.Name x p) [e] [] pos) (l1 f m) := by
  obtain ⟨r, r1, r2⟩ := F.ex
  obtain ⟨t, h1, h2⟩ := h.ex
  exact ⟨_, fun X hX => pe_callTy (r1 X hX) (b.g.gl hX) (by rw [hX.mg]; exact b.m) b.v (pe_arg1 (h1 X hX) hst) b.n1 b.n2 (hst _) (hpl _), sf_c1 r2 h2⟩
end
/-! len -/
def dLen (d : D) : M D := fun h => match d with
  | .str z => if z.cps.size ≤ 16777216 then .ok (.int z.cps.size) h else .bad
  | d => (match seqD h d with
    | some xs => .ok (.int xs.length) h
    | none => .bad)
def rLen1 (K : PySem.W.Frag) : List V → Hp → VK → Prop := fun xs H Q => ∃ x n, xs = [x] ∧ LenV K x H n ∧ Q (.int (n : Nat)) H
theorem f_len : F1 S "len" dLen := by
  refine ⟨rLen1 S.K, fun X hX => by rw [← hX.K]; exact call_len, fun G h x d Q gK gc k r p => ?_⟩
  have seq : Pst S G (match seqD h d with
      | some xs => .ok (.int xs.length) h
      | none => .bad : R D) (fun d _ G' => ∀ v, Rep G' d v → Q v G'.H) → rLen1 S.K [x] G.H Q := by
    intro p
    cases e : seqD h d with
    | none =>
      rw [e] at p
      exact p.elim
    | some xs =>
      rw [e] at p
      obtain ⟨a, vs, rfl, h1, h2, h3⟩ := seq_at k r e
      refine ⟨_, vs.length, rfl, ?_, ?_⟩
      · rw [← gK]
        rcases h1 with h1 | h1
        · exact .inl ⟨vs, h1, rfl⟩
        · exact .inr ⟨vs, h1, rfl⟩
      · rw [h3.len]
        exact p G (.refl G) k _ .of_int
  unfold dLen at p
  cases d with
  | str z =>
    by_cases hz : z.cps.size ≤ 16777216
    · simp only [if_pos hz] at p
      refine ⟨x, z.cps.size, rfl, ?_, p G (.refl G) k _ .of_int⟩
      rw [r.str_inv.1]
      exact ⟨by rw [sizeLine_eq]; exact hz, rfl⟩
    · simp only [if_neg hz] at p
      exact p.elim
  | _ => exact seq p
/-! isinstance of a built-in class -/
def isTy (T : String) (d : D) : M D := fun h => match d with
  | .non => .ok (.bl false) h
  | .bl _ => .ok (.bl (T == "bool" || T == "int")) h
  | .int _ => .ok (.bl (T == "int")) h
  | .str _ => .ok (.bl (T == "str")) h
  | .tup _ => .ok (.bl (T == "tuple")) h
  | .lst _ => .ok (.bl (T == "list")) h
  | .rd _ => .ok (.bl (T == "list")) h
  | .ref n => (match h[n]? with
    | some (.lst _) => .ok (.bl (T == "list")) h
    | some (.dct _) => .ok (.bl false) h
    | some (.dtu _) => .ok (.bl false) h
    | _ => .bad)
  | .clo _ _ => .bad
/-- a built-in class that isinstance is asked of -/
structure IsT (T : String) : Prop where
  a : kitB "NoneType" T = some false
  b : kitB "bool" T = some (T == "bool" || T == "int")
  i : kitB "int" T = some (T == "int")
  s : kitB "str" T = some (T == "str")
  t : kitB "tuple" T = some (T == "tuple")
  l : kitB "list" T = some (T == "list")
  d : kitB "dict" T = some false
theorem ist_int : IsT "int" := ⟨by decide +kernel, by decide +kernel, by decide +kernel, by decide +kernel, by decide +kernel, by decide +kernel, by decide +kernel⟩
theorem ist_bool : IsT "bool" := ⟨by decide +kernel, by decide +kernel, by decide +kernel, by decide +kernel, by decide +kernel, by decide +kernel, by decide +kernel⟩
theorem ist_str : IsT "str" := ⟨by decide +kernel, by decide +kernel, by decide +kernel, by decide +kernel, by decide +kernel, by decide +kernel, by decide +kernel⟩
theorem ist_tuple : IsT "tuple" := ⟨by decide +kernel, by decide +kernel, by decide +kernel, by decide +kernel, by decide +kernel, by decide +kernel, by decide +kernel⟩
theorem ist_list : IsT "list" := ⟨by decide +kernel, by decide +kernel, by decide +kernel, by decide +kernel, by decide +kernel, by decide +kernel, by decide +kernel⟩
theorem AtT.ty {G : Wd} {a : Addr} {vs : List V} (h : AtT G a vs) : TyX G.K G.H (.ref a) (.type "tuple") := by
  rcases h with ⟨h, _⟩ | ⟨o, its, n, h1, h2, _⟩
  · exact .base (.tup h)
  · exact .kTuple h1 h2
theorem AtR.ty {G : Wd} {a : Addr} {vs : List V} (h : AtR G a vs) : TyX G.K G.H (.ref a) (.type "list") := by
  rcases h with ⟨h | ⟨o, h⟩, _⟩ | ⟨o, its, n, h1, h2, _⟩
  · exact .base (.lst h)
  · exact .base (.frz h)
  · exact .kList h1 h2
theorem rep_isTy {T : String} (it : IsT T) {G : Wd} {h : PH} {x : V} {d : D} {Q : VK} (k : G.Ok h) (r : BRep G d x) (p : Pst S G (isTy T d h) (fun d _ G' => ∀ v, Rep G' d v → Q v G'.H)) :
    ∃ t b, TyX G.K G.H x (.type t) ∧ kitB t T = some b ∧ Q (.bl b) G.H := by
  cases d with
  | non => exact ⟨_, _, by rw [r.non_inv]; exact .base .non, it.a, p G (.refl G) k _ .of_bl⟩
  | bl b => exact ⟨_, _, by rw [r.bl_inv]; exact .base (.bl b), it.b, p G (.refl G) k _ .of_bl⟩
  | int b => exact ⟨_, _, by rw [r.int_inv]; exact .base (.int b), it.i, p G (.refl G) k _ .of_bl⟩
  | str b => exact ⟨_, _, by rw [r.str_inv.1]; exact .base (.str b), it.s, p G (.refl G) k _ .of_bl⟩
  | tup b =>
    obtain ⟨a, vs, rfl, h1, _⟩ := r.tup_inv
    exact ⟨_, _, h1.ty, it.t, p G (.refl G) k _ .of_bl⟩
  | lst b =>
    rcases r with r | ⟨xs, a, vs, e, rfl, h1, h2, _⟩
    · obtain ⟨a, vs, rfl, h1, _⟩ := r.lst_inv
      exact ⟨_, _, .base (.lst h1.1), it.l, p G (.refl G) k _ .of_bl⟩
    · exact ⟨_, _, .base (.lst h2), it.l, p G (.refl G) k _ .of_bl⟩
  | rd b =>
    obtain ⟨a, rfl, h1⟩ := r.rd_inv
    exact ⟨_, _, h1.ty, it.l, p G (.refl G) k _ .of_bl⟩
  | ref n =>
    obtain ⟨a, h1, rfl⟩ := r.ref_inv
    obtain ⟨o, h2, h3⟩ := k.at h1
    unfold isTy at p
    simp only [h2] at p
    cases o with
    | lst xs =>
      obtain ⟨vs, q1, _⟩ := h3
      exact ⟨_, _, .base (.lst q1), it.l, p G (.refl G) k _ .of_bl⟩
    | dct xs =>
      obtain ⟨vs, q1, _⟩ := h3
      exact ⟨_, _, .base (.dK q1), it.d, p G (.refl G) k _ .of_bl⟩
    | dtu xs =>
      obtain ⟨vs, q1, _⟩ := h3
      exact ⟨_, _, .base (.dT q1), it.d, p G (.refl G) k _ .of_bl⟩
    | ins C fs => exact p.elim
  | clo _ _ => exact p.elim
theorem re_isi {x T : Str} {Tn : String} {e : Expr} {m : EM} {p p2 pos : Pos} (it : IsT Tn) (b : BiF S x "isinstance") (c : BiT S T Tn) (h : RB S O e m) (hst : ∀ env, starEach [e, .Name T p2] env = [(false, eval e env), (false, eval (.Name T p2) env)])
    (hs2 : ∀ env q, starEach [.Name T q] env = [(false, eval (.Name T q) env)]) : RE S O (.Call (.Name x p) [e, .Name T p2] [] pos) (g1 (isTy Tn) m) := by
  obtain ⟨t, h1, h2⟩ := h.ex
  refine ⟨tCB (rIsi S.K) (tCons t (tCons (tC (.ty Tn)) tNil)), fun X hX => ?_, fun B G h σ Γ Q w p => ?_⟩
  · refine pe_callB (by rw [← hX.K]; exact call_isi) (b.g.gl hX) (by rw [hX.mg]; exact b.m) b.v ?_ b.n1 b.n2 ?_ ?_
    · exact pa_cons (h1 X hX) (pa_cons (pe_bltn (c.g.gl hX) (by rw [hX.mg]; exact c.m) c.v (show RelV (.ty Tn) (.type Tn) from rfl) c.n1 c.n2) pa_nil (by rw [hs2] <;> rfl)) (by rw [hst, hs2])
    · rw [hst, hs2]
    · rw [hs2]
      rfl
  · unfold g1 at p
    refine h2 B G h σ Γ _ w (p.bnd.mono fun d h1 G1 t1 k1 p1 v r => ?_)
    obtain ⟨t, b, q1, q2, q3⟩ := rep_isTy it k1 r p1
    have w1 := w.to t1 k1
    rw [← w1.K]
    exact ⟨v, .ty Tn, .type t, .type Tn, b, rfl, .ty Tn, q1, kit_ty q2, q3⟩
/-! int(x), list(x), tuple(x), sum(x) -/
def dInt : D → M D
  | .int i => pur (.int i)
  | .bl b => pur (.int (if b then 1 else 0))
  | _ => bad
theorem t_int : T1 S "int" dInt := by
  refine ⟨_, fun X hX => call_int1, fun G h x d Q gK gc k r p => ?_⟩
  cases d with
  | int i => exact .inl ⟨i, by rw [r.int_inv], p G (.refl G) k _ .of_int⟩
  | bl i => exact .inr ⟨i, by rw [r.bl_inv], p G (.refl G) k _ .of_int⟩
  | _ => exact p.elim
def dList (d : D) : M (List D) := fun h => match seqD h d with
  | some xs => .ok xs h
  | none => .bad
def rListOf (K : PySem.W.Frag) : List V → Hp → VK → Prop := fun xs H Q => ∃ p ys, xs = [.ref p] ∧ (SqL K H p ys ∨ SqT K H p ys) ∧ ∀ l, H l = none → Q (.ref l) (upd H l (.lst ys))
theorem t_list : T1F S "list" dList := by
  refine ⟨rListOf S.K, fun X hX => by rw [← hX.K]; exact call_list_of, fun G h x d Q gK gc k r p => ?_⟩
  unfold dList at p
  cases e : seqD h d with
  | none =>
    rw [e] at p
    exact p.elim
  | some xs =>
    rw [e] at p
    obtain ⟨a, vs, rfl, h1, h2, h3⟩ := seq_at k r e
    rw [← gK]
    exact ⟨a, vs, rfl, h1, fun l hl => p G (.refl G) k l vs hl h2 h3⟩
def dTuple : D → M D
  | .tup xs => pur (.tup xs)
  | .lst xs => pur (.tup xs)
  | .ref n => fun h => (match h[n]? with
    | some (.lst xs) => .ok (.tup xs) h
    | _ => .bad)
  | _ => bad
def rTupOf (K : PySem.W.Frag) : List V → Hp → VK → Prop := fun xs H Q => ∃ p ys, xs = [.ref p] ∧ ((SqL K H p ys ∧ ∀ l, H l = none → Q (.ref l) (upd H l (.tup ys))) ∨ (SqT K H p ys ∧ Q (.ref p) H))
theorem t_tuple : T1 S "tuple" dTuple := by
  refine ⟨rTupOf S.K, fun X hX => by rw [← hX.K]; exact call_tuple_of, fun G h x d Q gK gc k r p => ?_⟩
  cases d with
  | tup xs =>
    obtain ⟨a, vs, rfl, h1, h2⟩ := r.tup_inv
    rw [← gK]
    refine ⟨a, vs, rfl, .inr ⟨h1.seq, p G (.refl G) k _ ?_⟩⟩
    unfold Rep
    exact ⟨a, vs, rfl, h1, h2⟩
  | lst xs =>
    obtain ⟨a, vs, rfl, h1, h2, h3⟩ := seqL_at k r (xs := xs) rfl
    exact ⟨a, vs, rfl, .inl ⟨SqL.of h1, Pst.layT p k h2 h3⟩⟩
  | ref n =>
    obtain ⟨a, h1, rfl⟩ := r.ref_inv
    obtain ⟨o, h2, h3⟩ := k.at h1
    have p : Pst S G (match h[n]? with
      | some (.lst xs) => .ok (.tup xs) h
      | _ => .bad : R D) (fun d _ G' => ∀ v, Rep G' d v → Q v G'.H) := p
    rw [h2] at p
    cases o with
    | lst xs =>
      obtain ⟨vs, q1, q2, q3⟩ := h3
      exact ⟨a, vs, rfl, .inl ⟨SqL.of q1, Pst.layT p k q2 q3⟩⟩
    | _ => exact p.elim
  | _ => exact p.elim
def intsD : List D → Option (List Int)
  | [] => some []
  | .int i :: r => (intsD r).map fun s => i :: s
  | _ :: _ => none
theorem intsD_v {G : Wd} : ∀ {xs : List D} {vs : List V} {ns : List Int}, Reps G xs vs → intsD xs = some ns → vs = ns.map V.int
  | [], vs, ns, r, e => by
    cases e
    rw [r.nil_inv]
    rfl
  | d :: xs, vs, ns, r, e => by
    obtain ⟨v, s, rfl, h1, h2⟩ := r.cons_inv
    cases d with
    | int i =>
      obtain ⟨ms, e1, e2⟩ := Option.map_eq_some_iff.mp (show (intsD xs).map (fun s => i :: s) = some ns from e)
      rw [← e2, intsD_v h2 e1, h1.int_inv]
      rfl
    | _ => cases e
def dSum (d : D) : M D := fun h => match lAdd.seqL h d with
  | some xs => (match intsD xs with
    | some ns => .ok (.int ns.sum) h
    | none => .bad)
  | none => .bad
theorem f_sum : F1 S "sum" dSum := by
  refine ⟨rSum S.K, fun X hX => by rw [← hX.K]; exact cr_sum hX.calm, fun G h x d Q gK gc k r p => ?_⟩
  unfold dSum at p
  cases e : lAdd.seqL h d with
  | none =>
    rw [e] at p
    exact p.elim
  | some xs =>
    rw [e] at p
    cases e2 : intsD xs with
    | none =>
      simp only [e2] at p
      exact p.elim
    | some ns =>
      simp only [e2] at p
      obtain ⟨a, vs, rfl, h1, h2, h3⟩ := seqL_at k r e
      rw [intsD_v h3 e2] at h1
      exact ⟨a, ns, rfl, SqL.of h1, p G (.refl G) k _ .of_int⟩

/-! ### the methods of lists -/
/-- a method of lists: what it gives back and what the list is then -/
structure LmS (S : Sx) (m : Str) (f : PH → List D → List D → Option (D × List D)) : Prop where
  ex : ∃ (id : String) (r : V → List V → Hp → VK → Prop), PlainAttrs "list" ∧ Slot "list" m id ∧ typeOf (.builtin id) = pure (.type "method_descriptor") ∧ (∀ X, InX S X → MtR X id r) ∧
    ∀ (G : Wd) (h : PH) (a : Addr) (vs us : List V) (xs ys zs : List D) (d : D) (Q : VK), G.K = S.K → G.Ok h → G.H a = some (.lst vs) → vs.length ≤ sizeLine → Reps G xs vs → Reps G ys us → f h xs ys = some (d, zs) →
      (∀ v ws, Rep G d v → Reps G zs ws → ws.length ≤ sizeLine → Q v (upd G.H a (.lst ws))) → r (.ref a) us G.H Q
end Sw

set_option maxHeartbeats 400000
/-! Sw, part H: list methods, statements, loops. -/
namespace Sw
open PySem PySem.Spec L2
variable {S : Sx} {O : List Nat}

def mApp (h : PH) (xs ys : List D) : Option (D × List D) := match ys with
  | [y] => if xs.length < 16777216 then some (.non, xs ++ [y]) else none
  | _ => none
theorem m_app : LmS S "append" mApp := by
  refine ⟨_, rAppend, PySem.F.plainAttrs_list, PySem.F.slot_list_append, PySem.F.type_list_append, fun X _ => mt_append, fun G h a vs us xs ys zs d Q gK k e hz r q f p => ?_⟩
  unfold mApp at f
  split at f
  · rename_i y
    split at f
    · rename_i hl
      cases f
      obtain ⟨u, rfl, hu⟩ := reps1 q
      have hl' : vs.length < sizeLine := by
        rw [r.len, sizeLine_eq]
        exact hl
      exact ⟨a, vs, u, rfl, rfl, e, hl', p _ _ .of_non (r.app (.one hu)) (by rw [List.length_append]; exact hl')⟩
    · cases f
  · cases f
def mExt (h : PH) (xs ys : List D) : Option (D × List D) := match ys with
  | [y] => (match lAdd.seqL h y with
    | some zs => if xs.length + zs.length ≤ 16777216 then some (.non, xs ++ zs) else none
    | none => none)
  | _ => none
theorem m_ext : LmS S "extend" mExt := by
  refine ⟨_, rExtend, PySem.F.plainAttrs_list, PySem.F.slot_list_extend, PySem.F.type_list_extend, fun X _ => mt_extend, fun G h a vs us xs ys zs d Q gK k e hz r q f p => ?_⟩
  unfold mExt at f
  split at f
  · rename_i y
    obtain ⟨u, rfl, hu⟩ := reps1 q
    cases e1 : lAdd.seqL h y with
    | none =>
      simp only [e1] at f
      cases f
    | some ws =>
      simp only [e1] at f
      split at f
      · rename_i hl
        cases f
        obtain ⟨b, ts, rfl, b1, b2, b3⟩ := seqL_at k (.inl hu) e1
        have hl' : vs.length + ts.length ≤ sizeLine := by
          rw [r.len, b3.len, sizeLine_eq]
          exact hl
        exact ⟨a, b, vs, ts, rfl, rfl, e, b1, hl', p _ _ .of_non (r.app b3) (by rw [List.length_append]; exact hl')⟩
      · cases f
  · cases f
def mPopAt (h : PH) (xs ys : List D) : Option (D × List D) := match ys with
  | [.int i] => if -(2 ^ 63) ≤ i ∧ i < 2 ^ 63 then (match seqIndex? i xs.length with
    | some k => (match xs[k]? with
      | some x => some (x, xs.eraseIdx k)
      | none => none)
    | none => none) else none
  | _ => none
theorem m_popAt : LmS S "pop" mPopAt := by
  refine ⟨_, rPopAt, PySem.F.plainAttrs_list, PySem.F.slot_list_pop, PySem.F.type_list_pop, fun X _ => mt_popAt, fun G h a vs us xs ys zs d Q gK k e hz r q f p => ?_⟩
  unfold mPopAt at f
  split at f
  · rename_i i
    split at f
    · rename_i hb
      cases e1 : seqIndex? i xs.length with
      | none =>
        simp only [e1] at f
        cases f
      | some j =>
        simp only [e1] at f
        cases e2 : xs[j]? with
        | none =>
          simp only [e2] at f
          cases f
        | some x =>
          simp only [e2] at f
          cases f
          obtain ⟨u, rfl, hu⟩ := reps1 q
          obtain ⟨v, v1, v2⟩ := r.get e2
          refine ⟨a, vs, i, j, v, rfl, by rw [hu.int_inv], e, hb.1, hb.2, by rw [r.len]; exact e1, v1, p _ _ v2 (r.erase j) ?_⟩
          have := len_erase vs j
          omega
    · cases f
  · cases f
def mRev (h : PH) (xs ys : List D) : Option (D × List D) := match ys with
  | [] => some (.non, xs.reverse)
  | _ => none
theorem m_rev : LmS S "reverse" mRev := by
  refine ⟨_, rReverse, PySem.F.plainAttrs_list, PySem.F.slot_list_reverse, PySem.F.type_list_reverse, fun X _ => mt_reverse, fun G h a vs us xs ys zs d Q gK k e hz r q f p => ?_⟩
  unfold mRev at f
  split at f
  · cases f
    rw [q.nil_inv]
    exact ⟨a, vs, rfl, rfl, e, p _ _ .of_non r.rev (by rw [List.length_reverse]; exact hz)⟩
  · cases f
/-- the first place of a number -/
def firstI (k : Int) : List Int → Option Nat
  | [] => none
  | n :: ns => if n = k then some 0 else (firstI k ns).map fun j => j + 1
theorem firstI_ok {k : Int} : ∀ {ns : List Int} {j : Nat}, firstI k ns = some j → ns[j]? = some k ∧ ∀ m : Nat, m < j → ns[m]? ≠ some k
  | [], _, e => by cases e
  | n :: ns, j, e => by
    unfold firstI at e
    split at e
    · rename_i q
      cases e
      exact ⟨by simp [q], fun m hm => absurd hm (Nat.not_lt_zero m)⟩
    · rename_i q
      obtain ⟨i, e1, rfl⟩ := Option.map_eq_some_iff.mp e
      obtain ⟨h1, h2⟩ := firstI_ok e1
      refine ⟨by simpa using h1, fun m hm => ?_⟩
      cases m with
      | zero => simpa using q
      | succ m => simpa using h2 m (by omega)
def mRem (h : PH) (xs ys : List D) : Option (D × List D) := match ys with
  | [.int i] => (match intsD xs with
    | some ns => (match firstI i ns with
      | some j => some (.non, xs.eraseIdx j)
      | none => none)
    | none => none)
  | _ => none
theorem m_rem : LmS S "remove" mRem := by
  refine ⟨_, rRemI, PySem.F.plainAttrs_list, PySem.F.slot_list_remove, PySem.F.type_list_remove, fun X _ => mt_remove, fun G h a vs us xs ys zs d Q gK k e hz r q f p => ?_⟩
  unfold mRem at f
  split at f
  · rename_i i
    cases e1 : intsD xs with
    | none =>
      simp only [e1] at f
      cases f
    | some ns =>
      simp only [e1] at f
      cases e2 : firstI i ns with
      | none =>
        simp only [e2] at f
        cases f
      | some j =>
        simp only [e2] at f
        cases f
        obtain ⟨u, rfl, hu⟩ := reps1 q
        obtain ⟨f1, f2⟩ := firstI_ok e2
        have ev := intsD_v r e1
        subst ev
        refine ⟨a, ns, i, j, rfl, by rw [hu.int_inv], e, f1, f2, ?_⟩
        rw [← erase_mapI]
        have := len_erase (ns.map V.int) j
        exact p _ _ .of_non (r.erase j) (by omega)
  · cases f
def isLstD (h : PH) : D → Bool
  | .ref n => (match h[n]? with
    | some (.lst _) => true
    | _ => false)
  | _ => false
/-- o.m(..) upon a list that is an object -/
def gLm (f : PH → List D → List D → Option (D × List D)) (o : EM) (ms : List EM) : EM := fun Γ => bnd (o Γ) fun d => fun h => if isLstD h d = true then bnd (seqA ms Γ) (fun ys => fun h => match d with
  | .ref n => (match h[n]? with
    | some (.lst xs) => (match f h xs ys with
      | some (x, zs) => .ok x (h.set n (.lst zs))
      | none => .bad)
    | _ => .bad)
  | _ => .bad) h else .bad
theorem se_lm {m : Str} {f : PH → List D → List D → Option (D × List D)} {r : V → List V → Hp → VK → Prop} {o : EM} {ms : List EM} {to : TE} {t : TA}
    (hr : ∀ (G : Wd) (h : PH) (a : Addr) (vs us : List V) (xs ys zs : List D) (d : D) (Q : VK), G.K = S.K → G.Ok h → G.H a = some (.lst vs) → vs.length ≤ sizeLine → Reps G xs vs → Reps G ys us → f h xs ys = some (d, zs) →
      (∀ v ws, Rep G d v → Reps G zs ws → ws.length ≤ sizeLine → Q v (upd G.H a (.lst ws))) → r (.ref a) us G.H Q)
    (ho : SE S O to o) (ha : SA S O t (seqA ms)) : SE S O (tBM S.K "list" r to t) (gLm f o ms) := by
  intro B G h σ Γ Q w p
  unfold gLm at p
  refine ho B G h σ Γ _ w (p.bnd.mono fun d h1 G1 t1 k1 p1 v rv => ?_)
  have w1 := w.to t1 k1
  cases d with
  | ref n =>
    obtain ⟨a, q1, rfl⟩ := rv.ref_inv
    obtain ⟨ob, q2, q3⟩ := k1.at q1
    by_cases hc : isLstD h1 (.ref n) = true
    · rw [if_pos hc] at p1
      have hc : (match h1[n]? with
        | some (.lst _) => true
        | _ => false) = true := hc
      rw [q2] at hc
      cases ob with
      | lst xs =>
        obtain ⟨vs, a1, a2, a3⟩ := q3
        refine ⟨.inl ⟨rfl, vs, SqL.of a1⟩, ?_⟩
        refine ha B G1 h1 σ Γ _ w1 (p1.bnd.mono fun ys h2 G2 t2 k2 p2 us rs => ?_)
        have e2 := pre_get t2.le.ρ q1
        obtain ⟨ob2, b2, b3⟩ := k2.at e2
        simp only [b2] at p2
        cases ob2 with
        | lst xs2 =>
          obtain ⟨vs2, c1, c2, c3⟩ := b3
          simp only at p2
          cases e3 : f h2 xs2 ys with
          | none =>
            simp only [e3] at p2
            exact p2.elim
          | some xz =>
            obtain ⟨x, zs⟩ := xz
            simp only [e3] at p2
            refine hr G2 h2 a vs2 us xs2 ys zs x Q (w1.to t2 k2).K k2 c1 c2 c3 rs e3 fun v ws rv rw_ hl => ?_
            have t3 := Wd.put_to k2 (o := .lst ws) e2
            exact p2 (G2.put a (.lst ws)) t3 (Wd.put_ok k2 e2 ⟨ws, upd_same, hl, Reps.le t3.le _ rw_⟩) v (rv.le t3.le)
        | _ => exact p2.elim
      | _ => cases hc
    · rw [if_neg hc] at p1
      exact p1.elim
  | _ =>
    rw [if_neg (by unfold isLstD; exact Bool.false_ne_true)] at p1
    exact p1.elim
theorem re_lm {m : Str} {f : PH → List D → List D → Option (D × List D)} {o e : Expr} {es : List Expr} {mo : EM} {ms : List EM} {apos cpos : Pos} (F : LmS S m f) (ho : RE S O o mo) (ha : RA S O (e :: es) ms)
    (hbase : ∀ env, attributeBase o m env (eval o env) = eval o env)
    (hfew : ∀ env, ((backTo cpos (starEach (e :: es) env)).all (fun x => !x.1) && (backToKw cpos (keywordEach [] env)).all (fun x => x.1.isSome)
      && decide ((e :: es).length + ([] : List Keyword).length + (if ([] : List Keyword).isEmpty then 0 else 1) < 30)) = true)
    (hline : (apos.endLine == cpos.line) = true) (hs : ∀ env, starEach (e :: es) env = (false, eval e env) :: starEach es env) (hplain : ∀ env, (backTo cpos (starEach es env)).any (·.1) = false) :
    RE S O (.Call (.Attribute o m apos) (e :: es) [] cpos) (gLm f mo ms) := by
  obtain ⟨id, r, p1, p2, p3, p4, p5⟩ := F.ex
  obtain ⟨to, o1, o2⟩ := ho.ex
  obtain ⟨t, a1, a2⟩ := ha.ex
  exact ⟨tBM S.K "list" r to t, fun X hX => by rw [← hX.K]; exact pe_bm p1 p2 p3 (p4 X hX) (o1 X hX) (a1 X hX) (hbase _) (hfew _) hline (hs _) (hplain _), se_lm (m := m) p5 o2 a2⟩
theorem re_lm0 {m : Str} {f : PH → List D → List D → Option (D × List D)} {o : Expr} {mo : EM} {apos cpos : Pos} (F : LmS S m f) (ho : RE S O o mo)
    (hbase : ∀ env, attributeBase o m env (eval o env) = eval o env) (hline : (apos.endLine == cpos.line) = true) : RE S O (.Call (.Attribute o m apos) [] [] cpos) (gLm f mo []) := by
  obtain ⟨id, r, p1, p2, p3, p4, p5⟩ := F.ex
  obtain ⟨to, o1, o2⟩ := ho.ex
  exact ⟨tBM S.K "list" r to tNil, fun X hX => by rw [← hX.K]; exact pe_bm0 p1 p2 p3 (p4 X hX) (o1 X hX) (hbase _) hline, se_lm (m := m) (ms := []) (t := tNil) p5 o2 (fun B G h σ Γ Q w p => (p.pur w.ok) [] .nil)⟩
end Sw

set_option maxHeartbeats 400000
/-! Sw, part I: statements. -/
namespace Sw
open PySem PySem.Spec L2
variable {S : Sx} {O : List Nat}

inductive Fl where
  | nx (Γ : Env)
  | rt (d : D)
abbrev SM := Env → M Fl

/-- a statement's step: what others hold is as it was -/
structure Wd.By (B : Addr → Prop) (G G' : Wd) : Prop where
  le : G.Le G'
  ow : ∀ a, B a → G'.H a = G.H a
theorem Wd.By.refl {B : Addr → Prop} (G : Wd) : G.By B G := ⟨.refl G, fun _ _ => rfl⟩
theorem Wd.By.trans {B : Addr → Prop} {G1 G2 G3 : Wd} (a : G1.By B G2) (b : G2.By B G3) : G1.By B G3 := ⟨a.le.trans b.le, fun c h => (b.ow c h).trans (a.ow c h)⟩
theorem Wd.To.by {B : Addr → Prop} {G G' : Wd} (t : G.To G') (b : ∀ a, B a → G.U a) : G.By B G' := ⟨t.le, fun a h => t.ow a (b a h)⟩

def PsS {α : Type} (S : Sx) (B : Addr → Prop) (G : Wd) (r : R α) (Z : α → PH → Wd → Prop) : Prop := match r with
  | .ok a h' => ∀ G', G.By B G' → G'.Ok h' → Z a h' G'
  | .ex c xs h' => S.T.xm = true ∧ ∀ G' dx, G.By B G' → G'.Ok h' → XR G' xs dx → S.E (.ref (S.cl c)) dx G'.H
  | .bad => False
section
variable {α β : Type} {B : Addr → Prop} {G G1 : Wd} {r : R α} {Z Z' : α → PH → Wd → Prop}
theorem PsS.step (t : G.By B G1) (p : PsS S B G r Z) : PsS S B G1 r Z := by
  cases r with
  | ok a h' => exact fun G' t' k => p G' (t.trans t') k
  | ex c xs h' => exact ⟨p.1, fun G' dx t' k x => p.2 G' dx (t.trans t') k x⟩
  | bad => exact p
theorem PsS.mono (p : PsS S B G r Z) (f : ∀ a h' G', G.By B G' → G'.Ok h' → Z a h' G' → Z' a h' G') : PsS S B G r Z' := by
  cases r with
  | ok a h' => exact fun G' t' k => f a h' G' t' k (p G' t' k)
  | ex c xs h' => exact p
  | bad => exact p
theorem PsS.bnd {m : M β} {f : β → M α} {h : PH} (p : PsS S B G (Sw.bnd m f h) Z) : PsS S B G (m h) (fun a h1 G1 => PsS S B G1 (f a h1) Z) := by
  unfold Sw.bnd at p
  cases e : m h with
  | ok a h1 =>
    rw [e] at p
    exact fun G1 t1 k1 => p.step t1
  | ex c xs h1 =>
    rw [e] at p
    exact p
  | bad =>
    rw [e] at p
    exact p
/-- an expression ahead -/
theorem PsS.ebnd {m : M β} {f : β → M α} {h : PH} (p : PsS S B G (Sw.bnd m f h) Z) (b : ∀ a, B a → G.U a) : Pst S G (m h) (fun a h1 G1 => PsS S B G1 (f a h1) Z) := by
  unfold Sw.bnd at p
  cases e : m h with
  | ok a h1 =>
    rw [e] at p
    exact fun G1 t1 k1 => p.step (t1.by b)
  | ex c xs h1 =>
    rw [e] at p
    exact ⟨p.1, fun G1 dx t1 k1 x => p.2 G1 dx (t1.by b) k1 x⟩
  | bad =>
    rw [e] at p
    exact p
theorem PsS.pur {a : α} {h : PH} (p : PsS S B G (Sw.pur a h) Z) (k : G.Ok h) : Z a h G := p G (.refl G) k
end

/-- what is wanted behind -/
def Zst (O : List Nat) (B : Addr → Prop) (E : Ends) : Fl → PH → Wd → Prop
  | .nx Γ', _, G' => ∀ σ', EnvOk O B G' σ' Γ' → E.nx σ' G'.H
  | .rt d, _, G' => ∀ v, (∀ a, B a → G'.U a) → Rep G' d v → E.rt v G'.H
def SSt (S : Sx) (O : List Nat) (t : TS) (m : SM) : Prop := ∀ (B : Addr → Prop) (G : Wd) (h : PH) (σ : St) (Γ : Env) (E : Ends), Here S O B G h σ Γ → PsS S B G (m Γ h) (Zst O B E) → t E σ G.H
structure RS (S : Sx) (O : List Nat) (st : Stmt) (m : SM) : Prop where
  ex : ∃ t, (∀ X, InX S X → PS X st t) ∧ SSt S O t m
structure RSs (S : Sx) (O : List Nat) (st : List Stmt) (m : SM) : Prop where
  ex : ∃ t, (∀ X, InX S X → PSs X st t) ∧ SSt S O t m
theorem Here.by {B : Addr → Prop} {G G' : Wd} {h h' : PH} {σ σ' : St} {Γ Γ' : Env} (w : Here S O B G h σ Γ) (t : G.By B G') (k : G'.Ok h') (e : EnvOk O B G' σ' Γ') : Here S O B G' h' σ' Γ' :=
  ⟨t.le.K.trans w.K, t.le.cl.trans w.cl, k, e⟩

def sNil : SM := fun Γ => pur (.nx Γ)
def sSeq (a b : SM) : SM := fun Γ => bnd (a Γ) fun f => match f with
  | .nx Γ' => b Γ'
  | .rt d => pur (.rt d)
theorem rss_nil : RSs S O [] sNil := ⟨tNext, fun X _ => pss_nil, fun B G h σ Γ E w p => p.pur w.ok σ w.env⟩
theorem rss_cons {st : Stmt} {rest : List Stmt} {a b : SM} (h1 : RS S O st a) (h2 : RSs S O rest b) : RSs S O (st :: rest) (sSeq a b) := by
  obtain ⟨t, t1, t2⟩ := h1.ex
  obtain ⟨u, u1, u2⟩ := h2.ex
  refine ⟨_, fun X hX => pss_cons (t1 X hX) (u1 X hX), fun B G h σ Γ E w p => ?_⟩
  unfold sSeq at p
  refine t2 B G h σ Γ _ w (p.bnd.mono fun f h1 G1 y1 k1 p1 => ?_)
  cases f with
  | nx Γ' => exact fun σ' e => u2 B G1 h1 σ' Γ' E (w.by y1 k1 e) p1
  | rt d => exact p1.pur k1
def sExpr (m : EM) : SM := fun Γ => bnd (m Γ) fun _ => pur (.nx Γ)
theorem rs_expr {e : Expr} {m : EM} {pos : Pos} (h : RE S O e m) (hs : ∀ env, swapsWith e none pos.line env = pure false) : RS S O (.Expr e pos) (sExpr m) := by
  obtain ⟨t, h1, h2⟩ := h.ex
  refine ⟨_, fun X hX => ps_expr (h1 X hX) (hs _), fun B G h σ Γ E w p => ?_⟩
  unfold sExpr at p
  refine h2 B G h σ Γ _ w ((p.ebnd w.env.bU).mono fun d h1 G1 t1 k1 p1 v r => ?_)
  exact p1.pur k1 σ (w.env.to t1)
def sRet (m : EM) : SM := fun Γ => bnd (m Γ) fun d => pur (.rt d)
theorem rs_ret {e : Expr} {m : EM} {pos : Pos} (h : RE S O e m) : RS S O (.Return (some e) pos) (sRet m) := by
  obtain ⟨t, h1, h2⟩ := h.ex
  refine ⟨_, fun X hX => ps_ret (h1 X hX), fun B G h σ Γ E w p => ?_⟩
  unfold sRet at p
  exact h2 B G h σ Γ _ w ((p.ebnd w.env.bU).mono fun d h1 G1 t1 k1 p1 v r => p1.pur k1 v (w.env.to t1).bU r)
def sRetN : SM := fun _ => pur (.rt .non)
theorem rs_retN {pos : Pos} : RS S O (.Return none pos) sRetN := ⟨_, fun X _ => ps_retN, fun B G h σ Γ E w p => p.pur w.ok _ w.env.bU .of_non⟩
/-- what is never come to -/
def sBad : SM := fun _ => bad
theorem rs_bad {st : Stmt} : RS S O st sBad := ⟨_, fun X _ => ps_never, fun B G h σ Γ E w p => p.elim⟩
def sIf (c : TM) (a b : SM) : SM := fun Γ => bnd (c Γ) fun k => if k = true then a Γ else b Γ
theorem rs_if {c : Expr} {a b : List Stmt} {mc : TM} {ma mb : SM} {pos : Pos} (hc : RT S O c mc) (ha : RSs S O a ma) (hb : RSs S O b mb) : RS S O (.If c a b pos) (sIf mc ma mb) := by
  obtain ⟨t, t1, t2⟩ := hc.ex
  obtain ⟨u, u1, u2⟩ := ha.ex
  obtain ⟨z, z1, z2⟩ := hb.ex
  refine ⟨_, fun X hX => ps_if (t1 X hX) (u1 X hX) (z1 X hX), fun B G h σ Γ E w p => ?_⟩
  unfold sIf at p
  refine t2 B G h σ Γ _ w ((p.ebnd w.env.bU).mono fun k h1 G1 y1 k1 p1 => ?_)
  cases k with
  | true =>
    simp only [if_true] at p1 ⊢
    exact u2 B G1 h1 σ Γ E (w.to y1 k1) p1
  | false =>
    simp only [Bool.false_eq_true, if_false] at p1 ⊢
    exact z2 B G1 h1 σ Γ E (w.to y1 k1) p1

/-! ### names that are stored -/
structure Lc (S : Sx) (i : Nat) (x : Str) : Prop where
  nd : S.N.Nodup
  n : S.N[i]? = some x
  l : Loc S.sc x
  f : S.fa x = true ∨ S.sc.names.lookup x = some .local
theorem Lc.fn {i : Nat} {x : Str} (l : Lc S i x) {X : Cx} (hX : InX S X) : X.fn x = true ∨ X.env.scope.names.lookup x = some .local := by
  rcases l.f with h | h
  · exact .inl (hX.fn x h)
  · exact .inr (by rw [hX.sc]; exact h)
theorem set_get {α : Type} {l : List α} {i j : Nat} {a b : α} (h : (l.set i a)[j]? = some b) : (j = i ∧ b = a) ∨ (j ≠ i ∧ l[j]? = some b) := by
  by_cases e : j = i
  · subst e
    have hj : j < l.length := by
      have := (List.getElem?_eq_some_iff.mp h).1
      simpa using this
    rw [List.getElem?_set_self hj] at h
    exact .inl ⟨rfl, (Option.some.inj h).symm⟩
  · rw [List.getElem?_set_ne (fun q => e q.symm)] at h
    exact .inr ⟨e, h⟩
theorem EnvOk.set {B : Addr → Prop} {G : Wd} {σ : St} {Γ : Env} (e : EnvOk O B G σ Γ) {i : Nat} (hi : i ∉ O) {d : D} {v : V} (r : Rep G d v) : EnvOk O B G (σ.set i (some v)) (Γ.set i (some d)) where
  len := by rw [List.length_set, List.length_set, e.len]
  val := fun j d' h1 h2 => by
    rcases set_get h1 with ⟨rfl, q⟩ | ⟨q1, q2⟩
    · cases q
      have hj : j < σ.length := by
        have := (List.getElem?_eq_some_iff.mp h1).1
        rw [List.length_set] at this
        rw [e.len]
        exact this
      exact ⟨v, by rw [List.getElem?_set_self hj], r⟩
    · obtain ⟨u, u1, u2⟩ := e.val j d' q2 h2
      exact ⟨u, by rw [List.getElem?_set_ne (fun q => q1 q.symm)]; exact u1, u2⟩
  own := fun j d' h1 h2 => by
    rcases set_get h1 with ⟨rfl, q⟩ | ⟨q1, q2⟩
    · exact absurd h2 hi
    · obtain ⟨xs, a, vs, u1, u2, u3⟩ := e.own j d' q2 h2
      exact ⟨xs, a, vs, u1, by rw [List.getElem?_set_ne (fun q => q1 q.symm)]; exact u2, u3⟩
  sep := fun j l d1 d2 a h1 h2 g1 g2 g3 g4 => by
    have nj : j ≠ i := fun q => hi (q ▸ h1)
    have nl : l ≠ i := fun q => hi (q ▸ h2)
    rw [List.getElem?_set_ne (fun q => nj q.symm)] at g1 g3
    rw [List.getElem?_set_ne (fun q => nl q.symm)] at g2 g4
    exact e.sep j l d1 d2 a h1 h2 g1 g2 g3 g4
  bU := e.bU
def sSet (i : Nat) (m : EM) : SM := fun Γ => bnd (m Γ) fun d => pur (.nx (Γ.set i (some d)))
theorem rs_set {i : Nat} {x : Str} {e : Expr} {m : EM} {pos pos' : Pos} (l : Lc S i x) (hi : i ∉ O) (h : RE S O e m) (hs : ∀ env : PySem.Env, env.scope = S.sc → swapsWith e (some (.Name x pos')) pos.line env = pure false) : RS S O (.Assign [.Name x pos'] e pos) (sSet i m) := by
  obtain ⟨t, h1, h2⟩ := h.ex
  refine ⟨_, fun X hX => ps_set (i := i) (by rw [hX.N]; exact l.nd) (by rw [hX.N]; exact l.n) (by rw [hX.sc]; exact l.l) (h1 X hX) (hs _ hX.sc) (l.fn hX), fun B G h σ Γ E w p => ?_⟩
  unfold sSet at p
  refine h2 B G h σ Γ _ w ((p.ebnd w.env.bU).mono fun d h1 G1 t1 k1 p1 v r => ?_)
  exact p1.pur k1 _ ((w.env.to t1).set hi r)
/-- a new list in a place of its own -/
theorem EnvOk.own_ {B : Addr → Prop} {G : Wd} {h : PH} {σ : St} {Γ : Env} (e : EnvOk O B G σ Γ) (k : G.Ok h) {i : Nat} (hi : i ∈ O) {xs : List D} {vs : List V} {p : Addr} (hp : G.H p = none) (hl : vs.length ≤ sizeLine) (r : Reps G xs vs) :
    EnvOk O B (G.layU p (.lst vs)) (σ.set i (some (.ref p))) (Γ.set i (some (.lst xs))) where
  len := by rw [List.length_set, List.length_set, e.len]
  val := fun j d' h1 h2 => by
    rcases set_get h1 with ⟨rfl, q⟩ | ⟨q1, q2⟩
    · exact absurd hi h2
    · obtain ⟨u, u1, u2⟩ := e.val j d' q2 h2
      exact ⟨u, by rw [List.getElem?_set_ne (fun q => q1 q.symm)]; exact u1, u2.le (Wd.layU_le hp)⟩
  own := fun j d' h1 h2 => by
    rcases set_get h1 with ⟨rfl, q⟩ | ⟨q1, q2⟩
    · cases q
      have hj : j < σ.length := by
        have := (List.getElem?_eq_some_iff.mp h1).1
        rw [List.length_set] at this
        rw [e.len]
        exact this
      exact ⟨xs, p, vs, rfl, by rw [List.getElem?_set_self hj], .inl rfl, fun b => k.notU hp (e.bU p b), upd_same, hl, Reps.le (Wd.layU_le hp) _ r⟩
    · obtain ⟨xs, a, vs, u1, u2, u3, u4, u5, u6, u7⟩ := e.own j d' q2 h2
      exact ⟨xs, a, vs, u1, by rw [List.getElem?_set_ne (fun q => q1 q.symm)]; exact u2, .inr u3, u4, (upd_ne (ne_of_none u5 hp)).trans u5, u6, Reps.le (Wd.layU_le hp) _ u7⟩
  sep := fun j l d1 d2 a h1 h2 g1 g2 g3 g4 => by
    have there : ∀ (j : Nat) d, (Γ.set i (some (D.lst xs)))[j]? = some (some d) → j ≠ i → j ∈ O → (σ.set i (some (.ref p)))[j]? = some (some (V.ref a)) → a ≠ p := fun j d q1 q2 q3 q4 => by
      rw [List.getElem?_set_ne (fun q => q2 q.symm)] at q1 q4
      obtain ⟨xs, b, vs, u1, u2, u3, u4, u5, _⟩ := e.own j d q1 q3
      rw [u2] at q4
      cases q4
      exact ne_of_none u5 hp
    have self : ∀ (j : Nat), j = i → (σ.set i (some (.ref p)))[j]? = some (some (V.ref a)) → a = p := fun j q q4 => by
      subst q
      rcases set_get q4 with ⟨_, q⟩ | ⟨q, _⟩
      · cases q
        rfl
      · exact absurd rfl q
    by_cases ej : j = i
    · by_cases el : l = i
      · rw [ej, el]
      · exact absurd (self j ej g3) (there l d2 g2 el h2 g4)
    · by_cases el : l = i
      · exact absurd (self l el g4) (there j d1 g1 ej h1 g3)
      · rw [List.getElem?_set_ne (fun q => ej q.symm)] at g1 g3
        rw [List.getElem?_set_ne (fun q => el q.symm)] at g2 g4
        exact e.sep j l d1 d2 a h1 h2 g1 g2 g3 g4
  bU := fun a b => .inr (e.bU a b)
theorem Wd.layU_by {B : Addr → Prop} {G : Wd} {h : PH} (k : G.Ok h) (b : ∀ a, B a → G.U a) {p : Addr} {o : HO} (hp : G.H p = none) : G.By B (G.layU p o) :=
  ⟨Wd.layU_le hp, fun a ha => upd_ne (k.neU hp (b a ha))⟩
def sOwn (i : Nat) (m : LM) : SM := fun Γ => bnd (m Γ) fun xs => pur (.nx (Γ.set i (some (.lst xs))))
theorem rs_own {i : Nat} {x : Str} {e : Expr} {m : LM} {pos pos' : Pos} (l : Lc S i x) (hi : i ∈ O) (h : RF S O e m) (hs : ∀ env : PySem.Env, env.scope = S.sc → swapsWith e (some (.Name x pos')) pos.line env = pure false) : RS S O (.Assign [.Name x pos'] e pos) (sOwn i m) := by
  obtain ⟨t, h1, h2⟩ := h.ex
  refine ⟨_, fun X hX => ps_set (i := i) (by rw [hX.N]; exact l.nd) (by rw [hX.N]; exact l.n) (by rw [hX.sc]; exact l.l) (h1 X hX) (hs _ hX.sc) (l.fn hX), fun B G h σ Γ E w p => ?_⟩
  unfold sOwn at p
  refine h2 B G h σ Γ _ w ((p.ebnd w.env.bU).mono fun d h1 G1 t1 k1 p1 a vs ha hl r => ?_)
  have w1 := w.to t1 k1
  exact p1 (G1.layU a (.lst vs)) (Wd.layU_by k1 w1.env.bU ha) (Wd.layU_ok k1 ha) _ (w1.env.own_ k1 hi ha hl r)
/-- an own list is changed by a method: x.append(..) -/
def sOwnM (f : PH → List D → List D → Option (D × List D)) (i : Nat) (ms : List EM) : SM := fun Γ => match Γ[i]? with
  | some (some (.lst xs)) => bnd (seqA ms Γ) fun ys => fun h => (match f h xs ys with
    | some (_, zs) => .ok (.nx (Γ.set i (some (.lst zs)))) h
    | none => .bad)
  | _ => bad
theorem EnvOk.putU {B : Addr → Prop} {G : Wd} {h : PH} {σ : St} {Γ : Env} (e : EnvOk O B G σ Γ) (k : G.Ok h) {i : Nat} (hi : i ∈ O) {d0 : D} (h0 : Γ[i]? = some (some d0)) {a : Addr} (h1 : σ[i]? = some (some (.ref a))) (u : G.U a) (nb : ¬ B a) {xs : List D} {vs : List V} (hl : vs.length ≤ sizeLine) (r : Reps G xs vs) :
    EnvOk O B (G.putU a (.lst vs)) σ (Γ.set i (some (.lst xs))) where
  len := by rw [List.length_set, e.len]
  val := fun j d' g1 g2 => by
    rcases set_get g1 with ⟨rfl, q⟩ | ⟨q1, q2⟩
    · exact absurd hi g2
    · obtain ⟨u, u1, u2⟩ := e.val j d' q2 g2
      exact ⟨u, u1, u2.le (Wd.putU_le ‹_›)⟩
  own := fun j d' g1 g2 => by
    rcases set_get g1 with ⟨rfl, q⟩ | ⟨q1, q2⟩
    · cases q
      exact ⟨xs, a, vs, rfl, h1, u, nb, upd_same, hl, Reps.le (Wd.putU_le u) _ r⟩
    · obtain ⟨ys, b, us, u1, u2, u3, u4, u5, u6, u7⟩ := e.own j d' q2 g2
      have hne : b ≠ a := fun q => q1 (e.sep j i d' d0 a g2 hi q2 h0 (q ▸ u2) h1)
      exact ⟨ys, b, us, u1, u2, u3, u4, (upd_ne hne).trans u5, u6, Reps.le (Wd.putU_le u) _ u7⟩
  sep := fun j l d1 d2 b q1 q2 g1 g2 g3 g4 => by
    have there : ∀ (j : Nat) d, (Γ.set i (some (D.lst xs)))[j]? = some (some d) → ∃ d', Γ[j]? = some (some d') := fun j d q => by
      rcases set_get q with ⟨rfl, _⟩ | ⟨_, q⟩
      · exact ⟨d0, h0⟩
      · exact ⟨d, q⟩
    obtain ⟨d3, f3⟩ := there j d1 g1
    obtain ⟨d4, f4⟩ := there l d2 g2
    exact e.sep j l d3 d4 b q1 q2 f3 f4 g3 g4
  bU := e.bU
theorem Wd.putU_by {B : Addr → Prop} {G : Wd} {p : Addr} {o : HO} (u : G.U p) (nb : ¬ B p) : G.By B (G.putU p o) :=
  ⟨Wd.putU_le u, fun a ha => upd_ne (fun q => nb (q ▸ ha))⟩
theorem rs_ownM {m x : Str} {i : Nat} {f : PH → List D → List D → Option (D × List D)} {e : Expr} {es : List Expr} {ms : List EM} {p0 apos cpos pos : Pos} (F : LmS S m f) (n : Nm S i x) (hi : i ∈ O) (ha : RA S O (e :: es) ms)
    (hbase : ∀ env, attributeBase (.Name x p0) m env (eval (.Name x p0) env) = eval (.Name x p0) env)
    (hfew : ∀ env, ((backTo cpos (starEach (e :: es) env)).all (fun x => !x.1) && (backToKw cpos (keywordEach [] env)).all (fun x => x.1.isSome)
      && decide ((e :: es).length + ([] : List Keyword).length + (if ([] : List Keyword).isEmpty then 0 else 1) < 30)) = true)
    (hline : (apos.endLine == cpos.line) = true) (hs : ∀ env, starEach (e :: es) env = (false, eval e env) :: starEach es env) (hplain : ∀ env, (backTo cpos (starEach es env)).any (·.1) = false)
    (hsw : ∀ env, swapsWith (.Call (.Attribute (.Name x p0) m apos) (e :: es) [] cpos) none pos.line env = pure false) :
    RS S O (.Expr (.Call (.Attribute (.Name x p0) m apos) (e :: es) [] cpos) pos) (sOwnM f i ms) := by
  obtain ⟨id, r, p1, p2, p3, p4, p5⟩ := F.ex
  obtain ⟨t, a1, a2⟩ := ha.ex
  refine ⟨tDrop (tBM S.K "list" r (tVar i) t), fun X hX => by rw [← hX.K]; exact ps_expr (pe_bm p1 p2 p3 (p4 X hX) (n.pe X hX) (a1 X hX) (hbase _) (hfew _) hline (hs _) (hplain _)) (hsw _), fun B G h σ Γ E w p => ?_⟩
  unfold sOwnM at p
  cases e0 : Γ[i]? with
  | none =>
    simp only [e0] at p
    exact p.elim
  | some o =>
    cases o with
    | none =>
      simp only [e0] at p
      exact p.elim
    | some d0 =>
      cases d0 with
      | lst xs =>
        simp only [e0] at p
        obtain ⟨xs', a, vs, q1, q2, q3, q4, q5, q6, q7⟩ := w.env.own i _ e0 hi
        cases q1
        refine ⟨_, q2, .inl ⟨rfl, vs, SqL.of q5⟩, ?_⟩
        refine a2 B G h σ Γ _ w ((p.ebnd w.env.bU).mono fun ys h1 G1 t1 k1 p1 us rs => ?_)
        have w1 := w.to t1 k1
        have r5 : G1.H a = some (.lst vs) := (t1.ow a q3).trans q5
        have u5 : G1.U a := by
          rw [t1.U]
          exact q3
        cases e3 : f h1 xs ys with
        | none =>
          simp only [e3] at p1
          exact p1.elim
        | some xz =>
          obtain ⟨x, zs⟩ := xz
          simp only [e3] at p1
          refine p5 G1 h1 a vs us xs ys zs x _ w1.K k1 r5 q6 (Reps.le t1.le _ q7) rs e3 fun v ws rv rw_ hl => ?_
          exact p1 (G1.putU a (.lst ws)) (Wd.putU_by u5 q4) (Wd.putU_ok k1 u5) σ (w1.env.putU k1 hi e0 q2 u5 q4 hl rw_)
      | _ =>
        simp only [e0] at p
        exact p.elim
/-! ### o.f = e, o[i] = e, several at once -/
def putFD (f : Str) (d : D) : List (Str × D) → List (Str × D)
  | [] => [(f, d)]
  | (g, x) :: r => if g = f then (g, d) :: r else (g, x) :: putFD f d r
theorem RepKV.putF_ {G : Wd} {f : Str} {d : D} {v : V} (q : Rep G d v) : ∀ {fs : List (Str × D)} {gs : List (Str × V)}, RepKV G fs gs → RepKV G (putFD f d fs) (putF f v gs)
  | [], gs, h => by
    rw [h.nil_inv]
    exact .cons q .nil
  | (g, x) :: r, gs, h => by
    obtain ⟨u, s, rfl, h1, h2⟩ := h.cons_inv
    show RepKV G (if g = f then (g, d) :: r else (g, x) :: putFD f d r) (if g = f then (g, v) :: s else (g, u) :: putF f v s)
    by_cases e : g = f
    · rw [if_pos e, if_pos e]
      exact .cons q h2
    · rw [if_neg e, if_neg e]
      exact .cons h1 (RepKV.putF_ q h2)
def putFld (C f : Str) (d : D) (o : D) : M Unit := fun h => match o with
  | .ref n => (match h[n]? with
    | some (.ins C' fs) => if C' = C ∧ fs.length < 1000 then .ok () (h.set n (.ins C (putFD f d fs))) else .bad
    | _ => .bad)
  | _ => .bad
theorem putFld_ok {α : Type} {C f : Str} {fs : List Str} (c : ClsOk S C fs) (hf : f ∈ fs) {B : Addr → Prop} {G : Wd} {h : PH} (gc : G.cl = S.cl) (k : G.Ok h) (bU : ∀ a, B a → G.U a) {d o : D} {v x : V} (rv : Rep G d v) (ro : Rep G o x) {K : Unit → M α} {Z : α → PH → Wd → Prop}
    (p : PsS S B G (bnd (putFld C f d o) K h) Z) : ∃ a dx gs h', x = .ref a ∧ G.H a = some (.ins (S.cl C) dx gs) ∧ gs.length < 1000 ∧ G.To (G.put a (.ins (S.cl C) dx (putF f v gs))) ∧ (G.put a (.ins (S.cl C) dx (putF f v gs))).Ok h' ∧
      PsS S B (G.put a (.ins (S.cl C) dx (putF f v gs))) (K () h') Z := by
  cases o with
  | ref n =>
    obtain ⟨a, q1, rfl⟩ := ro.ref_inv
    obtain ⟨ob, q2, q3⟩ := k.at q1
    unfold bnd putFld at p
    simp only [q2] at p
    cases ob with
    | ins C' gs =>
      simp only at p
      by_cases hc : C' = C ∧ gs.length < 1000
      · rw [if_pos hc] at p
        obtain ⟨hC, hl⟩ := hc
        subst hC
        obtain ⟨dx, gs', q4, q5⟩ := q3
        have t := Wd.put_to k (o := .ins (S.cl C') dx (putF f v gs')) q1
        refine ⟨a, dx, gs', _, rfl, by rw [← gc]; exact q4, by rw [q5.len]; exact hl, t, Wd.put_ok (ob := .ins C' (putFD f d gs)) k q1 ⟨dx, putF f v gs', ?_, (q5.putF_ rv).le t.le⟩, p.step (t.by bU)⟩
        show upd G.H a _ a = some (.ins (G.cl C') dx _)
        rw [gc]
        exact upd_same
      · rw [if_neg hc] at p
        exact p.elim
    | _ => exact p.elim
  | _ => exact p.elim
def sFld (C f : Str) (o e : EM) : SM := fun Γ => bnd (e Γ) fun d => bnd (o Γ) fun x => bnd (putFld C f d x) fun _ => pur (.nx Γ)
theorem rs_fld {C f : Str} {fs : List Str} {o value : Expr} {mo mv : EM} {pos' pos : Pos} (c : ClsOk S C fs) (hf : f ∈ fs) (ho : RE S O o mo) (hv : RE S O value mv) (hs : ∀ env, swapsWith value (some (.Attribute o f pos')) pos.line env = pure false) :
    RS S O (.Assign [.Attribute o f pos'] value pos) (sFld C f mo mv) := by
  obtain ⟨to, o1, o2⟩ := ho.ex
  obtain ⟨tv, v1, v2⟩ := hv.ex
  refine ⟨L2.sFld S.K to tv f, fun X hX => by rw [← hX.K]; exact ps_fld (o1 X hX) (v1 X hX) (hs _), fun B G h σ Γ E w p => ?_⟩
  unfold Sw.sFld at p
  refine v2 B G h σ Γ _ w ((p.ebnd w.env.bU).mono fun d h1 G1 t1 k1 p1 v rv => ?_)
  have w1 := w.to t1 k1
  refine o2 B G1 h1 σ Γ _ w1 ((p1.ebnd w1.env.bU).mono fun x h2 G2 t2 k2 p2 xv rx => ?_)
  have w2 := w1.to t2 k2
  obtain ⟨a, dx, gs, h', rfl, q1, q2, q3, q4, q5⟩ := putFld_ok c hf w2.cl k2 w2.env.bU (rv.le t2.le) rx p2
  exact ⟨a, S.cl C, dx, gs, rfl, q1, c.cl, c.no f hf, q2, q5.pur q4 σ (w2.env.to q3)⟩
/-- o[i] = d -/
def setIx (o i d : D) : M Unit := fun h => match o with
  | .ref n => (match h[n]? with
    | some (.lst xs) => (match i with
      | .int k => (match ixN xs.length k with
        | some j => .ok () (h.set n (.lst (xs.set j d)))
        | none => .bad)
      | _ => .bad)
    | some (.dct kvs) => (match keyD i with
      | some k => if kvs.length < 16777216 then .ok () (h.set n (.dct (putD_ kvs k d))) else .bad
      | none => .bad)
    | _ => .bad)
  | _ => .bad
def rSetA : TSet := fun o i v H Q => rSetL o i v H Q ∨ rSetD o i v H Q
theorem set_any {X : Cx} {k : Nat} (hr : Room k X.A) : PSet X rSetA := by
  intro pins s σ H o i v ov iv u Q I ro ri rv h
  rcases h with h | h
  · exact set_list pins s σ H o i v ov iv u Q I ro ri rv h
  · exact set_dict (hu_of hr) pins s σ H o i v ov iv u Q I ro ri rv h
theorem setIx_ok {α : Type} {B : Addr → Prop} {G : Wd} {h : PH} (k : G.Ok h) (bU : ∀ a, B a → G.U a) {d o i : D} {v x y : V} (rv : Rep G d v) (ro : Rep G o x) (ri : BRep G i y) {K : Unit → M α} {Z : α → PH → Wd → Prop} {Q : Hp → Prop}
    (p : PsS S B G (bnd (setIx o i d) K h) Z) (q : ∀ G' h', G.To G' → G'.Ok h' → PsS S B G' (K () h') Z → Q G'.H) : rSetA x y v G.H Q := by
  cases o with
  | ref n =>
    obtain ⟨a, q1, rfl⟩ := ro.ref_inv
    obtain ⟨ob, q2, q3⟩ := k.at q1
    unfold bnd setIx at p
    simp only [q2] at p
    cases ob with
    | lst xs =>
      obtain ⟨vs, a1, a2, a3⟩ := q3
      cases i with
      | int j =>
        simp only at p
        cases e : ixN xs.length j with
        | none =>
          simp only [e] at p
          exact p.elim
        | some l =>
          simp only [e] at p
          have t := Wd.put_to k (o := .lst (vs.set l v)) q1
          refine .inl ⟨a, vs, j, l, rfl, ri.int_inv, a1, by rw [a3.len]; exact e, ?_⟩
          exact q (G.put a (.lst (vs.set l v))) _ t (Wd.put_ok (ob := .lst (xs.set l d)) k q1 ⟨vs.set l v, upd_same, by rw [List.length_set]; exact a2, Reps.le t.le _ (a3.set l rv)⟩) (p.step (t.by bU))
      | _ => exact p.elim
    | dct kvs =>
      obtain ⟨kvs', a1, a2⟩ := q3
      simp only at p
      cases e : keyD i with
      | none =>
        simp only [e] at p
        exact p.elim
      | some key =>
        simp only [e] at p
        by_cases hl : kvs.length < 16777216
        · rw [if_pos hl] at p
          have t := Wd.put_to k (o := .dK (putK kvs' key v)) q1
          refine .inr ⟨a, _, rfl, ?_, q (G.put a (.dK (putK kvs' key v))) _ t (Wd.put_ok (ob := .dct (putD_ kvs key d)) k q1 ⟨_, upd_same, (a2.put rv).le t.le⟩) (p.step (t.by bU))⟩
          rw [keyD_v ri e]
          exact DPut.k a1 (by rw [a2.len, sizeLine_eq]; exact hl)
        · rw [if_neg hl] at p
          exact p.elim
    | _ => exact p.elim
  | _ => exact p.elim

/-! targets -/
abbrev GM := D → Env → M Env
def SG (S : Sx) (O : List Nat) (t : TG) (m : GM) : Prop := ∀ (B : Addr → Prop) (G : Wd) (h : PH) (σ : St) (Γ : Env) (v : V) (d : D) (Q : St → Hp → Prop), Here S O B G h σ Γ → Rep G d v →
  PsS S B G (m d Γ h) (fun Γ' _ G' => ∀ σ', EnvOk O B G' σ' Γ' → Q σ' G'.H) → t v σ G.H Q
structure RG (S : Sx) (O : List Nat) (tg : Expr) (m : GM) : Prop where
  ex : ∃ t, (∀ X, InX S X → PG X tg t) ∧ SG S O t m
def SGs (S : Sx) (O : List Nat) (t : TGs) (m : List D → Env → M Env) : Prop := ∀ (B : Addr → Prop) (G : Wd) (h : PH) (σ : St) (Γ : Env) (vs : List V) (ds : List D) (Q : St → Hp → Prop), Here S O B G h σ Γ → Reps G ds vs →
  PsS S B G (m ds Γ h) (fun Γ' _ G' => ∀ σ', EnvOk O B G' σ' Γ' → Q σ' G'.H) → t vs σ G.H Q
structure RGs (S : Sx) (O : List Nat) (tgs : List Expr) (m : List D → Env → M Env) : Prop where
  ex : ∃ t, (∀ X, InX S X → PGs X tgs t) ∧ SGs S O t m
def tgName (i : Nat) : GM := fun d Γ => pur (Γ.set i (some d))
theorem rg_name {i : Nat} {x : Str} {pos : Pos} (l : Lc S i x) (hi : i ∉ O) : RG S O (.Name x pos) (tgName i) :=
  ⟨gName i, fun X hX => pg_name (by rw [hX.N]; exact l.nd) (by rw [hX.N]; exact l.n) (by rw [hX.sc]; exact l.l) (l.fn hX), fun B G h σ Γ v d Q w r p => p.pur w.ok _ (w.env.set hi r)⟩
def tgNil : List D → Env → M Env := fun ds Γ => match ds with
  | [] => pur Γ
  | _ => bad
def tgCons (a : GM) (b : List D → Env → M Env) : List D → Env → M Env := fun ds Γ => match ds with
  | d :: r => bnd (a d Γ) fun Γ' => b r Γ'
  | [] => bad
theorem rgs_nil : RGs S O [] tgNil := by
  refine ⟨gNil, fun X _ => pgs_nil, fun B G h σ Γ vs ds Q w r p => ?_⟩
  cases ds with
  | nil => exact ⟨r.nil_inv, p.pur w.ok σ w.env⟩
  | cons d ds => exact p.elim
theorem rgs_cons {e : Expr} {es : List Expr} {a : GM} {b : List D → Env → M Env} (h1 : RG S O e a) (h2 : RGs S O es b) (hs : ∀ env, (assignEach (e :: es) env).map (·.2) = assign e env :: (assignEach es env).map (·.2)) : RGs S O (e :: es) (tgCons a b) := by
  obtain ⟨t, t1, t2⟩ := h1.ex
  obtain ⟨u, u1, u2⟩ := h2.ex
  refine ⟨_, fun X hX => pgs_cons (t1 X hX) (u1 X hX) (hs _), fun B G h σ Γ vs ds Q w r p => ?_⟩
  cases ds with
  | nil => exact p.elim
  | cons d ds =>
    obtain ⟨v, vr, rfl, r1, r2⟩ := r.cons_inv
    have p : PsS S B G (bnd (a d Γ) (fun Γ' => b ds Γ') h) _ := p
    refine ⟨v, vr, rfl, t2 B G h σ Γ v d _ w r1 (p.bnd.mono fun Γ1 h1 G1 y1 k1 p1 σ1 e1 => ?_)⟩
    exact u2 B G1 h1 σ1 Γ1 vr ds Q (w.by y1 k1 e1) (Reps.le y1.le _ r2) p1
def tgTup (n : Nat) (b : List D → Env → M Env) : GM := fun d Γ h => match seqD h d with
  | some xs => if xs.length = n then b xs Γ h else .bad
  | none => .bad
def gTupA (K : PySem.W.Frag) (n : Nat) (t : TGs) : TG := fun v σ H Q => L2.gTup K n t v σ H Q ∨ gUnl K n t v σ H Q
theorem rg_tup {es : List Expr} {k : Nat} {b : List D → Env → M Env} {pos : Pos} {n : Nat} (h : RGs S O es b) (hn : ∀ env, (assignEach es env).length = n) (hst : ∀ env, (assignEach es env).findIdx? (·.1) = none) : RG S O (.Tuple es k pos) (tgTup n b) := by
  obtain ⟨t, t1, t2⟩ := h.ex
  refine ⟨gTupA S.K n t, fun X hX => ⟨fun pins s σ H v u Q I r hw => ?_⟩, fun B G h σ Γ v d Q w r p => ?_⟩
  · rcases hw with hw | hw
    · exact (pg_tup hX.calm (t1 X hX) (hn _) (hst _)).run pins s σ H v u Q I r (by rw [hX.K]; exact hw)
    · exact (pg_unl hX.calm (t1 X hX) (hn _) (hst _)).run pins s σ H v u Q I r (by rw [hX.K]; exact hw)
  · unfold tgTup at p
    cases e : seqD h d with
    | none =>
      simp only [e] at p
      exact p.elim
    | some xs =>
      simp only [e] at p
      by_cases hl : xs.length = n
      · rw [if_pos hl] at p
        obtain ⟨a, vs, rfl, q1, q2, q3⟩ := seq_at w.ok (.inl r) e
        have fin := t2 B G h σ Γ vs xs Q w q3 p
        rw [← w.K]
        rcases q1 with q1 | q1
        · exact .inr ⟨a, vs, rfl, q1, q3.len.trans hl, fin⟩
        · exact .inl ⟨a, vs, rfl, q1, q3.len.trans hl, fin⟩
      · rw [if_neg hl] at p
        exact p.elim
def tgSub (o i : EM) : GM := fun d Γ => bnd (o Γ) fun x => bnd (i Γ) fun y => bnd (setIx x y d) fun _ => pur Γ
theorem rg_sub {o i : Expr} {mo mi : EM} {pos : Pos} (ho : RE S O o mo) (hi : RE S O i mi) (ha : ∀ env v, assign (.Subscript o i pos) env v = (do
      let ov ← holding [v] (eval o env)
      let iv ← holding [v, ov] (eval i env)
      standAt pos
      holding [v, ov, iv] (setItem ov iv v)
      release [v, ov, iv] [])) : RG S O (.Subscript o i pos) (tgSub mo mi) := by
  obtain ⟨to, o1, o2⟩ := ho.ex
  obtain ⟨ti, i1, i2⟩ := hi.ex
  refine ⟨_, fun X hX => pg_sub (o1 X hX) (i1 X hX) (set_any hX.room) (ha _), fun B G h σ Γ v d Q w r p => ?_⟩
  unfold tgSub at p
  refine o2 B G h σ Γ _ w ((p.ebnd w.env.bU).mono fun x h1 G1 t1 k1 p1 xv rx => ?_)
  have w1 := w.to t1 k1
  refine i2 B G1 h1 σ Γ _ w1 ((p1.ebnd w1.env.bU).mono fun y h2 G2 t2 k2 p2 yv ry => ?_)
  have w2 := w1.to t2 k2
  exact setIx_ok k2 w2.env.bU ((r.le t1.le).le t2.le) (rx.le t2.le) (.inl ry) p2 fun G' h' t k p3 => p3.pur k σ (w2.env.to t)
/-- o.f as a target -/
theorem pg_fld {X : Cx} {o : Expr} {f : Str} {pos : Pos} {to : TE} (ho : PE X o to) : PG X (.Attribute o f pos) (fun v σ H Q => to σ H fun x H1 => ∃ a C dx fs, x = .ref a ∧ H1 a = some (.ins C dx fs) ∧ Cls X.K C ∧ NoAttr X.K C f ∧ fs.length < 1000 ∧ Q σ (upd H1 a (.ins C dx (putF f v fs)))) := by
  refine ⟨fun pins s σ H v u Q I r h => ?_⟩
  rw [assign_Attribute]
  refine wpAny_bind (wpAny_holding (thn (ho.run pins s σ H _ I h) fun ov s1 ⟨x, H1, I1, r1, a, C, dx, fs, ex, ea, c, n, l, q⟩ => ?_))
  subst ex
  obtain rfl : ov = Value.ref a := r1
  refine wpAny_bind (wpAny_standAt (wpAny_bind (wpAny_holding (setattr_ok I1 ea c n l r fun s3 I3 => ?_))))
  exact wpAny_release ⟨σ, _, I3, q⟩
def tgFld (C f : Str) (o : EM) : GM := fun d Γ => bnd (o Γ) fun x => bnd (putFld C f d x) fun _ => pur Γ
theorem rg_fld {C f : Str} {fs : List Str} {o : Expr} {mo : EM} {pos : Pos} (c : ClsOk S C fs) (hf : f ∈ fs) (ho : RE S O o mo) : RG S O (.Attribute o f pos) (tgFld C f mo) := by
  obtain ⟨to, o1, o2⟩ := ho.ex
  refine ⟨fun v σ H Q => to σ H fun x H1 => ∃ a C dx fs, x = .ref a ∧ H1 a = some (.ins C dx fs) ∧ Cls S.K C ∧ NoAttr S.K C f ∧ fs.length < 1000 ∧ Q σ (upd H1 a (.ins C dx (putF f v fs))), fun X hX => by rw [← hX.K]; exact pg_fld (o1 X hX), fun B G h σ Γ v d Q w r p => ?_⟩
  unfold tgFld at p
  refine o2 B G h σ Γ _ w ((p.ebnd w.env.bU).mono fun x h1 G1 t1 k1 p1 xv rx => ?_)
  have w1 := w.to t1 k1
  obtain ⟨a, dx, gs, h', rfl, q1, q2, q3, q4, q5⟩ := putFld_ok c hf w1.cl k1 w1.env.bU (r.le t1.le) rx p1
  exact ⟨a, S.cl C, dx, gs, rfl, q1, c.cl, c.no f hf, q2, q5.pur q4 σ (w1.env.to q3)⟩
def sAsg (e : EM) (g : GM) : SM := fun Γ => bnd (e Γ) fun d => bnd (g d Γ) fun Γ' => pur (.nx Γ')
theorem rs_asg {tg e : Expr} {me : EM} {mg : GM} {pos : Pos} (he : RE S O e me) (hg : RG S O tg mg) (hs : ∀ env, swapsWithSole [tg] e pos.line env = pure false) (hw : ∀ env, swappedStores [tg] e env = pure none)
    (h1 : ∀ env, (assignEach [tg] env).map (·.2) = [assign tg env]) : RS S O (.Assign [tg] e pos) (sAsg me mg) := by
  obtain ⟨te, e1, e2⟩ := he.ex
  obtain ⟨tt, g1, g2⟩ := hg.ex
  refine ⟨_, fun X hX => ps_asg (e1 X hX) (g1 X hX) (hs _) (hw _) (h1 _), fun B G h σ Γ E w p => ?_⟩
  unfold sAsg at p
  refine e2 B G h σ Γ _ w ((p.ebnd w.env.bU).mono fun d h1 G1 t1 k1 p1 v rv => ?_)
  refine g2 B G1 h1 σ Γ v d _ (w.to t1 k1) rv (p1.bnd.mono fun Γ' h2 G2 y2 k2 p2 σ' e' => p2.pur k2 σ' e')
end Sw

set_option maxHeartbeats 400000
/-! Sw, part J: loops, comprehensions, defs. -/
namespace Sw
open PySem PySem.Spec L2
variable {S : Sx} {O : List Nat}

/-- a walk of the things xs, from G on -/
structure IsIt (G : Wd) (xs : List D) (J : It) : Prop where
  go : ∀ (G' : Wd) (i : Nat), G.Le G' → i < xs.length → J.go i G'.H
  stop : ∀ (G' : Wd) (i : Nat), G.Le G' → xs.length ≤ i → J.stop i G'.H
  yld : ∀ (G' : Wd) (h' : PH) (i : Nat) x H' d, G.Le G' → G'.Ok h' → xs[i]? = some d → J.yld i G'.H x H' → ∃ G'' : Wd, G''.H = H' ∧ G'.To G'' ∧ G''.Ok h' ∧ Rep G'' d x
inductive Itm where
  | vals (xs : List D)
  | ref (n : Nat)
def ItOk (G : Wd) : Itm → It → Prop
  | .vals xs, J => IsIt G xs J ∧ xs.length ≤ 16777216
  | .ref n, J => ∃ a, G.ρ[n]? = some a ∧ J = Itl G.K a
def SI (S : Sx) (O : List Nat) (wi : TI) (m : Env → M Itm) : Prop := ∀ (B : Addr → Prop) (G : Wd) (h : PH) (σ : St) (Γ : Env) (R : It → Hp → Prop), Here S O B G h σ Γ → Pst S G (m Γ h) (fun it _ G' => ∀ J, ItOk G' it J → R J G'.H) → wi σ G.H R
structure RI (S : Sx) (O : List Nat) (tg iter : Expr) (m : Env → M Itm) : Prop where
  ex : ∃ wi, (∀ X, InX S X → PI X tg iter wi) ∧ SI S O wi m
theorem isIt_list {G : Wd} {a : Addr} {xs : List D} {vs : List V} (h : AtL G a vs) (r : Reps G xs vs) : IsIt G xs (Itl G.K a) where
  go := fun G' i l hi => by
    have hv : i < vs.length := by
      rw [r.len]
      exact hi
    exact ⟨vs, vs[i], by rw [← l.K]; exact (h.le l).seq, List.getElem?_eq_getElem hv⟩
  stop := fun G' i l hi => ⟨vs, by rw [← l.K]; exact (h.le l).seq, by rw [r.len]; exact hi⟩
  yld := fun G' h' i x H' d l k hd y => by
    obtain ⟨rfl, q⟩ := y
    have e := q vs (by rw [← l.K]; exact (h.le l).seq)
    obtain ⟨v, e1, e2⟩ := r.get hd
    rw [e] at e1
    cases e1
    exact ⟨G', rfl, .refl G', k, e2.le l⟩
theorem isIt_tup {G : Wd} {a : Addr} {xs : List D} {vs : List V} (h : AtT G a vs) (r : Reps G xs vs) : IsIt G xs (Itt G.K a) where
  go := fun G' i l hi => by
    have hv : i < vs.length := by
      rw [r.len]
      exact hi
    exact ⟨vs, vs[i], by rw [← l.K]; exact (h.le l).seq, List.getElem?_eq_getElem hv⟩
  stop := fun G' i l hi => ⟨vs, by rw [← l.K]; exact (h.le l).seq, by rw [r.len]; exact hi⟩
  yld := fun G' h' i x H' d l k hd y => by
    obtain ⟨rfl, q⟩ := y
    have e := q vs (by rw [← l.K]; exact (h.le l).seq)
    obtain ⟨v, e1, e2⟩ := r.get hd
    rw [e] at e1
    cases e1
    exact ⟨G', rfl, .refl G', k, e2.le l⟩
theorem isIt_rd {G : Wd} {a : Addr} {ns : List Int} (h : AtR G a (ns.map V.int)) : IsIt G (ns.map D.int) (Itl G.K a) where
  go := fun G' i l hi => by
    have hv : i < (ns.map V.int).length := by
      rw [List.length_map] at hi ⊢
      exact hi
    exact ⟨_, (ns.map V.int)[i], by rw [← l.K]; exact (h.le l).seq, List.getElem?_eq_getElem hv⟩
  stop := fun G' i l hi => ⟨_, by rw [← l.K]; exact (h.le l).seq, by rw [List.length_map] at hi ⊢; exact hi⟩
  yld := fun G' h' i x H' d l k hd y => by
    obtain ⟨rfl, q⟩ := y
    have e := q _ (by rw [← l.K]; exact (h.le l).seq)
    obtain ⟨v, e1, e2⟩ := (Reps.ints (G := G) ns).get hd
    rw [e] at e1
    cases e1
    exact ⟨G', rfl, .refl G', k, e2.le l⟩
def rngD (lo : Int) (n : Nat) : List D := (List.range n).map fun (i : Nat) => D.int (lo + (i : Int))
theorem isIt_rng {G : Wd} {lo : Int} {n : Nat} : IsIt G (rngD lo n) (Itr lo n) where
  go := fun G' i l hi => by
    unfold rngD at hi
    rw [List.length_map, List.length_range] at hi
    exact hi
  stop := fun G' i l hi => by
    unfold rngD at hi
    rw [List.length_map, List.length_range] at hi
    exact hi
  yld := fun G' h' i x H' d l k hd y => by
    obtain ⟨rfl, rfl⟩ := y
    unfold rngD at hd
    rw [List.getElem?_map] at hd
    obtain ⟨j, e1, rfl⟩ := Option.map_eq_some_iff.mp hd
    have : j = i := by
      have := List.getElem?_range (n := n) (i := i)
      obtain ⟨hi, e2⟩ := List.getElem?_eq_some_iff.mp e1
      simpa using e2.symm
    subst this
    exact ⟨G', rfl, .refl G', k, .of_int⟩

/-! what is walked -/
def itD (d : D) : M Itm := fun h => match d with
  | .lst xs => if xs.length ≤ 16777216 then .ok (.vals xs) h else .bad
  | .tup xs => if xs.length ≤ 16777216 then .ok (.vals xs) h else .bad
  | .rd ns => .ok (.vals (ns.map D.int)) h
  | .ref n => (match h[n]? with
    | some (.lst _) => .ok (.ref n) h
    | _ => .bad)
  | _ => .bad
def gIt (m : EM) : Env → M Itm := fun Γ => bnd (m Γ) itD
def iSeq (K : PySem.W.Frag) (tl : TE) : TI := fun σ H R => iList K tl σ H R ∨ iTup K tl σ H R
theorem itD_ok {G : Wd} {h : PH} (k : G.Ok h) {d : D} {v : V} (r : Rep G d v) {Z : Itm → PH → Wd → Prop} (p : Pst S G (itD d h) Z) :
    ∃ it, Z it h G ∧ ((∃ a vs, v = .ref a ∧ SqL G.K G.H a vs ∧ ItOk G it (Itl G.K a) ∧ ∀ xs, d ≠ .tup xs) ∨ ∃ a vs, v = .ref a ∧ SqT G.K G.H a vs ∧ ItOk G it (Itt G.K a) ∧ ∃ xs, d = .tup xs) := by
  cases d with
  | lst xs =>
    have p : Pst S G (if xs.length ≤ 16777216 then .ok (.vals xs) h else .bad : R Itm) Z := p
    by_cases hl : xs.length ≤ 16777216
    · rw [if_pos hl] at p
      obtain ⟨a, vs, rfl, h1, h2⟩ := r.lst_inv
      exact ⟨_, p G (.refl G) k, .inl ⟨a, vs, rfl, h1.seq, ⟨isIt_list h1 h2, hl⟩, fun _ z => by cases z⟩⟩
    · rw [if_neg hl] at p
      exact p.elim
  | tup xs =>
    have p : Pst S G (if xs.length ≤ 16777216 then .ok (.vals xs) h else .bad : R Itm) Z := p
    by_cases hl : xs.length ≤ 16777216
    · rw [if_pos hl] at p
      obtain ⟨a, vs, rfl, h1, h2⟩ := r.tup_inv
      exact ⟨_, p G (.refl G) k, .inr ⟨a, vs, rfl, h1.seq, ⟨isIt_tup h1 h2, hl⟩, xs, rfl⟩⟩
    · rw [if_neg hl] at p
      exact p.elim
  | rd ns =>
    obtain ⟨a, rfl, h1⟩ := r.rd_inv
    refine ⟨_, p G (.refl G) k, .inl ⟨a, _, rfl, h1.seq, ⟨isIt_rd h1, ?_⟩, fun _ z => by cases z⟩⟩
    have := h1.len
    rw [List.length_map] at this ⊢
    rw [sizeLine_eq] at this
    exact this
  | ref n =>
    obtain ⟨a, h1, rfl⟩ := r.ref_inv
    obtain ⟨o, h2, h3⟩ := k.at h1
    unfold itD at p
    simp only [h2] at p
    cases o with
    | lst xs =>
      obtain ⟨vs, q1, q2, q3⟩ := h3
      exact ⟨_, p G (.refl G) k, .inl ⟨a, vs, rfl, SqL.of q1, ⟨a, h1, rfl⟩, fun _ z => by cases z⟩⟩
    | _ => exact p.elim
  | _ => exact p.elim
theorem Pst.eq {α : Type} {S : Sx} {G : Wd} {r : R α} {Z : α → PH → Wd → Prop} (p : Pst S G r Z) : Pst S G r (fun a h' G' => r = .ok a h' ∧ Z a h' G') := by
  cases r with
  | ok a h' => exact fun G' t k => ⟨rfl, p G' t k⟩
  | ex c xs h' => exact p
  | bad => exact p
theorem ri_seq {tg e : Expr} {m : EM} (he : RE S O e m) : RI S O tg e (gIt m) := by
  obtain ⟨t, h1, h2⟩ := he.ex
  refine ⟨iSeq S.K t, fun X hX => ⟨fun pins s σ H R I hw => ?_⟩, fun B G h σ Γ R w p => ?_⟩
  · rcases hw with hw | hw
    · exact (pi_list (h1 X hX)).run pins s σ H R I (by rw [hX.K]; exact hw)
    · exact (pi_tup (h1 X hX)).run pins s σ H R I (by rw [hX.K]; exact hw)
  · unfold gIt at p
    by_cases ht : ∃ xs h', m Γ h = .ok (.tup xs) h'
    · right
      refine h2 B G h σ Γ _ w (p.bnd.eq.mono fun d h1 G1 t1 k1 ⟨pe, p1⟩ v r => ?_)
      obtain ⟨xs, h', e⟩ := ht
      rw [e] at pe
      cases pe
      obtain ⟨it, z, h⟩ := itD_ok k1 r p1
      rcases h with ⟨a, vs, _, _, _, h⟩ | ⟨a, vs, rfl, q1, q2, _⟩
      · exact absurd rfl (h xs)
      · rw [← (w.to t1 k1).K]
        exact ⟨a, rfl, ⟨vs, q1⟩, z _ q2⟩
    · left
      refine h2 B G h σ Γ _ w (p.bnd.eq.mono fun d h1 G1 t1 k1 ⟨pe, p1⟩ v r => ?_)
      obtain ⟨it, z, h⟩ := itD_ok k1 r p1
      rcases h with ⟨a, vs, rfl, q1, q2, _⟩ | ⟨a, vs, rfl, q1, q2, xs, rfl⟩
      · rw [← (w.to t1 k1).K]
        exact ⟨a, rfl, ⟨vs, q1⟩, z _ q2⟩
      · exact absurd ⟨xs, h1, pe⟩ ht
/-- a list just made is walked: a display, a sum, a comprehension -/
def lIt (m : LM) : Env → M Itm := fun Γ => bnd (m Γ) fun xs => fun h => if xs.length ≤ 16777216 then .ok (.vals xs) h else .bad
theorem ri_new {tg e : Expr} {m : LM} (he : RF S O e m) : RI S O tg e (lIt m) := by
  obtain ⟨t, h1, h2⟩ := he.ex
  refine ⟨iList S.K t, fun X hX => by rw [← hX.K]; exact pi_list (h1 X hX), fun B G h σ Γ R w p => ?_⟩
  unfold lIt at p
  refine h2 B G h σ Γ _ w (p.bnd.mono fun xs h1 G1 t1 k1 p1 a vs ha hl r => ?_)
  by_cases hx : xs.length ≤ 16777216
  · rw [if_pos hx] at p1
    have k2 := Wd.lay_ok k1 (o := .lst vs) ha
    have t2 := Wd.lay_to k1 (o := .lst vs) ha
    have r2 := rep_layL k1 ha hl r
    refine ⟨a, rfl, ⟨vs, SqL.of upd_same⟩, ?_⟩
    obtain ⟨b, us, e, q1, q2⟩ := r2.lst_inv
    cases e
    have z := p1 (G1.lay a (.lst vs)) t2 k2 _ ⟨isIt_list q1 q2, hx⟩
    rw [← (w.to t1 k1).K]
    exact z
  · rw [if_neg hx] at p1
    exact p1.elim
def rg1 (a : EM) : Env → M Itm := fun Γ => bnd (a Γ) fun d h => match d with
  | .int j => if -4611686018427387904 ≤ j ∧ j ≤ 16777216 then .ok (.vals (rngD 0 j.toNat)) h else .bad
  | _ => .bad
def rg2 (a b : EM) : Env → M Itm := fun Γ => bnd (a Γ) fun d => bnd (b Γ) fun e => fun h => match d, e with
  | .int i, .int j => if -4611686018427387904 ≤ i ∧ i < 4611686018427387904 ∧ -4611686018427387904 ≤ j ∧ j < 4611686018427387904 ∧ j - i ≤ 16777216 then .ok (.vals (rngD i (j - i).toNat)) h else .bad
  | _, _ => .bad
theorem ri_rg1 {tg a : Expr} {m : EM} {p pos : Pos} (g : Gb S "range") (mg : S.mg "range" = none) (he : RE S O a m) (hs : ∀ env, starEach [a] env = [(false, eval a env)]) : RI S O tg (.Call (.Name "range" p) [a] [] pos) (rg1 m) := by
  obtain ⟨t, h1, h2⟩ := he.ex
  refine ⟨iRng1 (tCons t tNil), fun X hX => pi_range1 (g.gl hX) (by rw [hX.mg]; exact mg) (pa_cons (h1 X hX) pa_nil (by rw [hs] <;> rfl)) (hs _), fun B G h σ Γ R w p => ?_⟩
  unfold rg1 at p
  refine h2 B G h σ Γ _ w (p.bnd.mono fun d h1 G1 t1 k1 p1 v r => ?_)
  cases d with
  | int j =>
    have p1 : Pst S G1 (if -4611686018427387904 ≤ j ∧ j ≤ 16777216 then .ok (.vals (rngD 0 j.toNat)) h1 else .bad : Sw.R Itm) _ := p1
    by_cases hj : -4611686018427387904 ≤ j ∧ j ≤ 16777216
    · rw [if_pos hj] at p1
      refine ⟨j, by rw [r.int_inv], by omega, by omega, p1 G1 (.refl G1) k1 _ ⟨isIt_rng, ?_⟩⟩
      unfold rngD
      rw [List.length_map, List.length_range]
      omega
    · rw [if_neg hj] at p1
      exact p1.elim
  | _ => exact p1.elim
theorem ri_rg2 {tg a b : Expr} {m m' : EM} {p pos : Pos} (g : Gb S "range") (mg : S.mg "range" = none) (he : RE S O a m) (hf : RE S O b m') (hs : ∀ env, starEach [a, b] env = [(false, eval a env), (false, eval b env)]) (hs2 : ∀ env, starEach [b] env = [(false, eval b env)]) :
    RI S O tg (.Call (.Name "range" p) [a, b] [] pos) (rg2 m m') := by
  obtain ⟨t, h1, h2⟩ := he.ex
  obtain ⟨u, u1, u2⟩ := hf.ex
  refine ⟨iRng2 (tCons t (tCons u tNil)), fun X hX => pi_range2 (g.gl hX) (by rw [hX.mg]; exact mg) (pa_cons (h1 X hX) (pa_cons (u1 X hX) pa_nil (by rw [hs2] <;> rfl)) (by rw [hs, hs2])) (hs _) (hs2 _), fun B G h σ Γ R w p => ?_⟩
  unfold rg2 at p
  refine h2 B G h σ Γ _ w (p.bnd.mono fun d h1 G1 t1 k1 p1 v r => ?_)
  refine u2 B G1 h1 σ Γ _ (w.to t1 k1) (p1.bnd.mono fun e h2 G2 t2 k2 p2 v' r' => ?_)
  cases d with
  | int i =>
    cases e with
    | int j =>
      have p2 : Pst S G2 (if -4611686018427387904 ≤ i ∧ i < 4611686018427387904 ∧ -4611686018427387904 ≤ j ∧ j < 4611686018427387904 ∧ j - i ≤ 16777216 then .ok (.vals (rngD i (j - i).toNat)) h2 else .bad : Sw.R Itm) _ := p2
      by_cases hj : -4611686018427387904 ≤ i ∧ i < 4611686018427387904 ∧ -4611686018427387904 ≤ j ∧ j < 4611686018427387904 ∧ j - i ≤ 16777216
      · rw [if_pos hj] at p2
        refine ⟨i, j, by rw [r.int_inv, r'.int_inv], by omega, p2 G2 (.refl G2) k2 _ ⟨isIt_rng, ?_⟩⟩
        unfold rngD
        rw [List.length_map, List.length_range]
        omega
      · rw [if_neg hj] at p2
        exact p2.elim
    | _ => exact p2.elim
  | _ => exact p2.elim

/-! ### for -/
def loopV (b : D → Env → M Fl) : List D → Env → M Fl
  | [], Γ => pur (.nx Γ)
  | x :: xs, Γ => bnd (b x Γ) fun f => match f with
    | .nx Γ' => loopV b xs Γ'
    | .rt d => pur (.rt d)
/-- over a list that is an object, as it stands at each turn -/
def loopR (b : D → Env → M Fl) (n : Nat) : Nat → Nat → Env → M Fl
  | fuel, i, Γ => fun h => match h[n]? with
    | some (.lst xs) => (match xs[i]? with
      | none => .ok (.nx Γ) h
      | some x => (match fuel with
        | 0 => .bad
        | fuel + 1 => bnd (b x Γ) (fun f => match f with
          | .nx Γ' => loopR b n fuel (i + 1) Γ'
          | .rt d => pur (.rt d)) h))
    | _ => .bad
def sFor (it : Env → M Itm) (tg : GM) (body : SM) : SM := fun Γ => bnd (it Γ) fun I => match I with
  | .vals xs => loopV (fun x Γ => bnd (tg x Γ) body) xs Γ
  | .ref n => fun h => (match h[n]? with
    | some (.lst xs) => loopR (fun x Γ => bnd (tg x Γ) body) n xs.length 0 Γ h
    | _ => .bad)
section
variable {wi : TI} {g : TG} {tb : TS} {tg : GM} {body : SM}
/-- one turn -/
theorem turn_ok (hg : SG S O g tg) (hb : SSt S O tb body) {B : Addr → Prop} {G : Wd} {h : PH} {σ : St} {Γ : Env} {E : Ends} {N : St → Hp → Prop} {d : D} {x : V} {k : Env → M Fl} (w : Here S O B G h σ Γ) (r : Rep G d x)
    (p : PsS S B G (bnd (bnd (tg d Γ) body) (fun f => match f with
      | .nx Γ' => k Γ'
      | .rt d => pur (.rt d)) h) (Zst O B E))
    (next : ∀ σ' Γ' G' h', G.By B G' → Here S O B G' h' σ' Γ' → PsS S B G' (k Γ' h') (Zst O B E) → N σ' G'.H) : g x σ G.H fun σ2 H2 => tb { E with nx := N, ct := N, bk := E.nx } σ2 H2 := by
  refine hg B G h σ Γ x d _ w r (p.bnd.bnd.mono fun Γ1 h1 G1 y1 k1 p1 σ1 e1 => ?_)
  have w1 := w.by y1 k1 e1
  refine hb B G1 h1 σ1 Γ1 _ w1 (p1.mono fun f h2 G2 y2 k2 p2 => ?_)
  cases f with
  | nx Γ2 => exact fun σ2 e2 => next σ2 Γ2 G2 h2 (y1.trans y2) (w1.by y2 k2 e2) p2
  | rt d => exact p2.pur k2
theorem ss_for {m : Env → M Itm} (hi : SI S O wi m) (hg : SG S O g tg) (hb : SSt S O tb body) : SSt S O (tFor wi g tb) (sFor m tg body) := by
  intro B G h σ Γ E w p
  unfold sFor at p
  refine hi B G h σ Γ _ w ((p.ebnd w.env.bU).mono fun it h1 G1 t1 k1 p1 J ij => ?_)
  have w1 := w.to t1 k1
  cases it with
  | vals xs =>
    obtain ⟨ij, _⟩ := ij
    refine ⟨fun i m σ H => ∃ G2 h2 Γ2, G2.H = H ∧ G1.Le G2 ∧ Here S O B G2 h2 σ Γ2 ∧ i ≤ xs.length ∧ m = xs.length - i ∧ PsS S B G2 (loopV (fun x Γ => bnd (tg x Γ) body) (xs.drop i) Γ2 h2) (Zst O B E), ⟨xs.length, G1, h1, Γ, rfl, .refl G1, w1, Nat.zero_le _, by simp, by simpa using p1⟩, ?_⟩
    rintro i m σ2 H2 ⟨G2, h2, Γ2, rfl, l2, w2, hi, rfl, p2⟩
    by_cases hlt : i < xs.length
    · right
      refine ⟨ij.go G2 i l2 hlt, fun σ' H' => ∃ G3 h3 Γ3, G3.H = H' ∧ G1.Le G3 ∧ Here S O B G3 h3 σ' Γ3 ∧ PsS S B G3 (loopV (fun x Γ => bnd (tg x Γ) body) (xs.drop (i + 1)) Γ3 h3) (Zst O B E), ?_, ?_⟩
      · rintro σ' H' ⟨G3, h3, Γ3, e3, l3, w3, p3⟩
        exact ⟨xs.length - (i + 1), by omega, G3, h3, Γ3, e3, l3, w3, hlt, rfl, p3⟩
      · intro x H' y
        have hd : xs[i]? = some xs[i] := List.getElem?_eq_getElem hlt
        obtain ⟨G3, e3, t3, k3, r3⟩ := ij.yld G2 h2 i x H' xs[i] l2 w2.ok hd y
        subst e3
        have w3 := w2.to t3 k3
        rw [List.drop_eq_getElem_cons hlt] at p2
        refine turn_ok hg hb (k := loopV (fun x Γ => bnd (tg x Γ) body) (xs.drop (i + 1))) w3 r3 (p2.step (t3.by w2.env.bU)) fun σ' Γ' G' h' y' w' p' => ?_
        exact ⟨G', h', Γ', rfl, (l2.trans t3.le).trans y'.le, w', p'⟩
    · left
      have e : i = xs.length := by omega
      subst e
      rw [List.drop_length] at p2
      exact ⟨ij.stop G2 _ l2 (Nat.le_refl _), (p2.pur w2.ok : Zst O B E (.nx Γ2) h2 G2) σ2 w2.env⟩
  | ref n =>
    obtain ⟨a, ha, rfl⟩ := ij
    obtain ⟨ob, q2, q3⟩ := k1.at ha
    simp only [q2] at p1
    cases ob with
    | lst xs0 =>
      simp only at p1
      refine ⟨fun i m σ H => ∃ G2 h2 Γ2, G2.H = H ∧ G1.Le G2 ∧ Here S O B G2 h2 σ Γ2 ∧ PsS S B G2 (loopR (fun x Γ => bnd (tg x Γ) body) n m i Γ2 h2) (Zst O B E), ⟨xs0.length, G1, h1, Γ, rfl, .refl G1, w1, p1⟩, ?_⟩
      rintro i m σ2 H2 ⟨G2, h2, Γ2, rfl, l2, w2, p2⟩
      have ha2 := pre_get l2.ρ ha
      obtain ⟨ob2, b2, b3⟩ := w2.ok.at ha2
      unfold loopR at p2
      simp only [b2] at p2
      cases ob2 with
      | lst xs =>
        obtain ⟨vs, c1, c2, c3⟩ := b3
        simp only at p2
        cases e : xs[i]? with
        | none =>
          simp only [e] at p2
          left
          refine ⟨⟨vs, by rw [← l2.K]; exact SqL.of c1, ?_⟩, p2 G2 (.refl G2) w2.ok σ2 w2.env⟩
          rw [c3.len]
          exact List.getElem?_eq_none_iff.mp e
        | some d =>
          simp only [e] at p2
          cases m with
          | zero => exact p2.elim
          | succ m =>
            simp only at p2
            right
            obtain ⟨v, v1, v2⟩ := c3.get e
            refine ⟨⟨vs, v, by rw [← l2.K]; exact SqL.of c1, v1⟩, fun σ' H' => ∃ G3 h3 Γ3, G3.H = H' ∧ G1.Le G3 ∧ Here S O B G3 h3 σ' Γ3 ∧ PsS S B G3 (loopR (fun x Γ => bnd (tg x Γ) body) n m (i + 1) Γ3 h3) (Zst O B E), ?_, ?_⟩
            · rintro σ' H' ⟨G3, h3, Γ3, e3, l3, w3, p3⟩
              exact ⟨m, Nat.lt_succ_self m, G3, h3, Γ3, e3, l3, w3, p3⟩
            · rintro x H' ⟨rfl, y⟩
              have ey := y vs (by rw [← l2.K]; exact SqL.of c1)
              rw [v1] at ey
              cases ey
              exact turn_ok hg hb (k := loopR (fun x Γ => bnd (tg x Γ) body) n m (i + 1)) w2 v2 p2 fun σ' Γ' G' h' y' w' p' => ⟨G', h', Γ', rfl, l2.trans y'.le, w', p'⟩
      | _ => exact p2.elim
    | _ => exact p1.elim
end
theorem rs_for {tge iter : Expr} {b : List Stmt} {m : Env → M Itm} {tg : GM} {body : SM} {pos : Pos} (hi : RI S O tge iter m) (hg : RG S O tge tg) (hb : RSs S O b body) (hs : ∀ env x, foldedSetIterable iter env x = pure x) : RS S O (.For tge iter b [] pos) (sFor m tg body) := by
  obtain ⟨wi, i1, i2⟩ := hi.ex
  obtain ⟨g, g1, g2⟩ := hg.ex
  obtain ⟨tb, b1, b2⟩ := hb.ex
  exact ⟨_, fun X hX => ps_for hX.own hX.calm (i1 X hX) (g1 X hX) (b1 X hX) (hs _), ss_for i2 g2 b2⟩

/-! ### while -/
def loopW (c : TM) (body : SM) : Nat → Env → M Fl
  | fuel, Γ => bnd (c Γ) fun k => if k = true then (match fuel with
    | 0 => bad
    | fuel + 1 => bnd (body Γ) fun f => match f with
      | .nx Γ' => loopW c body fuel Γ'
      | .rt d => pur (.rt d)) else pur (.nx Γ)
def sWhile (fuel : Nat) (c : TM) (body : SM) : SM := loopW c body fuel
theorem rs_while {c : Expr} {b : List Stmt} {mc : TM} {body : SM} {pos : Pos} (fuel : Nat) (hc : RT S O c mc) (hb : RSs S O b body) : RS S O (.While c b [] pos) (sWhile fuel mc body) := by
  obtain ⟨tc, c1, c2⟩ := hc.ex
  obtain ⟨tb, b1, b2⟩ := hb.ex
  refine ⟨_, fun X hX => ps_while hX.own (c1 X hX) (b1 X hX), fun B G h σ Γ E w p => ?_⟩
  refine ⟨fun m σ H => ∃ G2 h2 Γ2, G2.H = H ∧ Here S O B G2 h2 σ Γ2 ∧ PsS S B G2 (loopW mc body m Γ2 h2) (Zst O B E), ⟨fuel, G, h, Γ, rfl, w, p⟩, ?_⟩
  rintro m σ2 H2 ⟨G2, h2, Γ2, rfl, w2, p2⟩
  unfold loopW at p2
  refine c2 B G2 h2 σ2 Γ2 _ w2 ((p2.ebnd w2.env.bU).mono fun k h3 G3 t3 k3 p3 => ?_)
  have w3 := w2.to t3 k3
  cases k with
  | true =>
    simp only [if_true] at p3 ⊢
    cases m with
    | zero => exact p3.elim
    | succ m =>
      simp only at p3
      refine ⟨fun σ' H' => ∃ G4 h4 Γ4, G4.H = H' ∧ Here S O B G4 h4 σ' Γ4 ∧ PsS S B G4 (loopW mc body m Γ4 h4) (Zst O B E), ?_, ?_⟩
      · rintro σ' H' ⟨G4, h4, Γ4, e4, w4, p4⟩
        exact ⟨m, Nat.lt_succ_self m, G4, h4, Γ4, e4, w4, p4⟩
      · refine b2 B G3 h3 σ2 Γ2 _ w3 (p3.bnd.mono fun f h4 G4 y4 k4 p4 => ?_)
        cases f with
        | nx Γ4 => exact fun σ4 e4 => ⟨G4, h4, Γ4, rfl, w3.by y4 k4 e4, p4⟩
        | rt d => exact p4.pur k4
  | false =>
    simp only [Bool.false_eq_true, if_false] at p3 ⊢
    exact (p3.pur k3 : Zst O B E (.nx Γ2) h3 G3) σ2 w3.env
end Sw

set_option maxHeartbeats 400000
/-! Sw, part K: comprehensions, defs. -/
namespace Sw
open PySem PySem.Spec L2
variable {S : Sx} {O : List Nat}

theorem wipe_set {i : Nat} {o : Option V} : ∀ {vs : List Nat} {σ : St}, i ∈ vs → wipe (σ.set i o) vs = wipe σ vs := by
  intro vs
  induction vs with
  | nil => intro σ h; cases h
  | cons v r ih =>
    intro σ h
    show (wipe (σ.set i o) r).set v none = (wipe σ r).set v none
    by_cases e : i ∈ r
    · rw [ih e]
    · have hv : i = v := by
        rcases List.mem_cons.mp h with h | h
        · exact h
        · exact absurd h e
      subst hv
      have key : ∀ (r : List Nat) (σ : St), i ∉ r → wipe (σ.set i o) r = (wipe σ r).set i o := by
        intro r
        induction r with
        | nil => intro σ _; rfl
        | cons w s ih2 =>
          intro σ hn
          show (wipe (σ.set i o) s).set w none = ((wipe σ s).set w none).set i o
          rw [ih2 σ (fun q => hn (List.mem_cons_of_mem _ q))]
          rw [List.set_comm _ _ (show w ≠ i from fun q => hn (by rw [q]; exact List.mem_cons_self))]
      rw [key r σ e, List.set_set]
def wipeE (Γ : Env) : List Nat → Env
  | [] => Γ
  | v :: vs => (wipeE Γ vs).set v none
theorem EnvOk.unset {B : Addr → Prop} {G : Wd} {σ : St} {Γ : Env} (e : EnvOk O B G σ Γ) (i : Nat) : EnvOk O B G (σ.set i none) (Γ.set i none) where
  len := by rw [List.length_set, List.length_set, e.len]
  val := fun j d h1 h2 => by
    rcases set_get h1 with ⟨rfl, q⟩ | ⟨q1, q2⟩
    · cases q
    · obtain ⟨u, u1, u2⟩ := e.val j d q2 h2
      exact ⟨u, by rw [List.getElem?_set_ne (fun q => q1 q.symm)]; exact u1, u2⟩
  own := fun j d h1 h2 => by
    rcases set_get h1 with ⟨rfl, q⟩ | ⟨q1, q2⟩
    · cases q
    · obtain ⟨xs, a, vs, u1, u2, u3⟩ := e.own j d q2 h2
      exact ⟨xs, a, vs, u1, by rw [List.getElem?_set_ne (fun q => q1 q.symm)]; exact u2, u3⟩
  sep := fun j l d1 d2 a h1 h2 g1 g2 g3 g4 => by
    rcases set_get g1 with ⟨rfl, q⟩ | ⟨q1, q2⟩
    · cases q
    rcases set_get g2 with ⟨rfl, q⟩ | ⟨q3, q4⟩
    · cases q
    rw [List.getElem?_set_ne (fun q => q1 q.symm)] at g3
    rw [List.getElem?_set_ne (fun q => q3 q.symm)] at g4
    exact e.sep j l d1 d2 a h1 h2 q2 q4 g3 g4
  bU := e.bU
theorem EnvOk.wipe {B : Addr → Prop} {G : Wd} {σ : St} {Γ : Env} (e : EnvOk O B G σ Γ) : ∀ vs : List Nat, EnvOk O B G (L2.wipe σ vs) (wipeE Γ vs)
  | [] => e
  | v :: vs => (EnvOk.wipe e vs).unset v
/-! targets of a comprehension: its own names -/
def SCt (S : Sx) (O vs : List Nat) (t : TG) (m : GM) : Prop := ∀ (B : Addr → Prop) (G : Wd) (h : PH) (σ : St) (Γ : Env) (v : V) (d : D) (Q : St → Hp → Prop), Here S O B G h σ Γ → Rep G d v →
  Pst S G (m d Γ h) (fun Γ' _ G' => ∀ σ', EnvOk O B G' σ' Γ' → wipe σ' vs = wipe σ vs → Q σ' G'.H) → t v σ G.H Q
structure RC (S : Sx) (O vs : List Nat) (tg : Expr) (m : GM) : Prop where
  ex : ∃ t, (∀ X, InX S X → PG X tg t) ∧ SCt S O vs t m
def SCts (S : Sx) (O vs : List Nat) (t : TGs) (m : List D → Env → M Env) : Prop := ∀ (B : Addr → Prop) (G : Wd) (h : PH) (σ : St) (Γ : Env) (us : List V) (ds : List D) (Q : St → Hp → Prop), Here S O B G h σ Γ → Reps G ds us →
  Pst S G (m ds Γ h) (fun Γ' _ G' => ∀ σ', EnvOk O B G' σ' Γ' → wipe σ' vs = wipe σ vs → Q σ' G'.H) → t us σ G.H Q
structure RCs (S : Sx) (O vs : List Nat) (tgs : List Expr) (m : List D → Env → M Env) : Prop where
  ex : ∃ t, (∀ X, InX S X → PGs X tgs t) ∧ SCts S O vs t m
theorem rc_name {vs : List Nat} {i : Nat} {x : Str} {pos : Pos} (l : Lc S i x) (hi : i ∉ O) (hv : i ∈ vs) : RC S O vs (.Name x pos) (tgName i) :=
  ⟨gName i, fun X hX => pg_name (by rw [hX.N]; exact l.nd) (by rw [hX.N]; exact l.n) (by rw [hX.sc]; exact l.l) (l.fn hX), fun B G h σ Γ v d Q w r p => p.pur w.ok _ (w.env.set hi r) (wipe_set hv)⟩
theorem rcs_nil {vs : List Nat} : RCs S O vs [] tgNil := by
  refine ⟨gNil, fun X _ => pgs_nil, fun B G h σ Γ us ds Q w r p => ?_⟩
  cases ds with
  | nil => exact ⟨r.nil_inv, p.pur w.ok σ w.env rfl⟩
  | cons d ds => exact p.elim
theorem rcs_cons {vs : List Nat} {e : Expr} {es : List Expr} {a : GM} {b : List D → Env → M Env} (h1 : RC S O vs e a) (h2 : RCs S O vs es b) (hs : ∀ env, (assignEach (e :: es) env).map (·.2) = assign e env :: (assignEach es env).map (·.2)) : RCs S O vs (e :: es) (tgCons a b) := by
  obtain ⟨t, t1, t2⟩ := h1.ex
  obtain ⟨u, u1, u2⟩ := h2.ex
  refine ⟨_, fun X hX => pgs_cons (t1 X hX) (u1 X hX) (hs _), fun B G h σ Γ us ds Q w r p => ?_⟩
  cases ds with
  | nil => exact p.elim
  | cons d ds =>
    obtain ⟨v, vr, rfl, r1, r2⟩ := r.cons_inv
    have p : Pst S G (bnd (a d Γ) (fun Γ' => b ds Γ') h) _ := p
    refine ⟨v, vr, rfl, t2 B G h σ Γ v d _ w r1 (p.bnd.mono fun Γ1 h1 G1 y1 k1 p1 σ1 e1 q1 => ?_)⟩
    exact u2 B G1 h1 σ1 Γ1 vr ds Q ⟨y1.le.K.trans w.K, y1.le.cl.trans w.cl, k1, e1⟩ (Reps.le y1.le _ r2) (p1.mono fun Γ2 h2 G2 y2 k2 p2 σ2 e2 q2 => p2 σ2 e2 (q2.trans q1))
theorem rc_tup {vs : List Nat} {es : List Expr} {k : Nat} {b : List D → Env → M Env} {pos : Pos} {n : Nat} (h : RCs S O vs es b) (hn : ∀ env, (assignEach es env).length = n) (hst : ∀ env, (assignEach es env).findIdx? (·.1) = none) : RC S O vs (.Tuple es k pos) (tgTup n b) := by
  obtain ⟨t, t1, t2⟩ := h.ex
  refine ⟨gTupA S.K n t, fun X hX => ⟨fun pins s σ H v u Q I r hw => ?_⟩, fun B G h σ Γ v d Q w r p => ?_⟩
  · rcases hw with hw | hw
    · exact (pg_tup hX.calm (t1 X hX) (hn _) (hst _)).run pins s σ H v u Q I r (by rw [hX.K]; exact hw)
    · exact (pg_unl hX.calm (t1 X hX) (hn _) (hst _)).run pins s σ H v u Q I r (by rw [hX.K]; exact hw)
  · unfold tgTup at p
    cases e : seqD h d with
    | none =>
      simp only [e] at p
      exact p.elim
    | some xs =>
      simp only [e] at p
      by_cases hl : xs.length = n
      · rw [if_pos hl] at p
        obtain ⟨a, us, rfl, q1, q2, q3⟩ := seq_at w.ok (.inl r) e
        have fin := t2 B G h σ Γ us xs Q w q3 p
        rw [← w.K]
        rcases q1 with q1 | q1
        · exact .inr ⟨a, us, rfl, q1, q3.len.trans hl, fin⟩
        · exact .inl ⟨a, us, rfl, q1, q3.len.trans hl, fin⟩
      · rw [if_neg hl] at p
        exact p.elim

/-! the tests of a comprehension -/
structure RTs (S : Sx) (O : List Nat) (ifs : List Expr) (m : TM) : Prop where
  ex : ∃ t, (∀ X, InX S X → PTs X ifs t) ∧ ST S O t m
def tTrue : TM := fun _ => pur true
theorem rts_nil : RTs S O [] tTrue := ⟨tYes, fun X _ => pts_nil, fun B G h σ Γ Q w p => p.pur w.ok⟩
theorem rts_one {c : Expr} {m : TM} (h : RT S O c m) : RTs S O [c] m := by
  obtain ⟨t, h1, h2⟩ := h.ex
  exact ⟨t, fun X hX => pts_one (h1 X hX), h2⟩

/-- nothing is raised -/
def noX {α : Type} (m : M α) : M α := fun h => match m h with
  | .ok a h' => .ok a h'
  | _ => .bad
theorem noX_ok {α : Type} {m : M α} {h h' : PH} {a : α} (e : m h = .ok a h') : noX m h = .ok a h' := by
  unfold noX
  rw [e]
def compV (one : D → M (List D)) : List D → M (List D)
  | [] => pur []
  | x :: xs => bnd (noX (one x)) fun o => bnd (compV one xs) fun ys => pur (o ++ ys)
def compR (one : D → M (List D)) (n : Nat) : Nat → Nat → M (List D)
  | fuel, i => fun h => match h[n]? with
    | some (.lst xs) => (match xs[i]? with
      | none => .ok [] h
      | some x => (match fuel with
        | 0 => .bad
        | fuel + 1 => bnd (noX (one x)) (fun o => bnd (compR one n fuel (i + 1)) fun ys => pur (o ++ ys)) h))
    | _ => .bad
def oneC (tg : GM) (tt : TM) (el : EM) (Γ : Env) (x : D) : M (List D) := bnd (tg x Γ) fun Γ2 => bnd (tt Γ2) fun k => if k = true then bnd (el Γ2) fun y => pur [y] else pur []
def lComp (vs : List Nat) (it : Env → M Itm) (tg : GM) (tt : TM) (el : EM) : LM := fun Γ => bnd (it Γ) fun I => match I with
  | .vals xs => compV (oneC tg tt el (wipeE Γ vs)) xs
  | .ref n => fun h => (match h[n]? with
    | some (.lst xs) => if xs.length ≤ 16777216 then compR (oneC tg tt el (wipeE Γ vs)) n xs.length 0 h else .bad
    | _ => .bad)
theorem bnd_inv {α β : Type} {m : M α} {f : α → M β} {h h' : PH} {b : β} (e : bnd m f h = .ok b h') : ∃ a h1, m h = .ok a h1 ∧ f a h1 = .ok b h' := by
  unfold bnd at e
  cases q : m h with
  | ok a h1 =>
    rw [q] at e
    exact ⟨a, h1, rfl, e⟩
  | ex c xs h1 =>
    rw [q] at e
    cases e
  | bad =>
    rw [q] at e
    cases e
theorem Pst.noX {α β : Type} {S : Sx} {G : Wd} {m : M β} {f : β → M α} {h : PH} {Z : α → PH → Wd → Prop} (p : Pst S G (Sw.bnd (Sw.noX m) f h) Z) : ∃ a h1, m h = .ok a h1 ∧ Pst S G (f a h1) Z := by
  unfold Sw.bnd Sw.noX at p
  cases q : m h with
  | ok a h1 =>
    rw [q] at p
    exact ⟨a, h1, rfl, p⟩
  | ex c xs h1 =>
    rw [q] at p
    exact p.elim
  | bad =>
    rw [q] at p
    exact p.elim
/-- the block's static context -/
def Sx.blk (S : Sx) (scope : Scope) : Sx := { S with sc := relS scope S.sc, E := E0, fa := fun x => scope.names.lookup x == some .cell, rz := false }
theorem InX.blk_ {X : Cx} (hX : InX S X) {scope : Scope} {own : List (Str × Nat)} (ok : BlkOk S.N S.sc scope own) (s : Shared) (H : Hp) (C : Addr) (cl : List (Str × Addr)) (fp : List Addr) : InX (S.blk scope) (X.blk s H scope (compEnvC scope cl C X.env) fp) where
  prog := hX.prog
  w := hX.w
  K := hX.K
  mg := hX.mg
  base := hX.base
  N := hX.N
  sc := by
    show relS scope X.env.scope = relS scope S.sc
    rw [hX.sc]
  room := hX.room
  calm := hX.calm
  fn := fun x h => h
  pass := hX.blk _ hX.prog hX.w
  own := PassesOwn.never
  kind := ok.kind
  blk := hX.blk
  tk := fun h => by cases h

/-- one place holds the list at D: while it is made -/
def Wd.un (G : Wd) (U : Addr → Prop) (p : Addr) : Wd := { G with U := U, H := fun b => if b = p then none else G.H b }
theorem Wd.un_le {G : Wd} {U : Addr → Prop} {p : Addr} (hp : G.U p) (hU : ∀ a, U a → G.U a) : G.Le (G.un U p) :=
  ⟨rfl, rfl, List.prefix_refl _, fun a o h1 h2 h3 => ⟨by
    show (if a = p then none else G.H a) = some o
    rw [if_neg (fun q => h3 (by rw [q]; exact hp))]
    exact h1, h2, fun q => h3 (hU a q)⟩⟩
theorem Wd.un_ok {G : Wd} {h : PH} (k : G.Ok h) {U : Addr → Prop} {p : Addr} (hp : G.U p) (hU : ∀ a, U a → G.U a) (nU : ¬ U p) : (G.un U p).Ok h where
  len := k.len
  nd := k.nd
  own := fun a ha => by
    obtain ⟨h1, vs, h2⟩ := k.own a (hU a ha)
    refine ⟨h1, vs, ?_⟩
    show (if a = p then none else G.H a) = _
    rw [if_neg (fun q => nU (by rw [← q]; exact ha))]
    exact h2
  obs := fun n a o h1 h2 => by
    have ne : a ≠ p := fun q => (k.own p hp).1 (by rw [← q]; exact List.mem_of_getElem? h1)
    exact (k.obs n a o h1 h2).le (Wd.un_le hp hU) (by
      show (if a = p then none else G.H a) = _
      rw [if_neg ne])
theorem Wd.un_upd {G : Wd} {U : Addr → Prop} {p : Addr} {o : HO} (e : G.H p = some o) : upd (G.un U p).H p o = G.H := by
  funext b
  unfold upd
  by_cases q : b = p
  · rw [if_pos q, q, e]
  · rw [if_neg q]
    show (if b = p then none else G.H b) = _
    rw [if_neg q]
/-- how the world goes on while the list at p is made: from G (without p) -/
structure Mk1 (G : Wd) (p : Addr) (G2 : Wd) : Prop where
  le : (G.layU p (.lst [])).Le G2
  U : G2.U = fun a => a = p ∨ G.U a
  ow : ∀ a, G.U a → G2.H a = G.H a
theorem Mk1.step {G G2 G3 : Wd} {p : Addr} (m : Mk1 G p G2) (t : G2.To G3) : Mk1 G p G3 :=
  ⟨m.le.trans t.le, t.U.trans m.U, fun a ha => (t.ow a (by rw [m.U]; exact .inr ha)).trans (m.ow a ha)⟩
theorem Mk1.put {G G2 : Wd} {h : PH} (k : G.Ok h) {p : Addr} (hp : G.H p = none) (m : Mk1 G p G2) (o : HO) : Mk1 G p (G2.putU p o) :=
  ⟨m.le.trans (Wd.putU_le (by rw [m.U]; exact .inl rfl)), m.U, fun a ha => (upd_ne (k.neU hp ha)).trans (m.ow a ha)⟩
theorem Mk1.back {G G2 : Wd} {h h2 : PH} (k : G.Ok h) {p : Addr} (hp : G.H p = none) (m : Mk1 G p G2) (k2 : G2.Ok h2) : G.To (G2.un G.U p) ∧ (G2.un G.U p).Ok h2 ∧ (G2.un G.U p).H p = none ∧ G2.Le (G2.un G.U p) := by
  have hU : ∀ a, G.U a → G2.U a := fun a ha => by
    rw [m.U]
    exact .inr ha
  have pU : G2.U p := by
    rw [m.U]
    exact .inl rfl
  refine ⟨⟨((Wd.layU_le hp).trans m.le).trans (Wd.un_le pU hU), rfl, fun a ha => ?_⟩, Wd.un_ok k2 pU hU (k.notU hp), ?_, Wd.un_le pU hU⟩
  · show (if a = p then none else G2.H a) = _
    rw [if_neg (k.neU hp ha)]
    exact m.ow a ha
  · show (if p = p then none else G2.H p) = _
    rw [if_pos rfl]
theorem EnvOk.mk1 {B : Addr → Prop} {G G2 : Wd} {σ : St} {Γ : Env} (e : EnvOk O B G σ Γ) {p : Addr} (hp : G.H p = none) (m : Mk1 G p G2) : EnvOk O B G2 σ Γ where
  len := e.len
  val := fun i d h1 h2 => let ⟨v, q1, q2⟩ := e.val i d h1 h2; ⟨v, q1, (q2.le (Wd.layU_le hp)).le m.le⟩
  own := fun i d h1 h2 => let ⟨xs, a, vs, q1, q2, q3, q4, q5, q6, q7⟩ := e.own i d h1 h2; ⟨xs, a, vs, q1, q2, by rw [m.U]; exact .inr q3, q4, (m.ow a q3).trans q5, q6, Reps.le m.le _ (Reps.le (Wd.layU_le hp) _ q7)⟩
  sep := e.sep
  bU := fun a h => by
    rw [m.U]
    exact .inr (e.bU a h)
section
variable {wi : TI} {g : TG} {tt : TT} {te : TE} {tg : GM} {tm : TM} {el : EM} {vs : List Nat} {S' : Sx}
/-- one turn -/
theorem comp_turn (hK : S'.K = S.K) (hcl : S'.cl = S.cl) (hg : SCt S' O vs g tg) (ht : ST S' O tt tm) (he : SE S' O te el) {B : Addr → Prop} {G G2 : Wd} {h h2 h3 : PH} {σ : St} {Γ : Env} {p : Addr} {d : D} {x : V} {o acc : List D} {accV : List V} {Nx : Hp → Prop}
    (k : G.Ok h) (w : Here S O B G h σ Γ) (hp : G.H p = none) (m : Mk1 G p G2) (k2 : G2.Ok h2) (r : Rep G2 d x) (hacc : G2.H p = some (.lst accV)) (hr : Reps G2 acc accV) (hz : accV.length < sizeLine)
    (one : oneC tg tm el (wipeE Γ vs) d h2 = .ok o h3)
    (next : ∀ G3 accV', Mk1 G p G3 → G3.Ok h3 → G3.H p = some (.lst accV') → Reps G3 (acc ++ o) accV' → accV'.length ≤ accV.length + 1 → Nx G3.H) :
    g x (wipe σ vs) G2.H fun σ2 H2 => wipe σ2 vs = wipe σ vs ∧ tt σ2 H2 fun b H3 => if b = true then te σ2 H3 fun y H4 => ∃ acc, H4 p = some (.lst acc) ∧ acc.length < sizeLine ∧ Nx (upd H4 p (.lst (acc ++ [y]))) else Nx H3 := by
  unfold oneC at one
  obtain ⟨Γ2, ha, e1, one⟩ := bnd_inv one
  obtain ⟨b, hb, e2, one⟩ := bnd_inv one
  have w2 : Here S' O B G2 h2 (wipe σ vs) (wipeE Γ vs) := ⟨m.le.K.trans ((Wd.layU_le hp).K.trans (w.K.trans hK.symm)), m.le.cl.trans ((Wd.layU_le hp).cl.trans (w.cl.trans hcl.symm)), k2, (w.env.mk1 hp m).wipe vs⟩
  have ww : ∀ (vs : List Nat) (σ : St), wipe (wipe σ vs) vs = wipe σ vs := by
    intro vs
    induction vs with
    | nil => intro σ; rfl
    | cons v r ih =>
      intro σ
      show (wipe ((wipe σ r).set v none) r).set v none = (wipe σ r).set v none
      by_cases hv : v ∈ r
      · rw [wipe_set hv, ih]
      · have key : ∀ (r : List Nat) (σ : St), v ∉ r → wipe (σ.set v none) r = (wipe σ r).set v none := by
          intro r
          induction r with
          | nil => intro σ _; rfl
          | cons w s ih2 =>
            intro σ hn
            show (wipe (σ.set v none) s).set w none = ((wipe σ s).set w none).set v none
            rw [ih2 σ (fun q => hn (List.mem_cons_of_mem _ q))]
            rw [List.set_comm _ _ (show w ≠ v from fun q => hn (by rw [q]; exact List.mem_cons_self))]
        rw [key r _ hv, ih, List.set_set]
  refine hg B G2 h2 (wipe σ vs) (wipeE Γ vs) x d _ w2 r ?_
  rw [e1]
  intro G4 t4 k4 σ4 en4 wi4
  refine ⟨wi4.trans (ww vs σ), ?_⟩
  have w4 : Here S' O B G4 ha σ4 Γ2 := ⟨t4.le.K.trans w2.K, t4.le.cl.trans w2.cl, k4, en4⟩
  have m4 := m.step t4
  have a4 : G4.H p = some (.lst accV) := (t4.ow p (by rw [m.U]; exact .inl rfl)).trans hacc
  have r4 := Reps.le t4.le _ hr
  refine ht B G4 ha σ4 Γ2 _ w4 ?_
  rw [e2]
  intro G5 t5 k5
  have w5 := w4.to t5 k5
  have m5 := m4.step t5
  have a5 : G5.H p = some (.lst accV) := (t5.ow p (by rw [m4.U]; exact .inl rfl)).trans a4
  have r5 := Reps.le t5.le _ r4
  cases b with
  | true =>
    simp only [if_true] at one ⊢
    obtain ⟨y, hy, e3, one⟩ := bnd_inv one
    refine he B G5 hb σ4 Γ2 _ w5 ?_
    rw [e3]
    cases one
    intro G6 t6 k6 v rv
    have m6 := m5.step t6
    have p6 : G6.U p := by
      rw [m6.U]
      exact .inl rfl
    have a6 : G6.H p = some (.lst accV) := (t6.ow p (by rw [m5.U]; exact .inl rfl)).trans a5
    refine ⟨accV, a6, hz, ?_⟩
    have l7 := Wd.putU_le (o := .lst (accV ++ [v])) p6
    exact next (G6.putU p (.lst (accV ++ [v]))) _ (m6.put k hp _) (Wd.putU_ok k6 p6) upd_same ((Reps.le l7 _ (Reps.le t6.le _ r5)).app (.one (rv.le l7))) (by rw [List.length_append]; exact Nat.le_refl _)
  | false =>
    simp only [Bool.false_eq_true, if_false] at one ⊢
    cases one
    exact next G5 accV m5 k5 a5 (by rw [List.append_nil]; exact r5) (Nat.le_succ _)
end
theorem bnd_assoc {α β γ : Type} (m : M α) (f : α → M β) (g : β → M γ) : bnd (bnd m f) g = bnd m (fun a => bnd (f a) g) := by
  funext h
  unfold bnd
  cases m h <;> rfl
theorem bnd_pur {α β : Type} (a : α) (f : α → M β) : bnd (pur a) f = f a := rfl
theorem bnd_nil (m : M (List D)) : bnd m (fun ys => pur ([] ++ ys)) = m := by
  funext h
  unfold bnd
  cases m h <;> rfl
theorem app_two (m : M (List D)) (a b : List D) : bnd (bnd m (fun ys => pur (b ++ ys))) (fun ys => pur (a ++ ys)) = bnd m (fun ys => pur ((a ++ b) ++ ys)) := by
  rw [bnd_assoc]
  funext h
  unfold bnd
  cases m h with
  | ok ys h' => simp only [pur, List.append_assoc]
  | ex c ys h' => rfl
  | bad => rfl
def ZF (Q : VK) : List D → PH → Wd → Prop := fun ds _ G' => ∀ p vs, G'.H p = none → vs.length ≤ sizeLine → Reps G' ds vs → Q (.ref p) (upd G'.H p (.lst vs))
theorem comp_fin {G1 G2 : Wd} {h1 h2 : PH} {p0 : Addr} {acc : List D} {accV : List V} {Q : VK} (k1 : G1.Ok h1) (hp0 : G1.H p0 = none) (m2 : Mk1 G1 p0 G2) (k2 : G2.Ok h2) (a2 : G2.H p0 = some (.lst accV)) (r2 : Reps G2 acc accV) (hz : accV.length ≤ sizeLine)
    (p2 : Pst S G1 (.ok acc h2 : Sw.R (List D)) (ZF Q)) : Q (.ref p0) G2.H := by
  obtain ⟨b1, b2, b3, b4⟩ := m2.back k1 hp0 k2
  have := p2 (G2.un G1.U p0) b1 b2 p0 accV b3 hz (Reps.le b4 _ r2)
  rw [Wd.un_upd a2] at this
  exact this
theorem sf_comp {wi : TI} {g : TG} {tt : TT} {te : TE} {scope : Scope} {own : List (Str × Nat)} {m : Env → M Itm} {tg : GM} {tm : TM} {el : EM} (i2 : SI S O wi m) (g2 : SCt (S.blk scope) O (own.map (·.2)) g tg) (t2 : ST (S.blk scope) O tt tm) (e2 : SE (S.blk scope) O te el) :
    SF S O (tLc wi g tt te (own.map (·.2))) (lComp (own.map (·.2)) m tg tm el) := by
  intro B G h σ Γ Q w p
  unfold lComp at p
  refine i2 B G h σ Γ _ w (p.bnd.mono fun it h1 G1 t1' k1 p1 J ij => ?_)
  have w1 := w.to t1' k1
  intro p0 hp0
  have k0 := Wd.layU_ok k1 (vs := []) hp0
  have m0 : Mk1 G1 p0 (G1.layU p0 (.lst [])) := ⟨.refl _, rfl, fun a ha => upd_ne (k1.neU hp0 ha)⟩
  cases it with
  | vals xs =>
    obtain ⟨ij, hl⟩ := ij
    have p1 : Pst S G1 (compV (oneC tg tm el (wipeE Γ (own.map (·.2)))) xs h1) (ZF Q) := p1
    generalize hone : oneC tg tm el (wipeE Γ (own.map (·.2))) = one at p1
    refine ⟨fun i mm H => ∃ G2 h2 acc accV, G2.H = H ∧ Mk1 G1 p0 G2 ∧ G2.Ok h2 ∧ i ≤ xs.length ∧ mm = xs.length - i ∧ G2.H p0 = some (.lst accV) ∧ Reps G2 acc accV ∧ accV.length ≤ i ∧
      Pst S G1 (bnd (compV one (xs.drop i)) (fun ys => pur (acc ++ ys)) h2) (ZF Q),
      ⟨xs.length, _, h1, [], [], rfl, m0, k0, Nat.zero_le _, by simp, upd_same, .nil, Nat.le_refl _, by rw [List.drop_zero, bnd_nil]; exact p1⟩, ?_⟩
    rintro i mm H2 ⟨G2, h2, acc, accV, rfl, m2, k2, hi, rfl, a2, r2, hz, p2⟩
    have l2 : G1.Le G2 := (Wd.layU_le hp0).trans m2.le
    by_cases hlt : i < xs.length
    · right
      rw [List.drop_eq_getElem_cons hlt] at p2
      unfold compV at p2
      rw [bnd_assoc] at p2
      obtain ⟨o, h3, eo, p4⟩ := p2.noX
      rw [app_two] at p4
      refine ⟨ij.go G2 i l2 hlt, fun H' => ∃ G3 accV', G3.H = H' ∧ Mk1 G1 p0 G3 ∧ G3.Ok h3 ∧ G3.H p0 = some (.lst accV') ∧ Reps G3 (acc ++ o) accV' ∧ accV'.length ≤ accV.length + 1, ?_, ?_⟩
      · rintro H' ⟨G3, accV', rfl, m3, k3, a3, r3, hz3⟩
        exact ⟨xs.length - (i + 1), by omega, G3, h3, acc ++ o, accV', rfl, m3, k3, hlt, rfl, a3, r3, by omega, p4⟩
      · intro x H' y
        have hd : xs[i]? = some xs[i] := List.getElem?_eq_getElem hlt
        obtain ⟨G3, e3, t3, k3, r3⟩ := ij.yld G2 h2 i x H' xs[i] l2 k2 hd y
        subst e3
        have a3 : G3.H p0 = some (.lst accV) := (t3.ow p0 (by rw [m2.U]; exact .inl rfl)).trans a2
        refine comp_turn (S := S) (S' := S.blk scope) rfl rfl g2 t2 e2 k1 w1 hp0 (m2.step t3) k3 r3 a3 (Reps.le t3.le _ r2) ?_ (by rw [hone]; exact eo) fun G4 accV' m4 k4 a4 r4 hz4 => ⟨G4, accV', rfl, m4, k4, a4, r4, hz4⟩
        rw [sizeLine_eq]
        omega
    · left
      have e : i = xs.length := by omega
      subst e
      rw [List.drop_length] at p2
      have p2 : Pst S G1 (.ok (acc ++ []) h2 : Sw.R (List D)) (ZF Q) := p2
      rw [List.append_nil] at p2
      exact ⟨ij.stop G2 _ l2 (Nat.le_refl _), comp_fin k1 hp0 m2 k2 a2 r2 (by rw [sizeLine_eq]; omega) p2⟩
  | ref n =>
    obtain ⟨a, ha, rfl⟩ := ij
    obtain ⟨ob, q2, q3⟩ := k1.at ha
    simp only [q2] at p1
    cases ob with
    | lst xs0 =>
      simp only at p1
      by_cases hl0 : xs0.length ≤ 16777216
      · rw [if_pos hl0] at p1
        have p1 : Pst S G1 (compR (oneC tg tm el (wipeE Γ (own.map (·.2)))) n xs0.length 0 h1) (ZF Q) := p1
        generalize hone : oneC tg tm el (wipeE Γ (own.map (·.2))) = one at p1
        refine ⟨fun i mm H => ∃ G2 h2 acc accV, G2.H = H ∧ Mk1 G1 p0 G2 ∧ G2.Ok h2 ∧ G2.H p0 = some (.lst accV) ∧ Reps G2 acc accV ∧ accV.length ≤ i ∧ mm + i = xs0.length ∧
          Pst S G1 (bnd (compR one n mm i) (fun ys => pur (acc ++ ys)) h2) (ZF Q),
          ⟨xs0.length, _, h1, [], [], rfl, m0, k0, upd_same, .nil, Nat.le_refl _, rfl, by rw [bnd_nil]; exact p1⟩, ?_⟩
        rintro i mm H2 ⟨G2, h2, acc, accV, rfl, m2, k2, a2, r2, hz, hmi, p2⟩
        have l2 : G1.Le G2 := (Wd.layU_le hp0).trans m2.le
        have ha2 := pre_get l2.ρ ha
        obtain ⟨ob2, b2, b3⟩ := k2.at ha2
        unfold bnd at p2
        unfold compR at p2
        simp only [b2] at p2
        cases ob2 with
        | lst xs =>
          obtain ⟨vs, c1, c2, c3⟩ := b3
          simp only at p2
          cases e : xs[i]? with
          | none =>
            simp only [e] at p2
            left
            have p2 : Pst S G1 (.ok (acc ++ []) h2 : Sw.R (List D)) (ZF Q) := p2
            rw [List.append_nil] at p2
            refine ⟨⟨vs, by rw [← l2.K]; exact SqL.of c1, ?_⟩, comp_fin k1 hp0 m2 k2 a2 r2 (by rw [sizeLine_eq]; omega) p2⟩
            rw [c3.len]
            exact List.getElem?_eq_none_iff.mp e
          | some d =>
            simp only [e] at p2
            cases mm with
            | zero => exact p2.elim
            | succ mm =>
              right
              have p3 : Pst S G1 (bnd (bnd (noX (one d)) (fun o => bnd (compR one n mm (i + 1)) fun ys => pur (o ++ ys))) (fun ys => pur (acc ++ ys)) h2) (ZF Q) := p2
              rw [bnd_assoc] at p3
              obtain ⟨o, h3, eo, p4⟩ := p3.noX
              rw [app_two] at p4
              obtain ⟨v, v1, v2⟩ := c3.get e
              refine ⟨⟨vs, v, by rw [← l2.K]; exact SqL.of c1, v1⟩, fun H' => ∃ G3 accV', G3.H = H' ∧ Mk1 G1 p0 G3 ∧ G3.Ok h3 ∧ G3.H p0 = some (.lst accV') ∧ Reps G3 (acc ++ o) accV' ∧ accV'.length ≤ accV.length + 1, ?_, ?_⟩
              · rintro H' ⟨G3, accV', rfl, m3, k3, a3, r3, hz3⟩
                exact ⟨mm, Nat.lt_succ_self mm, G3, h3, acc ++ o, accV', rfl, m3, k3, a3, r3, by omega, by omega, p4⟩
              · rintro x H' ⟨rfl, y⟩
                have ey := y vs (by rw [← l2.K]; exact SqL.of c1)
                rw [v1] at ey
                cases ey
                refine comp_turn (S := S) (S' := S.blk scope) rfl rfl g2 t2 e2 k1 w1 hp0 m2 k2 v2 a2 r2 ?_ (by rw [hone]; exact eo) fun G4 accV' m4 k4 a4 r4 hz4 => ⟨G4, accV', rfl, m4, k4, a4, r4, hz4⟩
                rw [sizeLine_eq]
                omega
        | _ => exact p2.elim
      · rw [if_neg hl0] at p1
        exact p1.elim
    | _ => exact p1.elim
theorem rf_comp {elt tge iter : Expr} {ifs : List Expr} {scope : Scope} {own : List (Str × Nat)} {pos : Pos} {m : Env → M Itm} {tg : GM} {tm : TM} {el : EM} (nd : S.N.Nodup) (hi : RI S O tge iter m) (ok : BlkOk S.N S.sc scope own)
    (hg : RC (S.blk scope) O (own.map (·.2)) tge tg) (ht : RTs (S.blk scope) O ifs tm) (he : RE (S.blk scope) O elt el) (hs : ∀ env x, foldedSetIterable iter env x = pure x) : RF S O (.ListComp elt [⟨tge, iter, ifs, 0⟩] scope pos) (lComp (own.map (·.2)) m tg tm el) := by
  obtain ⟨wi, i1, i2⟩ := hi.ex
  obtain ⟨g, g1, g2⟩ := hg.ex
  obtain ⟨tt, t1, t2⟩ := ht.ex
  obtain ⟨te, e1, e2⟩ := he.ex
  refine ⟨tLc wi g tt te (own.map (·.2)), fun X hX => ?_, sf_comp i2 g2 t2 e2⟩
  have ok' : BlkOk X.N X.env.scope scope own := by
    rw [hX.N, hX.sc]
    exact ok
  exact pe_lc hX.calm (by rw [hX.N]; exact nd) (i1 X hX) ok' (fun s H C cl fp => g1 _ (hX.blk_ ok s H C cl fp)) (fun s H C cl fp => t1 _ (hX.blk_ ok s H C cl fp)) (fun s H C cl fp => e1 _ (hX.blk_ ok s H C cl fp)) (hs _)
end Sw

set_option maxHeartbeats 400000
/-! Sw, part L: a name that is set to a comprehension, dict displays, defs. -/
namespace Sw
open PySem PySem.Spec L2
variable {S : Sx} {O : List Nat}

theorem se_val {t : TE} {m : LM} (h2 : SF S O t m) : SE S O t (gVal m) := by
  intro B G h σ Γ Q w p
  unfold gVal at p
  exact h2 B G h σ Γ _ w (p.bnd.mono fun ds h1 G1 t1 k1 p1 a vs e hl r => p1.layL k1 hl r a e)
theorem se_new {t : TE} {m : LM} (h2 : SF S O t m) : SE S O t (gNew m) := by
  intro B G h σ Γ Q w p
  unfold gNew at p
  exact h2 B G h σ Γ _ w (p.bnd.mono fun ds h1 G1 t1 k1 p1 a vs e hl r => p1.newL k1 hl r a e)
theorem sst_set {t : TE} {m : EM} {i : Nat} (hi : i ∉ O) (h2 : SE S O t m) : SSt S O (tAsg t (gName i)) (sSet i m) := by
  intro B G h σ Γ E w p
  unfold sSet at p
  refine h2 B G h σ Γ _ w ((p.ebnd w.env.bU).mono fun d h1 G1 t1 k1 p1 v r => ?_)
  exact p1.pur k1 _ ((w.env.to t1).set hi r)
theorem sst_own {t : TE} {m : LM} {i : Nat} (hi : i ∈ O) (h2 : SF S O t m) : SSt S O (tAsg t (gName i)) (sOwn i m) := by
  intro B G h σ Γ E w p
  unfold sOwn at p
  refine h2 B G h σ Γ _ w ((p.ebnd w.env.bU).mono fun d h1 G1 t1 k1 p1 a vs ha hl r => ?_)
  have w1 := w.to t1 k1
  exact p1 (G1.layU a (.lst vs)) (Wd.layU_by k1 w1.env.bU ha) (Wd.layU_ok k1 ha) _ (w1.env.own_ k1 hi ha hl r)
/-- y = [..] where y is a local (no cell) -/
theorem ps_comp {elt tge iter : Expr} {ifs : List Expr} {scope : Scope} {own : List (Str × Nat)} {pos spos py : Pos} {y : Str} {i : Nat} {m : Env → M Itm} {tg : GM} {tm : TM} {el : EM} (nd : S.N.Nodup) (hi : RI S O tge iter m) (ok : BlkOk S.N S.sc scope own)
    (hg : RC (S.blk scope) O (own.map (·.2)) tge tg) (ht : RTs (S.blk scope) O ifs tm) (he : RE (S.blk scope) O elt el) (hs : ∀ env x, foldedSetIterable iter env x = pure x)
    (hy : S.N[i]? = some y) (hyl : S.sc.names.lookup y = some .local) (hk : S.sc.kind = .function) (hl : (py.line == pos.line) = true) (hn : (scope.names.any fun (n, k) => n == y && (k == .local || k == .cell)) = false) :
    ∃ t, (∀ X, InX S X → PS X (.Assign [.Name y py] (.ListComp elt [⟨tge, iter, ifs, 0⟩] scope pos) spos) (tAsg t (gName i))) ∧ SF S O t (lComp (own.map (·.2)) m tg tm el) := by
  obtain ⟨wi, i1, i2⟩ := hi.ex
  obtain ⟨g, g1, g2⟩ := hg.ex
  obtain ⟨tt, t1, t2⟩ := ht.ex
  obtain ⟨te, e1, e2⟩ := he.ex
  refine ⟨tLc wi g tt te (own.map (·.2)), fun X hX => ?_, sf_comp i2 g2 t2 e2⟩
  have ok' : BlkOk X.N X.env.scope scope own := by
    rw [hX.N, hX.sc]
    exact ok
  have hyl' : X.env.scope.names.lookup y = some .local := by
    rw [hX.sc]
    exact hyl
  exact ps_setLc hX.calm (by rw [hX.N]; exact nd) (by rw [hX.N]; exact hy) hyl' (sw_true hX.kind hyl' hl hn) (i1 X hX) ok' (fun s H C cl fp => g1 _ (hX.blk_ ok s H C cl fp)) (fun s H C cl fp => t1 _ (hX.blk_ ok s H C cl fp)) (fun s H C cl fp => e1 _ (hX.blk_ ok s H C cl fp)) (hs _)
/-- what is needed of the name -/
structure Ys (S : Sx) (i : Nat) (y : Str) (scope : Scope) : Prop where
  n : S.N[i]? = some y
  l : S.sc.names.lookup y = some .local
  k : S.sc.kind = .function
  no : (scope.names.any fun (n, k) => n == y && (k == .local || k == .cell)) = false
section
variable {elt tge iter : Expr} {ifs : List Expr} {scope : Scope} {own : List (Str × Nat)} {pos spos py : Pos} {y : Str} {i : Nat} {m : Env → M Itm} {tg : GM} {tm : TM} {el : EM}
theorem rs_compV (nd : S.N.Nodup) (ys : Ys S i y scope) (hO : i ∉ O) (hi : RI S O tge iter m) (ok : BlkOk S.N S.sc scope own)
    (hg : RC (S.blk scope) O (own.map (·.2)) tge tg) (ht : RTs (S.blk scope) O ifs tm) (he : RE (S.blk scope) O elt el) (hs : ∀ env x, foldedSetIterable iter env x = pure x) (hl : (py.line == pos.line) = true) :
    RS S O (.Assign [.Name y py] (.ListComp elt [⟨tge, iter, ifs, 0⟩] scope pos) spos) (sSet i (gVal (lComp (own.map (·.2)) m tg tm el))) := by
  obtain ⟨t, h1, h2⟩ := ps_comp (pos := pos) (spos := spos) (py := py) nd hi ok hg ht he hs ys.n ys.l ys.k hl ys.no
  exact ⟨_, h1, sst_set hO (se_val h2)⟩
theorem rs_compN (nd : S.N.Nodup) (ys : Ys S i y scope) (hO : i ∉ O) (hi : RI S O tge iter m) (ok : BlkOk S.N S.sc scope own)
    (hg : RC (S.blk scope) O (own.map (·.2)) tge tg) (ht : RTs (S.blk scope) O ifs tm) (he : RE (S.blk scope) O elt el) (hs : ∀ env x, foldedSetIterable iter env x = pure x) (hl : (py.line == pos.line) = true) :
    RS S O (.Assign [.Name y py] (.ListComp elt [⟨tge, iter, ifs, 0⟩] scope pos) spos) (sSet i (gNew (lComp (own.map (·.2)) m tg tm el))) := by
  obtain ⟨t, h1, h2⟩ := ps_comp (pos := pos) (spos := spos) (py := py) nd hi ok hg ht he hs ys.n ys.l ys.k hl ys.no
  exact ⟨_, h1, sst_set hO (se_new h2)⟩
theorem rs_compO (nd : S.N.Nodup) (ys : Ys S i y scope) (hO : i ∈ O) (hi : RI S O tge iter m) (ok : BlkOk S.N S.sc scope own)
    (hg : RC (S.blk scope) O (own.map (·.2)) tge tg) (ht : RTs (S.blk scope) O ifs tm) (he : RE (S.blk scope) O elt el) (hs : ∀ env x, foldedSetIterable iter env x = pure x) (hl : (py.line == pos.line) = true) :
    RS S O (.Assign [.Name y py] (.ListComp elt [⟨tge, iter, ifs, 0⟩] scope pos) spos) (sOwn i (lComp (own.map (·.2)) m tg tm el)) := by
  obtain ⟨t, h1, h2⟩ := ps_comp (pos := pos) (spos := spos) (py := py) nd hi ok hg ht he hs ys.n ys.l ys.k hl ys.no
  exact ⟨_, h1, sst_own hO h2⟩
end
/-- y a cell: the list is stored as any other value -/
theorem sw_cell {elt : Expr} {gs : List Comprehension} {scope : Scope} {pos py : Pos} {y : Str} {l : Nat} (h : S.sc.names.lookup y = some .cell) : ∀ env : PySem.Env, env.scope = S.sc → swapsWith (.ListComp elt gs scope pos) (some (.Name y py)) l env = pure false := fun env e => by
  have ky : env.kindOf y = some .cell := by
    show env.scope.names.lookup y = _
    rw [e]
    exact h
  unfold swapsWith
  simp only [ky]
  have : (some NameKind.cell == some NameKind.local) = false := rfl
  simp only [this, Bool.and_false, Bool.false_and]

/-! ### dict displays -/
def pairsM : List (EM × EM) → Env → M (List (Key × D))
  | [], _ => pur []
  | (k, v) :: r, Γ => bnd (k Γ) fun kd => bnd (v Γ) fun d => bnd (pairsM r Γ) fun ps => fun h => match keyD kd with
    | some key => .ok ((key, d) :: ps) h
    | none => .bad
def mergeD (kvs more : List (Key × D)) : List (Key × D) := more.foldl (fun acc kv => putD_ acc kv.1 kv.2) kvs
theorem RepKV.merge {G : Wd} : ∀ {more : List (Key × D)} {more' : List (Key × V)} {kvs : List (Key × D)} {kvs' : List (Key × V)}, RepKV G more more' → RepKV G kvs kvs' → RepKV G (mergeD kvs more) (mergeK kvs' more')
  | [], more', kvs, kvs', h, h' => by
    rw [h.nil_inv]
    exact h'
  | (k, d) :: r, more', kvs, kvs', h, h' => by
    obtain ⟨v, s, rfl, h1, h2⟩ := h.cons_inv
    show RepKV G (mergeD (putD_ kvs k d) r) (mergeK (putK kvs' k v) s)
    exact RepKV.merge h2 (h'.put h1)
structure RPs (S : Sx) (O : List Nat) (pos : Pos) (keys : List (Option Expr)) (values : List Expr) (ps : List (EM × EM)) : Prop where
  ex : ∃ trs, (∀ X, InX S X → PPs X pos keys values trs) ∧ ∀ (B : Addr → Prop) (G : Wd) (h : PH) (σ : St) (Γ : Env) (Q : List (V × V) → Hp → Prop), Here S O B G h σ Γ →
    Pst S G (pairsM ps Γ h) (fun kvs _ G' => ∀ kvs', RepKV G' kvs kvs' → Q (kvs'.map fun kv => (kV kv.1, kv.2)) G'.H) → tPairs trs σ G.H Q
  len : ps.length = keys.length
theorem rps_nil {pos : Pos} : RPs S O pos [] [] [] := ⟨⟨[], fun X _ => pps_nil, fun B G h σ Γ Q w p => (p.pur w.ok) [] .nil⟩, rfl⟩
theorem rps_cons {pos : Pos} {k v : Expr} {ks : List (Option Expr)} {vs : List Expr} {mk mv : EM} {ps : List (EM × EM)} (hk : RE S O k mk) (hv : RE S O v mv) (hr : RPs S O pos ks vs ps) : RPs S O pos (some k :: ks) (v :: vs) ((mk, mv) :: ps) := by
  obtain ⟨tk, k1, k2⟩ := hk.ex
  obtain ⟨tv, v1, v2⟩ := hv.ex
  obtain ⟨⟨trs, r1, r2⟩, hl⟩ := hr
  refine ⟨⟨(tk, tv) :: trs, fun X hX => pps_cons (k1 X hX) (v1 X hX) (r1 X hX), fun B G h σ Γ Q w p => ?_⟩, by rw [List.length_cons, List.length_cons, hl]⟩
  unfold pairsM at p
  refine k2 B G h σ Γ _ w (p.bnd.mono fun kd h1 G1 t1 k1' p1 x rx => ?_)
  have w1 := w.to t1 k1'
  refine v2 B G1 h1 σ Γ _ w1 (p1.bnd.mono fun d h2 G2 t2 k2' p2 y ry => ?_)
  have w2 := w1.to t2 k2'
  refine r2 B G2 h2 σ Γ _ w2 (p2.bnd.mono fun kvs h3 G3 t3 k3' p3 kvs' rk => ?_)
  cases e : keyD kd with
  | none =>
    simp only [e] at p3
    exact p3.elim
  | some key =>
    simp only [e] at p3
    have ex := keyD_v (.inl rx) e
    have := p3 G3 (.refl G3) k3' ((key, y) :: kvs') (.cons (ry.le t3.le) rk)
    rw [ex]
    exact this
/-- {k: v, ..}: a new object -/
def gDisp (ps : List (EM × EM)) : EM := fun Γ h => bnd (pairsM ps Γ) (fun kvs => fun h2 => match h2[h.length]? with
  | some (.dct []) => .ok (.ref h.length) (h2.set h.length (.dct (mergeD [] kvs)))
  | _ => .bad) (h ++ [.dct []])
def gDict0 : EM := fun _ h => .ok (.ref h.length) (h ++ [.dct []])
def gDictT : EM := fun _ h => .ok (.ref h.length) (h ++ [.dtu []])
theorem re_dict0 {pos : Pos} : RE S O (.Dict [] [] pos) gDict0 :=
  ⟨_, fun X _ => pe_dnewK, fun B G h σ Γ Q w p => Pst.layO (ob := .dct []) p w.ok fun a e => ⟨[], upd_same, .nil⟩⟩
theorem re_dictT {pos : Pos} : RE S O (.Dict [] [] pos) gDictT :=
  ⟨_, fun X _ => pe_dnewT, fun B G h σ Γ Q w p => Pst.layO (ob := .dtu []) p w.ok fun a e => ⟨[], upd_same, .nil⟩⟩
theorem pairsM_len : ∀ {ps : List (EM × EM)} {Γ : Env} {h h' : PH} {kvs : List (Key × D)}, pairsM ps Γ h = .ok kvs h' → kvs.length = ps.length
  | [], Γ, h, h', kvs, e => by
    cases e
    rfl
  | (k, v) :: r, Γ, h, h', kvs, e => by
    unfold pairsM at e
    obtain ⟨kd, h1, e1, e⟩ := bnd_inv e
    obtain ⟨d, h2, e2, e⟩ := bnd_inv e
    obtain ⟨ps, h3, e3, e⟩ := bnd_inv e
    cases q : keyD kd with
    | none =>
      simp only [q] at e
      cases e
    | some key =>
      simp only [q] at e
      cases e
      rw [List.length_cons, List.length_cons, pairsM_len e3]
theorem re_disp {pos : Pos} {keys : List (Option Expr)} {values : List Expr} {ps : List (EM × EM)} (hp : RPs S O pos keys values ps) (hall : keys.all (·.isSome) = true) (hl : keys.length = values.length) (h0 : keys ≠ []) (h15 : keys.length ≤ 15) : RE S O (.Dict keys values pos) (gDisp ps) := by
  obtain ⟨⟨trs, r1, r2⟩, hlen⟩ := hp
  refine ⟨_, fun X hX => pe_disp (r1 X hX) hall hl h0 h15, fun B G h σ Γ Q w p => ?_⟩
  intro a ha
  have k1 : (G.layO a (.dK [])).Ok (h ++ [.dct []]) := Wd.layO_ok w.ok ha ⟨[], upd_same, .nil⟩
  have t1 := Wd.layO_to w.ok (o := .dK []) ha
  have w1 : Here S O B (G.layO a (.dK [])) (h ++ [.dct []]) σ Γ := w.to t1 k1
  unfold gDisp at p
  have p0 := p.step t1
  refine r2 B (G.layO a (.dK [])) _ σ Γ _ w1 (p0.bnd.eq.mono fun kvs h2 G2 t2 k2 ⟨pe, p2⟩ kvs' rk => ?_)
  have hn : (G.layO a (.dK [])).ρ[h.length]? = some a := by
    show (G.ρ ++ [a])[h.length]? = some a
    rw [← w.ok.len]
    simp
  have hn2 := pre_get t2.le.ρ hn
  obtain ⟨ob, q1, q2⟩ := k2.at hn2
  simp only [q1] at p2
  cases ob with
  | dct ks =>
    cases ks with
    | nil =>
      simp only at p2
      obtain ⟨ks', q3, q4⟩ := q2
      rw [q4.nil_inv] at q3
      have t3 := Wd.put_to k2 (o := .dK (mergeK [] kvs')) hn2
      refine ⟨q3, kvs', rfl, ?_, ?_⟩
      · rw [rk.len, pairsM_len pe, hlen]
        exact h15
      · refine p2 (G2.put a (.dK (mergeK [] kvs'))) t3 (Wd.put_ok (ob := .dct (mergeD [] kvs)) k2 hn2 ⟨_, upd_same, (rk.merge .nil).le t3.le⟩) _ ?_
        unfold Rep
        exact ⟨a, hn2, rfl⟩
    | cons _ _ => exact p2.elim
  | _ => exact p2.elim

/-! ### defs -/
def fnM (n slots : Nat) (body : SM) : List D → M D := fun ds => bnd (body (ds.map some ++ List.replicate (slots - n) none)) fun f => match f with
  | .nx _ => pur .non
  | .rt d => pur d
/-- a def's own static context -/
def Tx.fn (T : Tx) (N : List Str) (sc : Scope) (k : Nat) (rz : Bool) (E : XK) : Sx := ⟨T, E, N, sc, k, fun _ => true, rz⟩
theorem env_start {K : PySem.W.Frag} {G : Wd} {h : PH} {ds : List D} {vs : List V} {N : List Str} (k : G.Ok h) (r : Reps G ds vs) : EnvOk [] G.U G (L2.start N vs) (ds.map some ++ List.replicate (N.length - vs.length) none) where
  len := by
    unfold L2.start
    rw [List.length_append, List.length_append, List.length_map, List.length_map, List.length_replicate, List.length_replicate, r.len]
  val := fun i d h1 _ => by
    by_cases hi : i < ds.length
    · rw [List.getElem?_append_left (by simpa using hi), List.getElem?_map] at h1
      cases e : ds[i]? with
      | none =>
        rw [e] at h1
        cases h1
      | some x =>
        rw [e] at h1
        cases h1
        obtain ⟨v, e1, e2⟩ := r.get e
        refine ⟨v, ?_, e2⟩
        unfold L2.start
        rw [List.getElem?_append_left (by rw [List.length_map, r.len]; exact hi), List.getElem?_map, e1]
        rfl
    · rw [List.getElem?_append_right (by simpa using hi), List.getElem?_replicate] at h1
      split at h1 <;> cases h1
  own := fun i d h1 h2 => by cases h2
  sep := fun i j _ _ _ h1 => by cases h1
  bU := fun a h => h
theorem EnvOk.anyO {B : Addr → Prop} {G : Wd} {σ : St} {Γ : Env} (e : EnvOk [] B G σ Γ) {O : List Nat} (ho : ∀ i ∈ O, ∀ d, Γ[i]? ≠ some (some d)) : EnvOk O B G σ Γ where
  len := e.len
  val := fun i d h1 _ => e.val i d h1 (by simp)
  own := fun i d h1 h2 => absurd h1 (ho i h2 d)
  sep := fun i j d _ _ h1 _ h3 _ _ _ => absurd h3 (ho i h1 d)
  bU := e.bU
/-- a def without exceptions keeps to its shadow -/
theorem fn_ok0 {T : Tx} {x qual : Str} {st : Stmt} {f : Addr} {fd : FuncData} {N ps : List Str} {k n : Nat} {O : List Nat} {body : SM} (F : Fun T.K x qual st f fd) (sc : FnScope N ps (defScope st)) (hn : ps.length = n) (hO : ∀ i ∈ O, n ≤ i) (hC : T.CX = CX0) (hm : T.xm = false)
    (hb : RSs (T.fn N (defScope st) k false E0) O (defBody st) body) : FnOk T.P T.w T.K T.mg T.base T.CX (k + 1) f fd ps (spM T n (fnM n N.length body)) := by
  rw [hC]
  refine F.ok sc (fun vs H Q E h => h.1.trans hn.symm) (fun cdv A outer s H vs Q E hr h => ?_)
  obtain ⟨hv, G, h, ds, gK, gc, ok, rfl, rs, p⟩ := h
  obtain ⟨t, t1, t2⟩ := hb.ex
  refine ⟨t, t1 _ ?_, ?_⟩
  · exact ⟨rfl, rfl, rfl, rfl, rfl, rfl, rfl, hr, rfl, fun _ _ => rfl, by show Passes T.CX _ _; rw [hC]; exact pass0, PassesOwn.never, sc.kind, fun _ _ _ => by show Passes T.CX _ _; rw [hC]; exact pass0, fun h => by cases h⟩
  · have w : Here (T.fn N (defScope st) k false E0) O G.U G h (L2.start N vs) (ds.map some ++ List.replicate (N.length - n) none) := by
      refine ⟨gK, gc, ok, ?_⟩
      have e := env_start (K := T.K) (N := N) ok rs
      rw [hv] at e
      refine e.anyO fun i hi d q => ?_
      have := hO i hi
      rw [List.getElem?_append_right (by rw [List.length_map, ← rs.len, hv]; exact this), List.getElem?_replicate] at q
      split at q <;> cases q
    refine t2 G.U G h _ _ _ w ?_
    unfold fnM at p
    have hx : T.xm = false → ∀ c xs h', body (ds.map some ++ List.replicate (N.length - n) none) h ≠ .ex c xs h' := fun hm c xs h' e => by
      unfold bnd at p
      rw [e] at p
      have := p.1
      rw [show (T.sx E).T.xm = T.xm from rfl, hm] at this
      cases this
    unfold bnd at p
    cases e : body (ds.map some ++ List.replicate (N.length - n) none) h with
    | ok f h' =>
      rw [e] at p
      intro G' y k'
      have fin : ∀ d v, (∀ a, G.U a → G'.U a) → Rep G' d v → Pst (T.sx E) G (.ok d h' : Sw.R D) (fun d _ G' => ∀ v, Rep G' d v → Q v G'.H) → Q v G'.H := fun d v b r q => by
        have l := Wd.drop_le (G := G') b
        exact q (G'.drop G.U) ⟨y.le.trans l, rfl, fun a ha => y.ow a ha⟩ (Wd.drop_ok k' b) v (r.le l)
      cases f with
      | nx Γ' => exact fun σ' en => fin _ _ en.bU .of_non p
      | rt d => exact fun v b r => fin d v b r p
    | ex c xs h' => exact absurd e (hx hm c xs h')
    | bad =>
      rw [e] at p
      exact p
end Sw

set_option maxHeartbeats 400000
/-! Sw, part M: names by a look, an own list given back, small things. -/
namespace Sw
open PySem PySem.Spec L2
variable {S : Sx} {O : List Nat}

def visB (sc : Scope) (x : Str) : Bool := match sc.names.lookup x with
  | some .local => true
  | some .cell => true
  | some .free => true
  | _ => false
def nmB (N : List Str) (sc : Scope) (i : Nat) (x : Str) : Bool := decide (N[i]? = some x) && (visB sc x && ((!(x == ("__debug__" : Str))) && !(x == ("__classdict__" : Str))))
theorem b2 {a b : Bool} (h : (a && b) = true) : a = true ∧ b = true := Bool.and_eq_true_iff.mp h
theorem bn {a : Bool} (h : (!a) = true) : a = false := by cases a <;> first | rfl | cases h
theorem visB_ok {sc : Scope} {x : Str} (h : visB sc x = true) : Vis sc x := by
  unfold visB at h
  split at h
  · exact .inl ‹_›
  · exact .inr (.inl ‹_›)
  · exact .inr (.inr ‹_›)
  · cases h
theorem nm_of {N : List Str} {sc : Scope} {i : Nat} {x : Str} (h : nmB N sc i x = true) (hN : S.N = N := by rfl) (hs : S.sc = sc := by rfl) : Nm S i x := by
  obtain ⟨h1, h⟩ := b2 h
  obtain ⟨h2, h⟩ := b2 h
  obtain ⟨h3, h4⟩ := b2 h
  exact ⟨by rw [hN]; exact of_decide_eq_true h1, by rw [hs]; exact visB_ok h2, bn h3, bn h4⟩
def lcB (N : List Str) (sc : Scope) (fa : Str → Bool) (i : Nat) (x : Str) : Bool := decide (N.Nodup) && (decide (N[i]? = some x) && (match sc.names.lookup x with
  | some .local => true
  | some .cell => fa x
  | _ => false))
theorem lc_of {N : List Str} {sc : Scope} {fa : Str → Bool} {i : Nat} {x : Str} (h : lcB N sc fa i x = true) (hN : S.N = N := by rfl) (hs : S.sc = sc := by rfl) (hf : S.fa = fa := by rfl) : Lc S i x := by
  obtain ⟨h1, h⟩ := b2 h
  obtain ⟨h2, h⟩ := b2 h
  split at h
  · exact ⟨by rw [hN]; exact of_decide_eq_true h1, by rw [hN]; exact of_decide_eq_true h2, .inl (by rw [hs]; assumption), .inr (by rw [hs]; assumption)⟩
  · exact ⟨by rw [hN]; exact of_decide_eq_true h1, by rw [hN]; exact of_decide_eq_true h2, .inr (by rw [hs]; assumption), .inl (by rw [hf]; exact h)⟩
  · cases h
def gbB (sc : Scope) (x : Str) : Bool := match sc.names.lookup x with
  | some .globalImplicit => true
  | _ => false
theorem gb_of {sc : Scope} {x : Str} (h : gbB sc x = true) (hs : S.sc = sc := by rfl) : Gb S x := by
  unfold gbB at h
  split at h
  · show S.sc.names.lookup x = _
    rw [hs]
    assumption
  · cases h
/-- what is known of a built-in's name -/
structure Bn (T : Tx) (x : Str) (v : Value) : Prop where
  m : T.mg x = none
  v : bootBuiltins x = some v
  n1 : x ≠ "__name__"
  n2 : (x == ("__debug__" : Str)) = false
theorem Bn.f {x : Str} {id : String} (b : Bn S.T x (.builtin id)) (g : Gb S x) : BiF S x id := ⟨g, b.m, b.v, b.n1, b.n2⟩
theorem Bn.t {x : Str} {id : String} (b : Bn S.T x (.type id)) (g : Gb S x) : BiT S x id := ⟨g, b.m, b.v, b.n1, b.n2⟩
/-- a module's constant -/
structure Mn (T : Tx) (x : Str) (d : D) : Prop where
  ex : ∃ v u, T.mg x = some u ∧ RelV v u ∧ ∀ G : Wd, G.K = T.K → Rep G d v
  nd : (x == ("__debug__" : Str)) = false
theorem Mn.s {x : Str} {d : D} (m : Mn S.T x d) : Mc S x d := ⟨m.ex, m.nd⟩
/-- an own list is given back -/
theorem rs_retO {i : Nat} {x : Str} {p pos : Pos} (n : Nm S i x) (hi : i ∈ O) : RS S O (.Return (some (.Name x p)) pos) (sRet (gV i)) := by
  refine ⟨_, fun X hX => ps_ret (n.pe X hX), fun B G h σ Γ E w q => ?_⟩
  unfold sRet gV bnd at q
  cases e : Γ[i]? with
  | none =>
    simp only [e] at q
    exact q.elim
  | some o =>
    cases o with
    | none =>
      simp only [e] at q
      exact q.elim
    | some d =>
      simp only [e] at q
      obtain ⟨xs, a, vs, rfl, q2, q3, q4, q5, q6, q7⟩ := w.env.own i d e hi
      have b : ∀ c, (G.U c ∧ c ≠ a) → G.U c := fun c h => h.1
      have l := Wd.drop_le (G := G) b
      have bb : ∀ c, B c → G.U c ∧ c ≠ a := fun c hc => ⟨w.env.bU c hc, fun z => q4 (by rw [← z]; exact hc)⟩
      refine ⟨.ref a, q2, ?_⟩
      refine q (G.drop fun c => G.U c ∧ c ≠ a) ⟨l, fun _ _ => rfl⟩ (Wd.drop_ok w.ok b) (.ref a) bb ?_
      unfold Rep
      exact ⟨a, vs, rfl, ⟨q5, (w.ok.own a q3).1, fun z => z.2 rfl, q6⟩, Reps.le l _ q7⟩
/-- -a -/
def dNeg : D → M D
  | .int i => pur (.int (-i))
  | _ => bad
theorem re_neg {a : Expr} {m : EM} {pos : Pos} (h : RE S O a m) : RE S O (.UnaryOp .USub a pos) (g1 dNeg m) := by
  obtain ⟨t, h1, h2⟩ := h.ex
  refine ⟨_, fun X hX => pe_un un_neg (h1 X hX), fun B G h σ Γ Q w p => ?_⟩
  unfold g1 at p
  refine h2 B G h σ Γ _ w (p.bnd.mono fun d h1 G1 t1 k1 p1 v r => ?_)
  cases d with
  | int i => exact ⟨i, r.int_inv, p1 G1 (.refl G1) k1 _ .of_int⟩
  | _ => exact p1.elim
/-- the test of a value that need not be True or False -/
theorem PlainIx_of {b : Expr} (h : ∀ o i, subscripted b false o i = operate [o, i] (getItem o i)) : PlainIx b := h
end Sw

set_option maxHeartbeats 400000
/-! Sw, part N: short forms for printed proofs. -/
namespace Sw
open PySem PySem.Spec L2
variable {S : Sx} {O : List Nat}
theorem nk {i : Nat} {x : Str} (h : nmB S.N S.sc i x = true) : Nm S i x := nm_of h
theorem lk {i : Nat} {x : Str} (h : lcB S.N S.sc S.fa i x = true) : Lc S i x := lc_of h
theorem gk {x : Str} (h : gbB S.sc x = true) : Gb S x := gb_of h

theorem vB {i : Nat} {x : Str} {pos : Pos} (h : nmB S.N S.sc i x = true := by kernel_rfl) : RB S O (.Name x pos) (gV i) := rb_var (nk h)
theorem vE {i : Nat} {x : Str} {pos : Pos} (h : nmB S.N S.sc i x = true := by kernel_rfl) (hi : i ∉ O := by decide) : RE S O (.Name x pos) (gV i) := re_var (nk h) hi
theorem cS {x : Str} {j pos} (hx : PyData.strOk x = true := by kernel_rfl) : RE S O (.Constant (.str x) j pos) (gC (.str x)) := re_str hx
theorem cG {x : Str} {d : D} {pos : Pos} (c : Mn S.T x d) (g : gbB S.sc x = true := by kernel_rfl) : RE S O (.Name x pos) (gC d) := re_glob (gk g) c.s
theorem bo {op : Operator} {a b : Expr} {pos : Pos} {f : D → D → M D} {ma mb : EM} (o : Op2 S (binaryOp op) f) (ha : RB S O a ma) (hb : RB S O b mb) : RE S O (.BinOp a op b pos) (g2 f ma mb) := re_bin o ha hb
theorem cmE {a b : Expr} {op : CmpOp} {pos : Pos} {f : D → D → M D} {ma mb : EM} (o : Op2 S (compareOp op) f) (ha : RB S O a ma) (hb : RB S O b mb) (hm : behindInMarks op b = false := by first | exact nomark _ | rfl) : RE S O (.Compare a [op] [b] pos) (g2 f ma mb) := re_cmp o ha hb hm
theorem cmT {a b : Expr} {op : CmpOp} {pos : Pos} {f : D → D → M D} {ma mb : EM} (o : Op2 S (compareOp op) f) (ha : RB S O a ma) (hb : RB S O b mb) (hm : behindInMarks op b = false := by first | exact nomark _ | rfl) : RT S O (.Compare a [op] [b] pos) (tB (g2 f ma mb)) := rt_cmp o ha hb hm
theorem chE {a b c : Expr} {op op' : CmpOp} {pos : Pos} {f f' : D → D → M D} {ma mb mc : EM} (o : Op2 S (compareOp op) f) (o' : Op2 S (compareOp op') f') (ha : RB S O a ma) (hb : RB S O b mb) (hc : RB S O c mc)
    (hm : lastMarks [op, op'] [b, c] = false := by with_unfolding_all rfl) : RE S O (.Compare a [op, op'] [b, c] pos) (gChain f f' ma mb mc) := re_chain o o' ha hb hc hm
theorem chT {a b c : Expr} {op op' : CmpOp} {pos : Pos} {f f' : D → D → M D} {ma mb mc : EM} (o : Op2 S (compareOp op) f) (o' : Op2 S (compareOp op') f') (ha : RB S O a ma) (hb : RB S O b mb) (hc : RB S O c mc)
    (hm : lastMarks [op, op'] [b, c] = false := by with_unfolding_all rfl) : RT S O (.Compare a [op, op'] [b, c] pos) (tB (gChain f f' ma mb mc)) := rt_chain o o' ha hb hc hm
theorem vT {e : Expr} {m : EM} (h : RE S O e m) (he : ∀ env whole, isTrue e env whole = (do let v ← whole; standAt e.pos; holding [v] (truthy v)) := by intros; rfl) : RT S O e (tB m) := rt_val h he
theorem ac {e : Expr} {es : List Expr} {m : EM} {ms : List EM} (he : RE S O e m) (hs : RA S O es ms) (hst : ∀ env, starEach (e :: es) env = (false, eval e env) :: starEach es env := by intros; rfl) : RA S O (e :: es) (m :: ms) := ra_cons he hs hst
theorem tp {es : List Expr} {ms : List EM} {x1 pos} (h : RA S O es ms) (hl : Nat.ble ms.length 1000 = true := by rfl) : RE S O (.Tuple es x1 pos) (gTup ms) := re_tup h (Nat.le_of_ble_eq_true hl)
theorem ls {es : List Expr} {ms : List EM} {pos} (h : RA S O es ms) (hl : Nat.ble ms.length 1000 = true := by rfl) : RF S O (.List es pos) (seqA ms) := rf_lst h (Nat.le_of_ble_eq_true hl)
theorem ix {a b : Expr} {ma mb : EM} {pos : Pos} (ha : RB S O a ma) (hb : RB S O b mb) (hs : PlainIx b := by intro _ _; rfl) : RE S O (.Subscript a b pos) (g2 dIx ma mb) := re_ix ha hb hs
/-- what is known of a class -/
structure CT (T : Tx) (C : Str) (fs : List Str) : Prop where
  cl : Cls T.K (T.cl C)
  no : ∀ f ∈ fs, NoAttr T.K (T.cl C) f
theorem CT.s {C : Str} {fs : List Str} (c : CT S.T C fs) : ClsOk S C fs := ⟨c.cl, c.no⟩
theorem fd {e : Expr} {C f : Str} {fs : List Str} {m : EM} {pos : Pos} (c : CT S.T C fs) (he : RE S O e m) (hf : fs.elem f = true := by kernel_rfl) (hb : ∀ env, attributeBase e f env (eval e env) = eval e env := by intros; rfl) : RE S O (.Attribute e f pos) (gFld C f m) := re_fld c.s (List.mem_of_elem_eq_true hf) he hb
theorem call {x : Str} {n : Nat} {k0 : Nat} {f : List D → M D} {e : Expr} {es : List Expr} {ms : List EM} {p pos : Pos} (F : FnS S.T x k0 n f) (ha : RA S O (e :: es) ms) (hk0 : Nat.ble k0 S.k = true := by rfl) (g : gbB S.sc x = true := by kernel_rfl) (hn : ms.length = n := by rfl)
    (hst : ∀ env, starEach (e :: es) env = (false, eval e env) :: starEach es env := by intros; rfl) (hpl : ∀ env, (backTo pos (starEach es env)).any (·.1) = false := by intros; rfl) : RE S O (.Call (.Name x p) (e :: es) [] pos) (gCall f ms) := re_call F (Nat.le_of_ble_eq_true hk0) (gk g) ha hn hst hpl
theorem call0 {x : Str} {k0 : Nat} {f : List D → M D} {p pos : Pos} (F : FnS S.T x k0 0 f) (hk0 : Nat.ble k0 S.k = true := by rfl) (g : gbB S.sc x = true := by kernel_rfl) : RE S O (.Call (.Name x p) [] [] pos) (gCall f []) := re_call0 F (Nat.le_of_ble_eq_true hk0) (gk g)
theorem me {C m : Str} {n : Nat} {k0 : Nat} {f : List D → M D} {o : Expr} {mo : EM} {e : Expr} {es : List Expr} {ms : List EM} {apos pos : Pos} {pl : PySem.Env → Sem Bool} (F : MtS S.T C m k0 n f) (ho : RE S O o mo) (ha : RA S O (e :: es) ms) (hk0 : Nat.ble k0 S.k = true := by rfl) (hn : ms.length + 1 = n := by rfl)
    (hst : ∀ env, starEach (e :: es) env = (false, eval e env) :: starEach es env := by intros; rfl) (hpl : ∀ env, (backTo pos (starEach es env)).any (·.1) = false := by intros; rfl)
    (ht : ∀ env, eval (.Call (.Attribute o m apos) (e :: es) [] pos) env = (do
      let ov ← eval o env
      standAt apos.atName
      let (f, first) ← holding [ov] (getMethod ov m (pl env))
      callWith pos f first (backTo pos (starEach (e :: es) env)) (backToKw pos (keywordEach [] env))) := by intros; rfl) : RE S O (.Call (.Attribute o m apos) (e :: es) [] pos) (gMeth C m f mo ms) := re_meth F (Nat.le_of_ble_eq_true hk0) ho ha hn hst hpl ht
theorem me0 {C m : Str} {k0 : Nat} {f : List D → M D} {o : Expr} {mo : EM} {apos pos : Pos} {pl : PySem.Env → Sem Bool} (F : MtS S.T C m k0 1 f) (ho : RE S O o mo) (hk0 : Nat.ble k0 S.k = true := by rfl)
    (ht : ∀ env, eval (.Call (.Attribute o m apos) [] [] pos) env = (do
      let ov ← eval o env
      standAt apos.atName
      let (f, first) ← holding [ov] (getMethod ov m (pl env))
      callWith pos f first (backTo pos (starEach [] env)) (backToKw pos (keywordEach [] env))) := by intros; rfl) : RE S O (.Call (.Attribute o m apos) [] [] pos) (gMeth C m f mo []) := re_meth0 F (Nat.le_of_ble_eq_true hk0) ho ht
theorem mk {C : Str} {n : Nat} {k0 : Nat} {f : List D → M D} {e : Expr} {es : List Expr} {ms : List EM} {p pos : Pos} (F : MkS S.T C k0 n f) (ha : RA S O (e :: es) ms) (hk0 : Nat.ble (k0 + 1) S.k = true := by rfl) (g : gbB S.sc C = true := by kernel_rfl) (hn : ms.length = n := by rfl)
    (hst : ∀ env, starEach (e :: es) env = (false, eval e env) :: starEach es env := by intros; rfl) (hpl : ∀ env, (backTo pos (starEach es env)).any (·.1) = false := by intros; rfl) : RE S O (.Call (.Name C p) (e :: es) [] pos) (gMake C f ms) := re_make F (Nat.le_of_ble_eq_true hk0) (gk g) ha hn hst hpl
section
variable {x : Str} {id Ty : String} {e : Expr} {m : EM} {p pos : Pos}
theorem f1 {f : D → M D} (b : Bn S.T x (.builtin id)) (F : F1 S id f) (h : RB S O e m) (g : gbB S.sc x = true := by kernel_rfl) (hst : ∀ env, starEach [e] env = (false, eval e env) :: starEach [] env := by intros; rfl) (hpl : ∀ env, (backTo pos (starEach [] env)).any (·.1) = false := by intros; rfl) : RE S O (.Call (.Name x p) [e] [] pos) (g1 f m) := re_f1 (b.f (gk g)) F h hst hpl
theorem t1 {f : D → M D} (b : Bn S.T x (.type Ty)) (F : T1 S Ty f) (h : RB S O e m) (g : gbB S.sc x = true := by kernel_rfl) (hst : ∀ env, starEach [e] env = (false, eval e env) :: starEach [] env := by intros; rfl) (hpl : ∀ env, (backTo pos (starEach [] env)).any (·.1) = false := by intros; rfl) : RE S O (.Call (.Name x p) [e] [] pos) (g1 f m) := re_t1 (b.t (gk g)) F h hst hpl
theorem ff1 {f : D → M (List D)} (b : Bn S.T x (.builtin id)) (F : F1F S id f) (h : RB S O e m) (g : gbB S.sc x = true := by kernel_rfl) (hst : ∀ env, starEach [e] env = (false, eval e env) :: starEach [] env := by intros; rfl) (hpl : ∀ env, (backTo pos (starEach [] env)).any (·.1) = false := by intros; rfl) : RF S O (.Call (.Name x p) [e] [] pos) (l1 f m) := rf_f1 (b.f (gk g)) F h hst hpl
theorem ft1 {f : D → M (List D)} (b : Bn S.T x (.type Ty)) (F : T1F S Ty f) (h : RB S O e m) (g : gbB S.sc x = true := by kernel_rfl) (hst : ∀ env, starEach [e] env = (false, eval e env) :: starEach [] env := by intros; rfl) (hpl : ∀ env, (backTo pos (starEach [] env)).any (·.1) = false := by intros; rfl) : RF S O (.Call (.Name x p) [e] [] pos) (l1 f m) := rf_t1 (b.t (gk g)) F h hst hpl
theorem isi {Tn : String} {Y : Str} {p2 : Pos} (it : IsT Tn) (b : Bn S.T x (.builtin "isinstance")) (c : Bn S.T Y (.type Tn)) (h : RB S O e m) (g : gbB S.sc x = true := by kernel_rfl) (g2 : gbB S.sc Y = true := by kernel_rfl) (hst : ∀ env, starEach [e, .Name Y p2] env = [(false, eval e env), (false, eval (.Name Y p2) env)] := by intros; rfl)
    (hs2 : ∀ env q, starEach [.Name Y q] env = [(false, eval (.Name Y q) env)] := by intros; rfl) : RE S O (.Call (.Name x p) [e, .Name Y p2] [] pos) (g1 (isTy Tn) m) := re_isi it (b.f (gk g)) (c.t (gk g2)) h hst hs2
theorem bf {f : List D → M D} {es : List Expr} {ms : List EM} (F : BfS S x f) (ha : RA S O (e :: es) ms) (g : gbB S.sc x = true := by kernel_rfl)
    (hst : ∀ env, starEach (e :: es) env = (false, eval e env) :: starEach es env := by intros; rfl) (hpl : ∀ env, (backTo pos (starEach es env)).any (·.1) = false := by intros; rfl) : RE S O (.Call (.Name x p) (e :: es) [] pos) (gCall f ms) := re_bf F (gk g) ha hst hpl
end
theorem lm {m : Str} {f : PH → List D → List D → Option (D × List D)} {o e : Expr} {es : List Expr} {mo : EM} {ms : List EM} {apos cpos : Pos} (F : LmS S m f) (ho : RE S O o mo) (ha : RA S O (e :: es) ms)
    (hbase : ∀ env, attributeBase o m env (eval o env) = eval o env := by intros; rfl)
    (hfew : ∀ env, ((backTo cpos (starEach (e :: es) env)).all (fun x => !x.1) && (backToKw cpos (keywordEach [] env)).all (fun x => x.1.isSome)
      && decide ((e :: es).length + ([] : List Keyword).length + (if ([] : List Keyword).isEmpty then 0 else 1) < 30)) = true := by intros; rfl)
    (hline : (apos.endLine == cpos.line) = true := by rfl) (hs : ∀ env, starEach (e :: es) env = (false, eval e env) :: starEach es env := by intros; rfl) (hplain : ∀ env, (backTo cpos (starEach es env)).any (·.1) = false := by intros; rfl) :
    RE S O (.Call (.Attribute o m apos) (e :: es) [] cpos) (gLm f mo ms) := re_lm F ho ha hbase hfew hline hs hplain
theorem lm0 {m : Str} {f : PH → List D → List D → Option (D × List D)} {o : Expr} {mo : EM} {apos cpos : Pos} (F : LmS S m f) (ho : RE S O o mo)
    (hbase : ∀ env, attributeBase o m env (eval o env) = eval o env := by intros; rfl) (hline : (apos.endLine == cpos.line) = true := by rfl) : RE S O (.Call (.Attribute o m apos) [] [] cpos) (gLm f mo []) := re_lm0 F ho hbase hline
/-! statements -/
theorem sE {e : Expr} {m : EM} {pos : Pos} (h : RE S O e m) (hs : ∀ env, swapsWith e none pos.line env = pure false := by intros; rfl) : RS S O (.Expr e pos) (sExpr m) := rs_expr h hs
theorem s_ {i : Nat} {x : Str} {e : Expr} {m : EM} {pos pos' : Pos} (h : RE S O e m) (l : lcB S.N S.sc S.fa i x = true := by kernel_rfl) (hi : i ∉ O := by decide) (hs : ∀ env : PySem.Env, env.scope = S.sc → swapsWith e (some (.Name x pos')) pos.line env = pure false := by intros; rfl) : RS S O (.Assign [.Name x pos'] e pos) (sSet i m) := rs_set (lk l) hi h hs
theorem sO {i : Nat} {x : Str} {e : Expr} {m : LM} {pos pos' : Pos} (h : RF S O e m) (l : lcB S.N S.sc S.fa i x = true := by kernel_rfl) (hi : i ∈ O := by decide) (hs : ∀ env : PySem.Env, env.scope = S.sc → swapsWith e (some (.Name x pos')) pos.line env = pure false := by intros; rfl) : RS S O (.Assign [.Name x pos'] e pos) (sOwn i m) := rs_own (lk l) hi h hs
theorem cellB {y : Str} (h : (match S.sc.names.lookup y with
  | some .cell => true
  | _ => false) = true) : S.sc.names.lookup y = some .cell := by
  split at h
  · assumption
  · cases h
theorem sM {m x : Str} {i : Nat} {f : PH → List D → List D → Option (D × List D)} {e : Expr} {es : List Expr} {ms : List EM} {p0 apos cpos pos : Pos} (F : LmS S m f) (ha : RA S O (e :: es) ms) (n : nmB S.N S.sc i x = true := by kernel_rfl) (hi : i ∈ O := by decide)
    (hbase : ∀ env, attributeBase (.Name x p0) m env (eval (.Name x p0) env) = eval (.Name x p0) env := by intros; rfl)
    (hfew : ∀ env, ((backTo cpos (starEach (e :: es) env)).all (fun x => !x.1) && (backToKw cpos (keywordEach [] env)).all (fun x => x.1.isSome)
      && decide ((e :: es).length + ([] : List Keyword).length + (if ([] : List Keyword).isEmpty then 0 else 1) < 30)) = true := by intros; rfl)
    (hline : (apos.endLine == cpos.line) = true := by rfl) (hs : ∀ env, starEach (e :: es) env = (false, eval e env) :: starEach es env := by intros; rfl) (hplain : ∀ env, (backTo cpos (starEach es env)).any (·.1) = false := by intros; rfl)
    (hsw : ∀ env, swapsWith (.Call (.Attribute (.Name x p0) m apos) (e :: es) [] cpos) none pos.line env = pure false := by intros; rfl) :
    RS S O (.Expr (.Call (.Attribute (.Name x p0) m apos) (e :: es) [] cpos) pos) (sOwnM f i ms) := rs_ownM F (nk n) hi ha hbase hfew hline hs hplain hsw
theorem sF {C f : Str} {fs : List Str} {o value : Expr} {mo mv : EM} {pos' pos : Pos} (c : CT S.T C fs) (ho : RE S O o mo) (hv : RE S O value mv) (hf : fs.elem f = true := by kernel_rfl) (hs : ∀ env, swapsWith value (some (.Attribute o f pos')) pos.line env = pure false := by intros; rfl) :
    RS S O (.Assign [.Attribute o f pos'] value pos) (Sw.sFld C f mo mv) := rs_fld c.s (List.mem_of_elem_eq_true hf) ho hv hs
theorem gN {i : Nat} {x : Str} {pos : Pos} (l : lcB S.N S.sc S.fa i x = true := by kernel_rfl) (hi : i ∉ O := by decide) : RG S O (.Name x pos) (tgName i) := rg_name (lk l) hi
theorem gc {e : Expr} {es : List Expr} {a : GM} {b : List D → Env → M Env} (h1 : RG S O e a) (h2 : RGs S O es b) (hs : ∀ env, (assignEach (e :: es) env).map (·.2) = assign e env :: (assignEach es env).map (·.2) := by intros; rfl) : RGs S O (e :: es) (tgCons a b) := rgs_cons h1 h2 hs
theorem gT {es : List Expr} {k : Nat} {b : List D → Env → M Env} {pos : Pos} {n : Nat} (h : RGs S O es b) (hn : ∀ env, (assignEach es env).length = n := by intros; rfl) (hst : ∀ env, (assignEach es env).findIdx? (·.1) = none := by intros; rfl) : RG S O (.Tuple es k pos) (tgTup n b) := rg_tup h hn hst
theorem gS {o i : Expr} {mo mi : EM} {pos : Pos} (ho : RE S O o mo) (hi : RE S O i mi) (ha : ∀ env v, assign (.Subscript o i pos) env v = (do
      let ov ← holding [v] (eval o env)
      let iv ← holding [v, ov] (eval i env)
      standAt pos
      holding [v, ov, iv] (setItem ov iv v)
      release [v, ov, iv] []) := by intros; rfl) : RG S O (.Subscript o i pos) (tgSub mo mi) := rg_sub ho hi ha
theorem gF {C f : Str} {fs : List Str} {o : Expr} {mo : EM} {pos : Pos} (c : CT S.T C fs) (ho : RE S O o mo) (hf : fs.elem f = true := by kernel_rfl) : RG S O (.Attribute o f pos) (tgFld C f mo) := rg_fld c.s (List.mem_of_elem_eq_true hf) ho
theorem sA {tg e : Expr} {me : EM} {mg : GM} {pos : Pos} (he : RE S O e me) (hg : RG S O tg mg) (hs : ∀ env, swapsWithSole [tg] e pos.line env = pure false := by intros; rfl) (hw : ∀ env, swappedStores [tg] e env = pure none := by intros; rfl)
    (h1 : ∀ env, (assignEach [tg] env).map (·.2) = [assign tg env] := by intros; rfl) : RS S O (.Assign [tg] e pos) (sAsg me mg) := rs_asg he hg hs hw h1
theorem r1 {tg a : Expr} {m : EM} {p pos : Pos} (b : Bn S.T "range" (.type "range")) (he : RE S O a m) (g : gbB S.sc "range" = true := by kernel_rfl) (hs : ∀ env, starEach [a] env = [(false, eval a env)] := by intros; rfl) : RI S O tg (.Call (.Name "range" p) [a] [] pos) (rg1 m) := ri_rg1 (gk g) b.m he hs
theorem r2 {tg a b : Expr} {m m' : EM} {p pos : Pos} (bn : Bn S.T "range" (.type "range")) (he : RE S O a m) (hf : RE S O b m') (g : gbB S.sc "range" = true := by kernel_rfl) (hs : ∀ env, starEach [a, b] env = [(false, eval a env), (false, eval b env)] := by intros; rfl) (hs2 : ∀ env, starEach [b] env = [(false, eval b env)] := by intros; rfl) :
    RI S O tg (.Call (.Name "range" p) [a, b] [] pos) (rg2 m m') := ri_rg2 (gk g) bn.m he hf hs hs2
theorem fo {tge iter : Expr} {b : List Stmt} {m : Env → M Itm} {tg : GM} {body : SM} {pos : Pos} (hi : RI S O tge iter m) (hg : RG S O tge tg) (hb : RSs S O b body) (hs : ∀ env x, foldedSetIterable iter env x = pure x := by intros; rfl) : RS S O (.For tge iter b [] pos) (sFor m tg body) := rs_for hi hg hb hs
theorem cN {vs : List Nat} {i : Nat} {x : Str} {pos : Pos} (l : lcB S.N S.sc S.fa i x = true := by kernel_rfl) (hi : i ∉ O := by decide) (hv : i ∈ vs := by decide) : RC S O vs (.Name x pos) (tgName i) := rc_name (lk l) hi hv
theorem cc {vs : List Nat} {e : Expr} {es : List Expr} {a : GM} {b : List D → Env → M Env} (h1 : RC S O vs e a) (h2 : RCs S O vs es b) (hs : ∀ env, (assignEach (e :: es) env).map (·.2) = assign e env :: (assignEach es env).map (·.2) := by intros; rfl) : RCs S O vs (e :: es) (tgCons a b) := rcs_cons h1 h2 hs
theorem cT {vs : List Nat} {es : List Expr} {k : Nat} {b : List D → Env → M Env} {pos : Pos} {n : Nat} (h : RCs S O vs es b) (hn : ∀ env, (assignEach es env).length = n := by intros; rfl) (hst : ∀ env, (assignEach es env).findIdx? (·.1) = none := by intros; rfl) : RC S O vs (.Tuple es k pos) (tgTup n b) := rc_tup h hn hst
/-- a block's names by a look -/
def blkB (N : List Str) (sc scope : Scope) (own : List (Str × Nat)) : Bool :=
  (match scope.kind with
    | .function => true
    | _ => false) && (scope.names.all (fun y => decide (scope.names.lookup y.1 = some y.2)) && (own.all (fun p => decide (N[p.2]? = some p.1)) && (scope.names.all (fun y => match y.2 with
    | .free => (match sc.names.lookup y.1 with
      | some .cell => true
      | some .free => true
      | _ => false)
    | .local => (own.map (·.1)).elem y.1 || !(N.elem y.1)
    | .cell => (own.map (·.1)).elem y.1 || !(N.elem y.1)
    | _ => true) && decide N.Nodup)))
theorem blk_of {N : List Str} {sc scope : Scope} {own : List (Str × Nat)} (h : blkB N sc scope own = true) : BlkOk N sc scope own ∧ N.Nodup := by
  obtain ⟨h1, h⟩ := b2 h
  obtain ⟨h2, h⟩ := b2 h
  obtain ⟨h3, h⟩ := b2 h
  obtain ⟨h4, h5⟩ := b2 h
  have h4 := List.all_eq_true.mp h4
  have ow : ∀ y : Str, ((own.map (·.1)).elem y || !(N.elem y)) = true → y ∈ own.map (·.1) ∨ y ∉ N := fun y q => by
    rcases Bool.or_eq_true_iff.mp q with q | q
    · exact .inl (List.mem_of_elem_eq_true q)
    · refine .inr fun m => ?_
      rw [List.elem_eq_true_of_mem m] at q
      cases q
  refine ⟨⟨?_, fun y hy => of_decide_eq_true (List.all_eq_true.mp h2 y hy), fun p hp => of_decide_eq_true (List.all_eq_true.mp h3 p hp), fun y hy e => ?_, fun y hy e => ?_⟩, of_decide_eq_true h5⟩
  · cases e : scope.kind <;> first | rfl | (rw [e] at h1; cases h1)
  · have q := h4 y hy
    simp only [e] at q
    split at q
    · exact .inl ‹_›
    · exact .inr ‹_›
    · cases q
  · have q := h4 y hy
    rcases e with e | e <;> simp only [e] at q <;> exact ow _ q
theorem cp {elt tge iter : Expr} {ifs : List Expr} {scope : Scope} {own : List (Str × Nat)} {pos : Pos} {m : Env → M Itm} {tg : GM} {tm : TM} {el : EM} (hi : RI S O tge iter m)
    (hg : RC (S.blk scope) O (own.map (·.2)) tge tg) (ht : RTs (S.blk scope) O ifs tm) (he : RE (S.blk scope) O elt el) (ok : blkB S.N S.sc scope own = true := by kernel_rfl) (hs : ∀ env x, foldedSetIterable iter env x = pure x := by intros; rfl) : RF S O (.ListComp elt [⟨tge, iter, ifs, 0⟩] scope pos) (lComp (own.map (·.2)) m tg tm el) := rf_comp (blk_of ok).2 hi (blk_of ok).1 hg ht he hs
def ysB (N : List Str) (sc : Scope) (i : Nat) (y : Str) (scope : Scope) : Bool := decide (N[i]? = some y) && ((match sc.names.lookup y with
  | some .local => true
  | _ => false) && ((match sc.kind with
    | .function => true
    | _ => false) && !(scope.names.any fun (n, k) => n == y && (k == .local || k == .cell))))
theorem ys_of {i : Nat} {y : Str} {scope : Scope} (h : ysB S.N S.sc i y scope = true) : Ys S i y scope := by
  obtain ⟨h1, h⟩ := b2 h
  obtain ⟨h2, h⟩ := b2 h
  obtain ⟨h3, h4⟩ := b2 h
  refine ⟨of_decide_eq_true h1, ?_, ?_, bn h4⟩
  · split at h2
    · assumption
    · cases h2
  · cases e : S.sc.kind <;> first | rfl | (rw [e] at h3; cases h3)
section
variable {elt tge iter : Expr} {ifs : List Expr} {scope : Scope} {own : List (Str × Nat)} {pos spos py : Pos} {y : Str} {i : Nat} {m : Env → M Itm} {tg : GM} {tm : TM} {el : EM}
theorem scV (hi : RI S O tge iter m) (hg : RC (S.blk scope) O (own.map (·.2)) tge tg) (ht : RTs (S.blk scope) O ifs tm) (he : RE (S.blk scope) O elt el) (ok : blkB S.N S.sc scope own = true := by kernel_rfl) (ys : ysB S.N S.sc i y scope = true := by kernel_rfl) (hO : i ∉ O := by decide) (hs : ∀ env x, foldedSetIterable iter env x = pure x := by intros; rfl) (hl : (py.line == pos.line) = true := by rfl) :
    RS S O (.Assign [.Name y py] (.ListComp elt [⟨tge, iter, ifs, 0⟩] scope pos) spos) (sSet i (gVal (lComp (own.map (·.2)) m tg tm el))) := rs_compV (blk_of ok).2 (ys_of ys) hO hi (blk_of ok).1 hg ht he hs hl
theorem scN (hi : RI S O tge iter m) (hg : RC (S.blk scope) O (own.map (·.2)) tge tg) (ht : RTs (S.blk scope) O ifs tm) (he : RE (S.blk scope) O elt el) (ok : blkB S.N S.sc scope own = true := by kernel_rfl) (ys : ysB S.N S.sc i y scope = true := by kernel_rfl) (hO : i ∉ O := by decide) (hs : ∀ env x, foldedSetIterable iter env x = pure x := by intros; rfl) (hl : (py.line == pos.line) = true := by rfl) :
    RS S O (.Assign [.Name y py] (.ListComp elt [⟨tge, iter, ifs, 0⟩] scope pos) spos) (sSet i (gNew (lComp (own.map (·.2)) m tg tm el))) := rs_compN (blk_of ok).2 (ys_of ys) hO hi (blk_of ok).1 hg ht he hs hl
theorem scO (hi : RI S O tge iter m) (hg : RC (S.blk scope) O (own.map (·.2)) tge tg) (ht : RTs (S.blk scope) O ifs tm) (he : RE (S.blk scope) O elt el) (ok : blkB S.N S.sc scope own = true := by kernel_rfl) (ys : ysB S.N S.sc i y scope = true := by kernel_rfl) (hO : i ∈ O := by decide) (hs : ∀ env x, foldedSetIterable iter env x = pure x := by intros; rfl) (hl : (py.line == pos.line) = true := by rfl) :
    RS S O (.Assign [.Name y py] (.ListComp elt [⟨tge, iter, ifs, 0⟩] scope pos) spos) (sOwn i (lComp (own.map (·.2)) m tg tm el)) := rs_compO (blk_of ok).2 (ys_of ys) hO hi (blk_of ok).1 hg ht he hs hl
end
theorem rO {i : Nat} {x : Str} {p pos : Pos} (h : nmB S.N S.sc i x = true := by kernel_rfl) (hi : i ∈ O := by decide) : RS S O (.Return (some (.Name x p)) pos) (sRet (gV i)) := rs_retO (nk h) hi
theorem dsp {pos : Pos} {keys : List (Option Expr)} {values : List Expr} {ps : List (EM × EM)} (hp : RPs S O pos keys values ps) (hall : keys.all (·.isSome) = true := by rfl) (hl : keys.length = values.length := by rfl) (h0 : keys.isEmpty = false := by rfl) (h15 : Nat.ble keys.length 15 = true := by rfl) : RE S O (.Dict keys values pos) (gDisp ps) :=
  re_disp hp hall hl (fun e => by rw [e] at h0; cases h0) (Nat.le_of_ble_eq_true h15)
theorem pass_ {pos : Pos} : RS S O (.Pass pos) sNil := ⟨tNext, fun X _ => ps_pass, fun B G h σ Γ E w p => p.pur w.ok σ w.env⟩

/-! ### a def by its facts -/
theorem fn_okD {T : Tx} {x qual : Str} {st : Stmt} {f : Addr} {fd : FuncData} {N ps : List Str} {k n : Nat} {O : List Nat} {body : SM} (F : FunD T.K x qual (defArgs st) (defBody st) (defScope st) [] [] f fd) (sc : FnScope N ps (defScope st)) (hn : ps.length = n) (hO : O.all (fun i => Nat.ble n i) = true) (hC : T.CX = CX0) (hm : T.xm = false)
    (hb : RSs (T.fn N (defScope st) k false E0) O (defBody st) body) : FnOk T.P T.w T.K T.mg T.base T.CX (k + 1) f fd ps (spM T n (fnM n N.length body)) := by
  have hO : ∀ i ∈ O, n ≤ i := fun i hi => Nat.le_of_ble_eq_true (List.all_eq_true.mp hO i hi)
  rw [hC]
  refine F.ok sc (fun vs H Q E h => h.1.trans hn.symm) (fun cdv A outer s H vs Q E hr h => ?_)
  obtain ⟨hv, G, h, ds, gK, gc, ok, rfl, rs, p⟩ := h
  obtain ⟨t, t1, t2⟩ := hb.ex
  refine ⟨t, PSs.nox (t1 _ ?_), ?_⟩
  · exact ⟨rfl, rfl, rfl, rfl, rfl, rfl, rfl, hr, rfl, fun _ _ => rfl, by show Passes T.CX _ _; rw [hC]; exact pass0, PassesOwn.never, sc.kind, fun _ _ _ => by show Passes T.CX _ _; rw [hC]; exact pass0, fun h => by cases h⟩
  · have w : Here (T.fn N (defScope st) k false E0) O G.U G h (L2.start N vs) (ds.map some ++ List.replicate (N.length - n) none) := by
      refine ⟨gK, gc, ok, ?_⟩
      have e := env_start (K := T.K) (N := N) ok rs
      rw [hv] at e
      refine e.anyO fun i hi d q => ?_
      have := hO i hi
      rw [List.getElem?_append_right (by rw [List.length_map, ← rs.len, hv]; exact this), List.getElem?_replicate] at q
      split at q <;> cases q
    refine t2 G.U G h _ _ _ w ?_
    unfold fnM at p
    have hx : T.xm = false → ∀ c xs h', body (ds.map some ++ List.replicate (N.length - n) none) h ≠ .ex c xs h' := fun hm c xs h' e => by
      unfold bnd at p
      rw [e] at p
      have := p.1
      rw [show (T.sx E).T.xm = T.xm from rfl, hm] at this
      cases this
    unfold bnd at p
    cases e : body (ds.map some ++ List.replicate (N.length - n) none) h with
    | ok f h' =>
      rw [e] at p
      intro G' y k'
      have fin : ∀ d v, (∀ a, G.U a → G'.U a) → Rep G' d v → Pst (T.sx E) G (.ok d h' : Sw.R D) (fun d _ G' => ∀ v, Rep G' d v → Q v G'.H) → Q v G'.H := fun d v b r q => by
        have l := Wd.drop_le (G := G') b
        exact q (G'.drop G.U) ⟨y.le.trans l, rfl, fun a ha => y.ow a ha⟩ (Wd.drop_ok k' b) v (r.le l)
      cases f with
      | nx Γ' => exact fun σ' en => fin _ _ en.bU .of_non p
      | rt d => exact fun v b r => fin d v b r p
    | ex c xs h' => exact absurd e (hx hm c xs h')
    | bad =>
      rw [e] at p
      exact p
/-- where a def stands -/
structure DefT (T : Tx) (at_ : Str × Option Str) (x qual : Str) (st : Stmt) : Prop where
  ex : ∃ fd, FunD T.K x qual (defArgs st) (defBody st) (defScope st) [] [] (He.fAd T.K at_) fd
/-- no exceptions -/
structure Calm (T : Tx) : Prop where
  cx : T.CX = CX0
  xm : T.xm = false
  cl : T.cl = He.ga T.K
section
variable {T : Tx} {x qual : Str} {st : Stmt} {N ps : List Str} {k n : Nat} {O : List Nat} {body : SM}
def BindsA (x qual : Str) (st : Stmt) (ps : List Str) : Prop := ∀ (kV doc pm : Value) (an : Option Addr) (cdv ct : Value) (us : List Value), us.length = ps.length → bindArgs (PySem.W.fnOf x qual (defArgs st) (defBody st) (defScope st) .none kV doc pm an cdv ct) ⟨us, []⟩ = pure (ps.zip us)
theorem mkFn (Z : Calm T) (F : DefT T (x, none) x qual st) (hg : T.mg x = some (.ref (He.ga T.K x))) (sc : FnScope N ps (defScope st)) (hb : RSs (T.fn N (defScope st) k false E0) O (defBody st) body) (bA : BindsA x qual st ps) (nd : (x == ("__debug__" : Str)) = false := by kernel_rfl) (hn : ps.length = n := by rfl) (hO : O.all (fun i => Nat.ble n i) = true := by rfl) : FnS T x (k + 1) n (fnM n N.length body) := by
  obtain ⟨fd, F⟩ := F.ex
  exact ⟨⟨_, fd, ps, hn, fn_okD F sc hn hO Z.cx Z.xm hb, hg, F.kp, F.bindsN bA⟩, nd⟩
theorem mkMt {C m : Str} (Z : Calm T) (F : DefT T (C, some m) x qual st) (hm : Meth T.K (He.ga T.K C) m (He.ma T.K (He.ga T.K C) m)) (hc : Cls T.K (He.ga T.K C)) (sc : FnScope N ps (defScope st)) (hb : RSs (T.fn N (defScope st) k false E0) O (defBody st) body) (bA : BindsA x qual st ps) (hn : ps.length = n := by rfl) (hO : O.all (fun i => Nat.ble n i) = true := by rfl) : MtS T C m (k + 1) n (fnM n N.length body) := by
  obtain ⟨fd, F⟩ := F.ex
  have e := Z.cl
  exact ⟨⟨_, fd, ps, hn, fn_okD F sc hn hO Z.cx Z.xm hb, by rw [e]; exact hm, F.bindsN bA⟩, by rw [e]; exact hc⟩
theorem mkMk {C : Str} (Z : Calm T) (F : DefT T (C, some "__init__") x qual st) (hm : Mk T.K (He.ga T.K C) (He.ma T.K (He.ga T.K C) "__init__")) (sc : FnScope N ps (defScope st)) (hb : RSs (T.fn N (defScope st) k false E0) O (defBody st) body) (bA : BindsA x qual st ps) (hg : T.mg C = some (.ref (He.ga T.K C))) (nd : (C == ("__debug__" : Str)) = false := by kernel_rfl) (hn : ps.length = n + 1 := by rfl) (hO : O.all (fun i => Nat.ble (n + 1) i) = true := by rfl) : MkS T C (k + 1) n (fnM (n + 1) N.length body) := by
  obtain ⟨fd, F⟩ := F.ex
  have e := Z.cl
  exact ⟨⟨_, fd, ps, hn, fn_okD F sc hn hO Z.cx Z.xm hb, by rw [e]; exact hm, F.bindsN bA⟩, by rw [e]; exact hg, nd⟩
end
end Sw

set_option maxHeartbeats 400000
/-! Sw, part O: what the head tells, the end. -/
namespace Sw
open PySem PySem.Spec L2
def txOf (P : Program) (w : World) (K : PySem.W.Frag) (mg : Str → Option Value) (base : Heap) : Tx := ⟨P, w, K, mg, base, CX0, He.ga K, false⟩
section
variable {P : Program} {w : World} {K : PySem.W.Frag} {mg : Str → Option Value} {base h : Heap} {fa : List He.Fa} {fn : List He.DefD}
theorem bn_of {x : Str} {v : Value} (X : K.In h) (G : h.Ns mainGlobals mg) (c : (He.Fa.free x).ok K = true) (hv : bootBuiltins x = some v := by kernel_rfl) (n1 : (x == ("__name__" : Str)) = false := by kernel_rfl) (n2 : (x == ("__debug__" : Str)) = false := by kernel_rfl) : Bn (txOf P w K mg base) x v :=
  ⟨He.free_ok X G c, hv, fun e => by rw [e] at n1; exact absurd n1 (by decide +kernel), n2⟩
theorem mn_int {x : Str} {i : Int} (X : K.In h) (G : h.Ns mainGlobals mg) (c : (He.Fa.int x i).ok K = true) (n2 : (x == ("__debug__" : Str)) = false := by kernel_rfl) : Mn (txOf P w K mg base) x (.int i) := by
  obtain ⟨t, e⟩ := He.int_ok X G c
  exact ⟨⟨.int i, _, e, ⟨t, rfl⟩, fun _ _ => .of_int⟩, n2⟩
theorem mn_str {x z : Str} (X : K.In h) (G : h.Ns mainGlobals mg) (c : (He.Fa.str x z).ok K = true) (hz : PyData.strOk z = true := by kernel_rfl) (n2 : (x == ("__debug__" : Str)) = false := by kernel_rfl) : Mn (txOf P w K mg base) x (.str z) := by
  obtain ⟨t, e⟩ := He.str_ok X G c
  exact ⟨⟨.str z, _, e, ⟨t, rfl⟩, fun _ _ => by unfold Rep; exact ⟨rfl, hz⟩⟩, n2⟩
theorem ct_of {C : Str} {fs : List Str} (c : (He.Fa.cls C).ok K = true) (cf : (fs.map (He.Fa.noat C)).all (fun f => f.ok K) = true) : CT (txOf P w K mg base) C fs :=
  ⟨He.cls_ok c, fun f hf => He.noat_ok (List.all_eq_true.mp cf _ (List.mem_map_of_mem hf))⟩
theorem all_nil : (([] : List He.Fa)).all (fun f => f.ok K) = true := rfl
theorem all_cons {f : He.Fa} {r : List He.Fa} (h1 : f.ok K = true) (h2 : r.all (fun f => f.ok K) = true) : (f :: r).all (fun f => f.ok K) = true := by
  rw [List.all_cons, h1, h2]
  rfl
theorem def_of {at_ : Str × Option Str} {x qual : Str} {st : Stmt} (c : He.SaysD fa fn K) (i : Nat) (h : fn[i]? = some ⟨at_, x, qual, defArgs st, defBody st, defScope st, [], []⟩) : DefT (txOf P w K mg base) at_ x qual st := ⟨c.def_ i h⟩
/-- the law's def, from its shadow: the script alone stands for something -/
theorem law_sp {f : List D → M D} {H : Hp} {a : Addr} {ns : List Int} {h' : PH} (hl : ns.length ≤ 63) (hS : SqL K H a (ns.map V.int)) (e : f [.rd ns] [] = .ok (.bl true) h') :
    spM (txOf P w K mg base) 1 f [.ref a] H (fun v _ => v = .bl true) fun _ _ _ => False := by
  let G : Wd := ⟨K, He.ga K, fun _ => False, [], H⟩
  have hz : (ns.map V.int).length ≤ sizeLine := by
    rw [List.length_map]
    exact Nat.le_trans hl (by decide)
  refine ⟨rfl, G, [], [.rd ns], rfl, rfl, ⟨rfl, List.nodup_nil, fun a h => h.elim, fun n a o h _ => by simp [G] at h⟩, rfl, ?_, ?_⟩
  · refine .one ?_
    unfold Rep
    refine ⟨a, rfl, ?_⟩
    rcases hS with hS | ⟨o, its, n, q1, q2, q3, q4, q5, q6⟩
    · exact .inl ⟨hS, by simp [G], fun h => h, hz⟩
    · exact .inr ⟨o, its, n, q1, q2, q3, q4, q5, q6⟩
  · rw [e]
    intro G' _ _ v r
    exact r.bl_inv
end
end Sw

set_option maxHeartbeats 400000
/-! Sw, part P: reckoning with shadows: what a run ends in. -/
namespace Sw
open PySem PySem.Spec L2
variable {α β : Type}
def wp (r : R α) (Q : α → PH → Prop) : Prop := match r with
  | .ok a h => Q a h
  | _ => False
@[simp] theorem wp_ok {a : α} {h : PH} {Q : α → PH → Prop} : wp (.ok a h) Q = Q a h := rfl
@[simp] theorem wp_bad {Q : α → PH → Prop} : wp (.bad : R α) Q = False := rfl
@[simp] theorem wp_ex {c : Str} {xs : List D} {h : PH} {Q : α → PH → Prop} : wp (.ex c xs h : R α) Q = False := rfl
theorem wp_mono {r : R α} {Q Q' : α → PH → Prop} (p : wp r Q) (f : ∀ a h, Q a h → Q' a h) : wp r Q' := by
  cases r with
  | ok a h => exact f a h p
  | ex c xs h => exact p
  | bad => exact p
theorem wp_eq {r : R α} {Q : α → PH → Prop} : wp r Q ↔ ∃ a h, r = .ok a h ∧ Q a h := by
  cases r with
  | ok a h => exact ⟨fun p => ⟨a, h, rfl, p⟩, fun ⟨a', h', e, p⟩ => by cases e; exact p⟩
  | ex c xs h => exact ⟨fun p => p.elim, fun ⟨_, _, e, _⟩ => by cases e⟩
  | bad => exact ⟨fun p => p.elim, fun ⟨_, _, e, _⟩ => by cases e⟩
theorem wp_of {r : R α} {a : α} {h : PH} {Q : α → PH → Prop} (e : r = .ok a h) (p : Q a h) : wp r Q := by rw [e]; exact p
@[simp] theorem wp_bnd {m : M α} {f : α → M β} {h : PH} {Q : β → PH → Prop} : wp (bnd m f h) Q = wp (m h) (fun a h' => wp (f a h') Q) := by
  unfold bnd
  cases m h <;> rfl
@[simp] theorem wp_pur {a : α} {h : PH} {Q : α → PH → Prop} : wp (pur a h) Q = Q a h := rfl
@[simp] theorem wp_mbad {h : PH} {Q : α → PH → Prop} : wp ((bad : M α) h) Q = False := rfl
theorem wp_ite {p : Prop} [Decidable p] {m m' : M α} {h : PH} {Q : α → PH → Prop} : wp ((if p then m else m') h) Q = if p then wp (m h) Q else wp (m' h) Q := by
  by_cases e : p <;> simp [e]
section
variable {Γ : Env} {h : PH} {Q : D → PH → Prop} {a b c : EM}
@[simp] theorem wp_gC {d : D} : wp (gC d Γ h) Q = Q d h := rfl
@[simp] theorem wp_gV {i : Nat} : wp (gV i Γ h) Q = (match Γ[i]? with
  | some (some d) => Q d h
  | _ => False) := by
  unfold gV
  cases e : Γ[i]? with
  | none => rfl
  | some o => cases o <;> rfl
@[simp] theorem wp_g2 {f : D → D → M D} : wp (g2 f a b Γ h) Q = wp (a Γ h) (fun x h => wp (b Γ h) fun y h => wp (f x y h) Q) := by
  unfold g2
  simp only [wp_bnd, wp_ite, wp_pur, wp_ok]
@[simp] theorem wp_g1 {f : D → M D} : wp (g1 f a Γ h) Q = wp (a Γ h) (fun x h => wp (f x h) Q) := by
  unfold g1
  simp only [wp_bnd, wp_ite, wp_pur, wp_ok]
@[simp] theorem wp_isB {d : Bool} {Q : Bool → PH → Prop} : wp (isB (.bl d) h) Q = Q d h := rfl
@[simp] theorem wp_tB {Q : Bool → PH → Prop} : wp (tB a Γ h) Q = wp (a Γ h) (fun d h => wp (isB d h) Q) := by
  unfold tB
  simp only [wp_bnd, wp_ite, wp_pur, wp_ok]
@[simp] theorem wp_gChain {f f' : D → D → M D} : wp (gChain f f' a b c Γ h) Q = wp (a Γ h) fun x h => wp (b Γ h) fun y h => wp (f x y h) fun d h => wp (isB d h) fun k h => if k = true then wp (c Γ h) (fun z h => wp (f' y z h) Q) else Q (.bl false) h := by
  unfold gChain
  simp only [wp_bnd, wp_ite, wp_pur]
@[simp] theorem wp_tNt {t : TM} {Q : Bool → PH → Prop} : wp (tNt t Γ h) Q = wp (t Γ h) fun k h => Q (!k) h := by
  unfold tNt
  simp only [wp_bnd, wp_ite, wp_pur, wp_ok]
@[simp] theorem wp_tAn {s t : TM} {Q : Bool → PH → Prop} : wp (tAn s t Γ h) Q = wp (s Γ h) fun k h => if k = true then wp (t Γ h) Q else Q false h := by
  unfold tAn
  simp only [wp_bnd, wp_ite, wp_pur]
@[simp] theorem wp_tOrr {s t : TM} {Q : Bool → PH → Prop} : wp (tOrr s t Γ h) Q = wp (s Γ h) fun k h => if k = true then Q true h else wp (t Γ h) Q := by
  unfold tOrr
  simp only [wp_bnd, wp_ite, wp_pur]
@[simp] theorem wp_gAn : wp (gAn a b Γ h) Q = wp (a Γ h) fun d h => wp (isB d h) fun k h => if k = true then wp (b Γ h) Q else Q (.bl false) h := by
  unfold gAn
  simp only [wp_bnd, wp_tB, wp_ite, wp_pur]
@[simp] theorem wp_gOr : wp (gOr a b Γ h) Q = wp (a Γ h) fun d h => wp (isB d h) fun k h => if k = true then Q (.bl true) h else wp (b Γ h) Q := by
  unfold gOr
  simp only [wp_bnd, wp_tB, wp_ite, wp_pur]
@[simp] theorem wp_gNt : wp (gNt a Γ h) Q = wp (a Γ h) fun d h => wp (isB d h) fun k h => Q (.bl (!k)) h := by
  unfold gNt
  simp only [wp_bnd, wp_tB, wp_ite, wp_pur, wp_ok]
@[simp] theorem wp_gIf {t : TM} : wp (gIf t a b Γ h) Q = wp (t Γ h) fun k h => if k = true then wp (a Γ h) Q else wp (b Γ h) Q := by
  unfold gIf
  simp only [wp_bnd, wp_ite, wp_pur]
@[simp] theorem wp_seqA0 {Q : List D → PH → Prop} : wp (seqA [] Γ h) Q = Q [] h := rfl
@[simp] theorem wp_seqA1 {m : EM} {ms : List EM} {Q : List D → PH → Prop} : wp (seqA (m :: ms) Γ h) Q = wp (m Γ h) fun x h => wp (seqA ms Γ h) fun xs h => Q (x :: xs) h := by
  show wp (bnd (m Γ) (fun x => bnd (seqA ms Γ) fun xs => pur (x :: xs)) h) Q = _
  simp only [wp_bnd, wp_ite, wp_pur, wp_ok]
@[simp] theorem wp_gTup {ms : List EM} : wp (gTup ms Γ h) Q = wp (seqA ms Γ h) fun xs h => Q (.tup xs) h := by
  unfold gTup
  simp only [wp_bnd, wp_ite, wp_pur, wp_ok]
@[simp] theorem wp_gVal {m : LM} : wp (gVal m Γ h) Q = wp (m Γ h) fun xs h => Q (.lst xs) h := by
  unfold gVal
  simp only [wp_bnd, wp_ite, wp_pur, wp_ok]
@[simp] theorem wp_gNew {m : LM} : wp (gNew m Γ h) Q = wp (m Γ h) fun xs h => Q (.ref h.length) (h ++ [.lst xs]) := by
  unfold gNew
  simp [newL]
@[simp] theorem wp_oNo {Q : Option Int → PH → Prop} : wp (oNo Γ h) Q = Q none h := rfl
@[simp] theorem wp_oSome {Q : Option Int → PH → Prop} : wp (oSome a Γ h) Q = wp (a Γ h) fun d h => (match d with
  | .int i => Q (some i) h
  | _ => False) := by
  unfold oSome
  simp only [wp_bnd]
  congr
  funext d h
  cases d <;> rfl
@[simp] theorem wp_lSl {l u : Env → M (Option Int)} {Q : List D → PH → Prop} : wp (lSl a l u Γ h) Q = wp (a Γ h) fun x h => wp (l Γ h) fun i h => wp (u Γ h) fun j h => (match lAdd.seqL h x with
  | some xs => Q (cutD xs i j) h
  | none => False) := by
  unfold lSl
  simp only [wp_bnd]
  congr
  funext x h
  congr
  funext i h
  congr
  funext j h
  cases lAdd.seqL h x <;> rfl
@[simp] theorem wp_gDict0 : wp (gDict0 Γ h) Q = Q (.ref h.length) (h ++ [.dct []]) := rfl
@[simp] theorem wp_gCall {f : List D → M D} {ms : List EM} : wp (gCall f ms Γ h) Q = wp (seqA ms Γ h) fun xs h => wp (f xs h) Q := by
  unfold gCall
  simp only [wp_bnd, wp_ite, wp_pur, wp_ok]
/-- a field's value -/
def fldOf (C f : Str) (d : D) (h : PH) : Option D := match d with
  | .ref n => (match h[n]? with
    | some (.ins C' fs) => if C' = C then getD_ fs f else none
    | _ => none)
  | _ => none
@[simp] theorem wp_gFld {C f : Str} : wp (gFld C f a Γ h) Q = wp (a Γ h) fun d h => (match fldOf C f d h with
  | some x => Q x h
  | none => False) := by
  unfold gFld
  simp only [wp_bnd, wp_ite, wp_pur, wp_ok]
  congr
  funext d h
  unfold fldOf
  cases d with
  | ref n =>
    simp only
    cases e : h[n]? with
    | none => simp
    | some o =>
      cases o with
      | ins C' fs =>
        by_cases q : C' = C
        · simp only [q, if_pos]
          cases getD_ fs f <;> simp
        · simp [q]
      | _ => simp
  | _ => simp
@[simp] theorem wp_gMake {C : Str} {f : List D → M D} {ms : List EM} : wp (gMake C f ms Γ h) Q = wp (seqA ms Γ h) fun ds h => wp (f (.ref h.length :: ds) (h ++ [.ins C []])) fun d h' => d = .non ∧ Q (.ref h.length) h' := by
  unfold gMake
  simp only [wp_bnd, wp_ite, wp_pur, wp_ok]
  congr
  funext ds h1
  split <;> simp_all
/-- what a method is asked of -/
def isIns (C m : Str) (d : D) (h : PH) : Prop := ∃ n fs, d = .ref n ∧ h[n]? = some (.ins C fs) ∧ (getD_ fs m).isNone = true
theorem wp_gMeth_ {C m : Str} {f : List D → M D} {ms : List EM} : wp (gMeth C m f a ms Γ h) Q = wp (a Γ h) fun d h => (match d with
  | .ref n => (match h[n]? with
    | some (.ins C' fs) => (C' = C ∧ (getD_ fs m).isNone = true) ∧ wp (seqA ms Γ h) fun ds h => wp (f (d :: ds) h) Q
    | _ => False)
  | _ => False) := by
  unfold gMeth
  simp only [wp_bnd]
  congr
  funext d h
  cases d with
  | ref n =>
    simp only
    cases h[n]? with
    | none => rfl
    | some o =>
      cases o with
      | ins C' fs =>
        by_cases e : C' = C ∧ (getD_ fs m).isNone = true
        · simp only [if_pos e, wp_bnd, true_and]
          exact (propext ⟨fun q => ⟨e, q⟩, fun q => q.2⟩)
        · simp only [if_neg e, wp_bad]
          exact (propext ⟨fun q => q.elim, fun q => e q.1⟩)
      | _ => rfl
  | _ => rfl
theorem wp_gMeth {C m : Str} {f : List D → M D} {ms : List EM} {d : D} (e : ∀ Q, wp (a Γ h) Q = Q d h) (i : isIns C m d h) : wp (gMeth C m f a ms Γ h) Q = wp (seqA ms Γ h) fun ds h => wp (f (d :: ds) h) Q := by
  obtain ⟨n, fs, rfl, i1, i2⟩ := i
  unfold gMeth
  rw [wp_bnd, e]
  simp [i1, i2]
@[simp] theorem wp_gLm {f : PH → List D → List D → Option (D × List D)} {ms : List EM} : wp (gLm f a ms Γ h) Q = wp (a Γ h) fun d h => isLstD h d = true ∧ wp (seqA ms Γ h) fun ys h => (match d with
  | .ref n => (match h[n]? with
    | some (.lst xs) => (match f h xs ys with
      | some (x, zs) => Q x (h.set n (.lst zs))
      | none => False)
    | _ => False)
  | _ => False) := by
  unfold gLm
  simp only [wp_bnd, wp_ite, wp_pur, wp_ok]
  congr
  funext d h
  by_cases e : isLstD h d = true
  · simp only [e, if_pos, true_and, wp_bnd]
    refine congrArg (wp (seqA ms Γ h)) ?_
    funext ys h
    cases d with
    | ref n =>
      simp
      cases q : h[n]? with
      | none => simp
      | some o =>
        cases o with
        | lst xs =>
          simp
          cases f h xs ys <;> simp
        | _ => simp
    | _ => simp
  · simp [e]
end
/-! ### values -/
section
variable {h : PH} {Q : D → PH → Prop} {i j : Int}
@[simp] theorem wp_add : wp (dAdd (.int i) (.int j) h) Q = Q (.int (i + j)) h := rfl
@[simp] theorem wp_sub : wp (dSub (.int i) (.int j) h) Q = Q (.int (i - j)) h := rfl
@[simp] theorem wp_mul : wp (dMul (.int i) (.int j) h) Q = ((i.natAbs < 2 ^ 64 ∨ j.natAbs < 2 ^ 64) ∧ Q (.int (i * j)) h) := by
  unfold dMul
  by_cases e : i.natAbs < 2 ^ 64 ∨ j.natAbs < 2 ^ 64
  · simp only [e, if_pos, true_and]; rfl
  · simp only [e, if_neg, false_and]; rfl
@[simp] theorem wp_mod : wp (dMod (.int i) (.int j) h) Q = (0 < j ∧ Q (.int (i % j)) h) := by
  unfold dMod i2c
  by_cases e : 0 < j <;> simp [e]
@[simp] theorem wp_div : wp (dDiv (.int i) (.int j) h) Q = ((0 < j ∧ j < 1073741824) ∧ Q (.int (i / j)) h) := by
  unfold dDiv i2c
  by_cases e : 0 < j ∧ j < 1073741824 <;> simp [e]
@[simp] theorem wp_pow : wp (dPow (.int i) (.int j) h) Q = ((0 ≤ j ∧ j ≤ 1000000 ∧ i.natAbs < 2 ^ 64) ∧ Q (.int (i ^ j.toNat)) h) := by
  unfold dPow i2c
  by_cases e : 0 ≤ j ∧ j ≤ 1000000 ∧ i.natAbs < 2 ^ 64 <;> simp only [e, and_self, decide_true, decide_false, if_pos, if_neg, true_and, false_and, not_false_eq_true] <;> simp_all
@[simp] theorem wp_lt : wp (dLt (.int i) (.int j) h) Q = Q (.bl (decide (i < j))) h := rfl
@[simp] theorem wp_le : wp (dLe (.int i) (.int j) h) Q = Q (.bl (decide (i ≤ j))) h := rfl
@[simp] theorem wp_gt : wp (dGt (.int i) (.int j) h) Q = Q (.bl (decide (j < i))) h := rfl
@[simp] theorem wp_ge : wp (dGe (.int i) (.int j) h) Q = Q (.bl (decide (j ≤ i))) h := rfl
@[simp] theorem wp_eqI : wp (dEq (.int i) (.int j) h) Q = Q (.bl (decide (i = j))) h := by
  have e : (i == j) = decide (i = j) := by by_cases q : i = j <;> simp [q]
  unfold dEq
  simp [dat, PyData.eqv, PyData.depth, e]
@[simp] theorem wp_neI : wp (dNe (.int i) (.int j) h) Q = Q (.bl (!decide (i = j))) h := by
  have e : (i == j) = decide (i = j) := by by_cases q : i = j <;> simp [q]
  unfold dNe
  simp [dat, PyData.eqv, PyData.depth, e]
@[simp] theorem wp_eqS {x y : Str} : wp (dEq (.str x) (.str y) h) Q = Q (.bl (decide (x = y))) h := by
  have e : (x == y) = decide (x = y) := by by_cases q : x = y <;> simp [q]
  unfold dEq
  simp [dat, PyData.eqv, PyData.depth, e]
@[simp] theorem wp_neS {x y : Str} : wp (dNe (.str x) (.str y) h) Q = Q (.bl (!decide (x = y))) h := by
  have e : (x == y) = decide (x = y) := by by_cases q : x = y <;> simp [q]
  unfold dNe
  simp [dat, PyData.eqv, PyData.depth, e]
@[simp] theorem wp_eqB {x y : Bool} : wp (dEq (.bl x) (.bl y) h) Q = Q (.bl (x == y)) h := by
  unfold dEq
  simp [dat, PyData.eqv, PyData.depth]
theorem datL_ints {rf : Nat → Option PyData} : ∀ xs : List Int, datL rf (xs.map D.int) = some (xs.map PyData.int)
  | [] => rfl
  | x :: xs => by
    rw [List.map_cons]
    unfold datL
    rw [datL_ints xs]
    rfl
theorem eqvAll_ints : ∀ xs ys : List Int, PyData.eqvAll (xs.map PyData.int) (ys.map PyData.int) = decide (xs = ys)
  | [], [] => rfl
  | [], y :: ys => by simp [PyData.eqvAll]
  | x :: xs, [] => by simp [PyData.eqvAll]
  | x :: xs, y :: ys => by
    rw [List.map_cons, List.map_cons]
    unfold PyData.eqvAll
    rw [eqvAll_ints xs ys]
    unfold PyData.eqv
    by_cases e : x = y <;> by_cases q : xs = ys <;> simp [e, q]
theorem depth_ints : ∀ xs : List Int, PyData.depthAll (xs.map PyData.int) ≤ 1
  | [] => by simp [PyData.depthAll]
  | x :: xs => by
    have := depth_ints xs
    rw [List.map_cons]
    unfold PyData.depthAll
    have : PyData.depth (.int x) ≤ 1 := by simp [PyData.depth]
    omega
theorem eqLI {xs ys : List Int} : wp (dEq (.lst (xs.map D.int)) (.lst (ys.map D.int)) h) Q = Q (.bl (decide (xs = ys))) h := by
  have d1 := depth_ints xs
  have : min (1 + PyData.depthAll (xs.map PyData.int)) (1 + PyData.depthAll (ys.map PyData.int)) ≤ 64 := by omega
  unfold dEq
  simp only [dat, datL_ints, Option.map_some, PyData.eqv, PyData.depth, eqvAll_ints]
  rw [if_pos (by omega)]
  rfl
theorem neLI {xs ys : List Int} : wp (dNe (.lst (xs.map D.int)) (.lst (ys.map D.int)) h) Q = Q (.bl (!decide (xs = ys))) h := by
  have d1 := depth_ints xs
  unfold dNe
  simp only [dat, datL_ints, Option.map_some, PyData.eqv, PyData.depth, eqvAll_ints]
  rw [if_pos (by omega)]
  rfl
theorem neL0 {xs : List Int} : wp (dNe (.lst (xs.map D.int)) (.lst []) h) Q = Q (.bl (!decide (xs = []))) h := neLI (ys := [])
@[simp] theorem wp_isN {d : D} : wp (dIsN d .non h) Q = Q (.bl (isNonD d)) h := by
  unfold dIsN isNonD
  cases d <;> rfl
@[simp] theorem wp_isNot {d : D} : wp (dIsNot d .non h) Q = Q (.bl (!isNonD d)) h := by
  unfold dIsNot isNonD
  cases d <;> rfl
@[simp] theorem isNon_int : isNonD (.int i) = false := rfl
@[simp] theorem isNon_non : isNonD .non = true := rfl
@[simp] theorem wp_ixT {xs : List D} : wp (dIx (.tup xs) (.int i) h) Q = (match atI xs i with
  | some d => Q d h
  | none => False) := by
  show wp (match atI xs i with
    | some d => (.ok d h : R D)
    | none => .bad) Q = _
  cases atI xs i <;> rfl
@[simp] theorem wp_ixL {xs : List D} : wp (dIx (.lst xs) (.int i) h) Q = (match atI xs i with
  | some d => Q d h
  | none => False) := by
  show wp (match atI xs i with
    | some d => (.ok d h : R D)
    | none => .bad) Q = _
  cases atI xs i <;> rfl
@[simp] theorem wp_ixR {xs : List Int} : wp (dIx (.rd xs) (.int i) h) Q = (match atI (xs.map D.int) i with
  | some d => Q d h
  | none => False) := by
  show wp (match atI (xs.map D.int) i with
    | some d => (.ok d h : R D)
    | none => .bad) Q = _
  cases atI (xs.map D.int) i <;> rfl
theorem wp_ixO {xs : List D} {n : Nat} (e : h[n]? = some (.lst xs)) : wp (dIx (.ref n) (.int i) h) Q = (match atI xs i with
  | some d => Q d h
  | none => False) := by
  unfold dIx
  simp only [e]
  show wp (match atI xs i with
    | some d => (.ok d h : R D)
    | none => .bad) Q = _
  cases atI xs i <;> rfl
theorem wp_ixRef {n : Nat} {y : D} : wp (dIx (.ref n) y h) Q = (match h[n]? with
  | some (.lst xs) => wp (ixS xs y h) Q
  | some (.dct kvs) => wp (ixK kvs y h) Q
  | _ => False) := by
  unfold dIx
  simp only
  cases h[n]? with
  | none => rfl
  | some o => cases o <;> rfl
@[simp] theorem wp_ixS {xs : List D} : wp (ixS xs (.int i) h) Q = (match atI xs i with
  | some d => Q d h
  | none => False) := by
  unfold ixS
  simp only
  cases atI xs i <;> rfl
@[simp] theorem wp_ixK {kvs : List (Key × D)} {y : D} : wp (ixK kvs y h) Q = (match keyD y with
  | some k => (match getD_ kvs k with
    | some d => Q d h
    | none => False)
  | none => False) := by
  unfold ixK
  cases keyD y with
  | none => rfl
  | some k =>
    simp only
    cases getD_ kvs k <;> rfl
theorem wp_lenRef {n : Nat} : wp (dLen (.ref n) h) Q = (match h[n]? with
  | some (.lst xs) => Q (.int xs.length) h
  | _ => False) := by
  unfold dLen seqD
  simp only
  cases h[n]? with
  | none => rfl
  | some o => cases o <;> rfl
theorem wp_inRef {n : Nat} {d : D} {kvs : List (Key × D)} (e : h[n]? = some (.dct kvs)) : wp (dIn d (.ref n) h) Q = (match keyD d with
  | some k => Q (.bl (getD_ kvs k).isSome) h
  | none => False) := by
  unfold dIn dInB
  simp only [e]
  unfold inK
  cases keyD d <;> rfl
theorem ixN_nat {n k : Nat} (e : k < n) : ixN n (k : Int) = some k := by
  unfold ixN
  rw [if_pos (by omega), if_pos (by omega), Int.toNat_natCast]
theorem atI_nat {xs : List D} {k : Nat} : atI xs (k : Int) = xs[k]? := by
  unfold atI
  by_cases e : k < xs.length
  · rw [ixN_nat e]
    rfl
  · have : ixN xs.length (k : Int) = none := by
      unfold ixN
      rw [if_pos (by omega)]
      simp
      omega
    rw [this, List.getElem?_eq_none (by omega)]
    rfl
theorem wp_ixON {xs : List D} {n k : Nat} {d : D} (e : h[n]? = some (.lst xs)) (q : xs[k]? = some d) : wp (dIx (.ref n) (.int (k : Int)) h) Q = Q d h := by
  rw [wp_ixO e, atI_nat, q]
@[simp] theorem wp_lenL {xs : List D} : wp (dLen (.lst xs) h) Q = Q (.int xs.length) h := rfl
@[simp] theorem wp_lenT {xs : List D} : wp (dLen (.tup xs) h) Q = Q (.int xs.length) h := rfl
@[simp] theorem wp_lenR {xs : List Int} : wp (dLen (.rd xs) h) Q = Q (.int xs.length) h := by
  show Q (.int ((xs.map D.int).length : Nat)) h = _
  rw [List.length_map]
theorem wp_lenO {xs : List D} {n : Nat} (e : h[n]? = some (.lst xs)) : wp (dLen (.ref n) h) Q = Q (.int xs.length) h := by
  unfold dLen seqD
  simp only [e]
  rfl
@[simp] theorem wp_isInt : wp (isTy "int" (.int i) h) Q = Q (.bl true) h := rfl
@[simp] theorem wp_isBool : wp (isTy "bool" (.int i) h) Q = Q (.bl false) h := rfl
@[simp] theorem wp_max : wp (bMax [.int i, .int j] h) Q = Q (.int (if j > i then j else i)) h := rfl
@[simp] theorem wp_min : wp (bMin [.int i, .int j] h) Q = Q (.int (if j < i then j else i)) h := rfl
theorem intsD_map : ∀ xs : List Int, intsD (xs.map D.int) = some xs
  | [] => rfl
  | x :: xs => by
    rw [List.map_cons]
    unfold intsD
    rw [intsD_map xs]
    rfl
theorem wp_sumL {xs : List Int} : wp (dSum (.lst (xs.map D.int)) h) Q = Q (.int xs.sum) h := by
  unfold dSum lAdd.seqL
  simp only [intsD_map]
  rfl
/-- k in a dict -/
theorem wp_inK {n : Nat} {kvs : List (Key × D)} {k : Key} {d : D} (e : h[n]? = some (.dct kvs)) (hk : keyD d = some k) : wp (dIn d (.ref n) h) Q = Q (.bl (getD_ kvs k).isSome) h := by
  unfold dIn dInB
  simp only [e]
  unfold inK
  simp only [hk]
  rfl
end
/-! ### statements -/
section
variable {Γ : Env} {h : PH} {Q : Fl → PH → Prop} {a b : SM}
@[simp] theorem wp_sNil : wp (sNil Γ h) Q = Q (.nx Γ) h := rfl
@[simp] theorem wp_sBad : wp (sBad Γ h) Q = False := rfl
@[simp] theorem wp_sSeq : wp (sSeq a b Γ h) Q = wp (a Γ h) (fun f h => match f with
  | .nx Γ' => wp (b Γ' h) Q
  | .rt d => Q (.rt d) h) := by
  unfold sSeq
  simp only [wp_bnd, wp_ite, wp_pur, wp_ok]
  congr
  funext f h
  cases f <;> rfl
@[simp] theorem wp_sExpr {m : EM} : wp (sExpr m Γ h) Q = wp (m Γ h) fun _ h => Q (.nx Γ) h := by
  unfold sExpr
  simp only [wp_bnd, wp_ite, wp_pur, wp_ok]
@[simp] theorem wp_sRet {m : EM} : wp (sRet m Γ h) Q = wp (m Γ h) fun d h => Q (.rt d) h := by
  unfold sRet
  simp only [wp_bnd, wp_ite, wp_pur, wp_ok]
@[simp] theorem wp_sRetN : wp (sRetN Γ h) Q = Q (.rt .non) h := rfl
@[simp] theorem wp_sIf {t : TM} : wp (sIf t a b Γ h) Q = wp (t Γ h) fun k h => if k = true then wp (a Γ h) Q else wp (b Γ h) Q := by
  unfold sIf
  simp only [wp_bnd, wp_ite, wp_pur]
@[simp] theorem wp_sSet {i : Nat} {m : EM} : wp (sSet i m Γ h) Q = wp (m Γ h) fun d h => Q (.nx (Γ.set i (some d))) h := by
  unfold sSet
  simp only [wp_bnd, wp_ite, wp_pur, wp_ok]
@[simp] theorem wp_sOwn {i : Nat} {m : LM} : wp (sOwn i m Γ h) Q = wp (m Γ h) fun xs h => Q (.nx (Γ.set i (some (.lst xs)))) h := by
  unfold sOwn
  simp only [wp_bnd, wp_ite, wp_pur, wp_ok]
theorem wp_sOwnM {f : PH → List D → List D → Option (D × List D)} {i : Nat} {ms : List EM} {xs : List D} (e : Γ[i]? = some (some (.lst xs))) : wp (sOwnM f i ms Γ h) Q = wp (seqA ms Γ h) fun ys h => (match f h xs ys with
  | some (_, zs) => Q (.nx (Γ.set i (some (.lst zs)))) h
  | none => False) := by
  unfold sOwnM
  simp only [e, wp_bnd]
  congr
  funext ys h
  cases f h xs ys <;> rfl
/-- a field put -/
def putO (C f : Str) (d o : D) (h : PH) : Option PH := match o with
  | .ref n => (match h[n]? with
    | some (.ins C' fs) => if C' = C ∧ fs.length < 1000 then some (h.set n (.ins C (putFD f d fs))) else none
    | _ => none)
  | _ => none
theorem wp_putFld {C f : Str} {d o : D} {Q : Unit → PH → Prop} : wp (putFld C f d o h) Q = (match putO C f d o h with
  | some h' => Q () h'
  | none => False) := by
  unfold putFld putO
  cases o with
  | ref n =>
    simp only
    cases e : h[n]? with
    | none => simp
    | some ob =>
      cases ob with
      | ins C' fs =>
        by_cases q : C' = C ∧ fs.length < 1000
        · simp [q]
        · simp only [if_neg q, wp_bad]
      | _ => simp
  | _ => simp
@[simp] theorem wp_sFld {C f : Str} {o m : EM} : wp (Sw.sFld C f o m Γ h) Q = wp (m Γ h) fun d h => wp (o Γ h) fun x h => (match putO C f d x h with
  | some h' => Q (.nx Γ) h'
  | none => False) := by
  unfold Sw.sFld
  simp only [wp_bnd, wp_ite, wp_pur, wp_ok]
  congr
  funext d h
  congr
  funext x h
  rw [wp_putFld]
@[simp] theorem wp_sAsg {m : EM} {g : GM} : wp (sAsg m g Γ h) Q = wp (m Γ h) fun d h => wp (g d Γ h) fun Γ' h => Q (.nx Γ') h := by
  unfold sAsg
  simp only [wp_bnd, wp_ite, wp_pur, wp_ok]
end
section
variable {Γ : Env} {h : PH} {Q : Env → PH → Prop} {d : D}
@[simp] theorem wp_tgName {i : Nat} : wp (tgName i d Γ h) Q = Q (Γ.set i (some d)) h := rfl
@[simp] theorem wp_tgNil : wp (tgNil [] Γ h) Q = Q Γ h := rfl
@[simp] theorem wp_tgCons {a : GM} {b : List D → Env → M Env} {r : List D} : wp (tgCons a b (d :: r) Γ h) Q = wp (a d Γ h) fun Γ' h => wp (b r Γ' h) Q := by
  unfold tgCons
  simp only [wp_bnd, wp_ite, wp_pur, wp_ok]
@[simp] theorem wp_tgTup {n : Nat} {b : List D → Env → M Env} {xs : List D} : wp (tgTup n b (.tup xs) Γ h) Q = (xs.length = n ∧ wp (b xs Γ h) Q) := by
  unfold tgTup seqD
  by_cases e : xs.length = n <;> simp [e]
@[simp] theorem wp_tgTupL {n : Nat} {b : List D → Env → M Env} {xs : List D} : wp (tgTup n b (.lst xs) Γ h) Q = (xs.length = n ∧ wp (b xs Γ h) Q) := by
  unfold tgTup seqD
  by_cases e : xs.length = n <;> simp [e]
@[simp] theorem wp_tgFld {C f : Str} {o : EM} : wp (tgFld C f o d Γ h) Q = wp (o Γ h) fun x h => (match putO C f d x h with
  | some h' => Q Γ h'
  | none => False) := by
  unfold tgFld
  simp only [wp_bnd, wp_ite, wp_pur, wp_ok]
  congr
  funext x h
  rw [wp_putFld]
@[simp] theorem wp_tgSub {o i : EM} : wp (tgSub o i d Γ h) Q = wp (o Γ h) fun x h => wp (i Γ h) fun y h => wp (setIx x y d h) fun _ h => Q Γ h := by
  unfold tgSub
  simp only [wp_bnd, wp_ite, wp_pur, wp_ok]
theorem wp_setRef {n : Nat} {i : D} {Q : Unit → PH → Prop} : wp (setIx (.ref n) i d h) Q = (match h[n]? with
  | some (.lst xs) => (match i with
    | .int k => (match ixN xs.length k with
      | some j => Q () (h.set n (.lst (xs.set j d)))
      | none => False)
    | _ => False)
  | some (.dct kvs) => (match keyD i with
    | some k => kvs.length < 16777216 ∧ Q () (h.set n (.dct (putD_ kvs k d)))
    | none => False)
  | _ => False) := by
  unfold setIx
  simp only
  cases h[n]? with
  | none => rfl
  | some o =>
    cases o with
    | lst xs =>
      cases i with
      | int k =>
        simp only
        cases ixN xs.length k <;> rfl
      | _ => rfl
    | dct kvs =>
      simp only
      cases keyD i with
      | none => rfl
      | some k =>
        simp only
        by_cases e : kvs.length < 16777216 <;> simp [e]
    | _ => rfl
theorem wp_setL {n : Nat} {xs : List D} {k j : Nat} {Q : Unit → PH → Prop} (e : h[n]? = some (.lst xs)) (q : ixN xs.length (k : Int) = some j) : wp (setIx (.ref n) (.int k) d h) Q = Q () (h.set n (.lst (xs.set j d))) := by
  unfold setIx
  simp only [e, q]
  rfl
theorem wp_setK {n : Nat} {kvs : List (Key × D)} {k : Key} {i : D} {Q : Unit → PH → Prop} (e : h[n]? = some (.dct kvs)) (hk : keyD i = some k) (hl : kvs.length < 16777216) : wp (setIx (.ref n) i d h) Q = Q () (h.set n (.dct (putD_ kvs k d))) := by
  unfold setIx
  simp only [e, hk, if_pos hl]
  rfl
end
/-! ### a def -/
@[simp] theorem wp_fnM {n m : Nat} {b : SM} {ds : List D} {h : PH} {Q : D → PH → Prop} : wp (fnM n m b ds h) Q = wp (b (ds.map some ++ List.replicate (m - n) none) h) fun f h => (match f with
  | .nx _ => Q .non h
  | .rt d => Q d h) := by
  unfold fnM
  simp only [wp_bnd, wp_ite, wp_pur, wp_ok]
  congr
  funext f h
  cases f <;> rfl
/-! ### loops -/
section
variable {h : PH} {Q : Fl → PH → Prop}
theorem wp_loopV {b : D → Env → M Fl} (I : List D → Env → PH → Prop) (hs : ∀ x r Γ h, I (x :: r) Γ h → wp (b x Γ h) fun f h' => match f with
    | .nx Γ' => I r Γ' h'
    | .rt d => Q (.rt d) h') (he : ∀ Γ h, I [] Γ h → Q (.nx Γ) h) : ∀ (xs : List D) (Γ : Env) (h : PH), I xs Γ h → wp (loopV b xs Γ h) Q
  | [], Γ, h, i => he Γ h i
  | x :: xs, Γ, h, i => by
    unfold loopV
    rw [wp_bnd]
    refine wp_mono (hs x xs Γ h i) fun f h' q => ?_
    cases f with
    | nx Γ' => exact wp_loopV I hs he xs Γ' h' q
    | rt d => exact q
theorem wp_loopR {b : D → Env → M Fl} {n : Nat} {xs : List D} (I : Nat → Env → PH → Prop) (hn : ∀ i Γ h, I i Γ h → h[n]? = some (.lst xs)) (hs : ∀ i x Γ h, I i Γ h → xs[i]? = some x → wp (b x Γ h) fun f h' => match f with
    | .nx Γ' => I (i + 1) Γ' h'
    | .rt d => Q (.rt d) h') (he : ∀ Γ h, I xs.length Γ h → Q (.nx Γ) h) : ∀ (fuel i : Nat) (Γ : Env) (h : PH), i ≤ xs.length → xs.length ≤ i + fuel → I i Γ h → wp (loopR b n fuel i Γ h) Q
  | fuel, i, Γ, h, hi, hf, q => by
    unfold loopR
    simp only [hn i Γ h q]
    cases e : xs[i]? with
    | none =>
      have : i = xs.length := by
        have := List.getElem?_eq_none_iff.mp e
        omega
      subst this
      exact he Γ h q
    | some x =>
      have hl : i < xs.length := (List.getElem?_eq_some_iff.mp e).1
      cases fuel with
      | zero => omega
      | succ fuel =>
        simp only [wp_bnd]
        refine wp_mono (hs i x Γ h q e) fun f h' q' => ?_
        cases f with
        | nx Γ' => exact wp_loopR I hn hs he fuel (i + 1) Γ' h' hl (by omega) q'
        | rt d => exact q'
theorem wp_loopW {c : TM} {b : SM} (I : Nat → Env → PH → Prop) (hs : ∀ n Γ h, I n Γ h → wp (c Γ h) fun k h1 => if k = true then ∃ n', n = n' + 1 ∧ wp (b Γ h1) (fun f h' => match f with
    | .nx Γ' => I n' Γ' h'
    | .rt d => Q (.rt d) h') else Q (.nx Γ) h1) : ∀ (fuel n : Nat) (Γ : Env) (h : PH), n ≤ fuel → I n Γ h → wp (loopW c b fuel Γ h) Q
  | fuel, n, Γ, h, hf, q => by
    unfold loopW
    rw [wp_bnd]
    refine wp_mono (hs n Γ h q) fun k h1 q1 => ?_
    cases k with
    | false => exact q1
    | true =>
      simp only [if_true] at q1 ⊢
      obtain ⟨n', rfl, q2⟩ := q1
      cases fuel with
      | zero => omega
      | succ fuel =>
        simp only [wp_bnd]
        refine wp_mono q2 fun f h' q' => ?_
        cases f with
        | nx Γ' => exact wp_loopW I hs fuel n' Γ' h' (by omega) q'
        | rt d => exact q'
theorem wp_forV {it : Env → M Itm} {tg : GM} {body : SM} {Γ : Env} {xs : List D} (e : ∀ Q, wp (it Γ h) Q = Q (.vals xs) h) : wp (sFor it tg body Γ h) Q = wp (loopV (fun x Γ => bnd (tg x Γ) body) xs Γ h) Q := by
  unfold sFor
  rw [wp_bnd, e]
theorem wp_forR {it : Env → M Itm} {tg : GM} {body : SM} {Γ : Env} {n : Nat} {xs : List D} (e : ∀ Q, wp (it Γ h) Q = Q (.ref n) h) (q : h[n]? = some (.lst xs)) : wp (sFor it tg body Γ h) Q = wp (loopR (fun x Γ => bnd (tg x Γ) body) n xs.length 0 Γ h) Q := by
  unfold sFor
  rw [wp_bnd, e]
  simp only [q]
@[simp] theorem wp_gIt {m : EM} {Γ : Env} {Q : Itm → PH → Prop} : wp (gIt m Γ h) Q = wp (m Γ h) fun d h => wp (itD d h) Q := by
  unfold gIt
  simp only [wp_bnd, wp_ite, wp_pur, wp_ok]
@[simp] theorem wp_lIt {m : LM} {Γ : Env} {Q : Itm → PH → Prop} : wp (lIt m Γ h) Q = wp (m Γ h) fun xs h => xs.length ≤ 16777216 ∧ Q (.vals xs) h := by
  unfold lIt
  simp only [wp_bnd, wp_ite, wp_pur, wp_ok]
  congr
  funext xs h
  by_cases e : xs.length ≤ 16777216 <;> simp [e]
theorem wp_itO {n : Nat} {xs : List D} {Q : Itm → PH → Prop} (e : h[n]? = some (.lst xs)) : wp (itD (.ref n) h) Q = Q (.ref n) h := by
  unfold itD
  simp only [e]
  rfl
@[simp] theorem wp_itL {xs : List D} {Q : Itm → PH → Prop} : wp (itD (.lst xs) h) Q = (xs.length ≤ 16777216 ∧ Q (.vals xs) h) := by
  unfold itD
  by_cases e : xs.length ≤ 16777216 <;> simp [e]
@[simp] theorem wp_itT {xs : List D} {Q : Itm → PH → Prop} : wp (itD (.tup xs) h) Q = (xs.length ≤ 16777216 ∧ Q (.vals xs) h) := by
  unfold itD
  by_cases e : xs.length ≤ 16777216 <;> simp [e]
@[simp] theorem wp_itR {xs : List Int} {Q : Itm → PH → Prop} : wp (itD (.rd xs) h) Q = Q (.vals (xs.map D.int)) h := rfl
theorem wp_rg1 {a : EM} {Γ : Env} {Q : Itm → PH → Prop} {j : Int} (e : ∀ Q, wp (a Γ h) Q = Q (.int j) h) (h1 : -4611686018427387904 ≤ j ∧ j ≤ 16777216) : wp (rg1 a Γ h) Q = Q (.vals (rngD 0 j.toNat)) h := by
  unfold rg1
  rw [wp_bnd, e]
  simp only [if_pos h1]
  rfl
theorem wp_rg2 {a b : EM} {Γ : Env} {Q : Itm → PH → Prop} {i j : Int} (e : ∀ Q, wp (a Γ h) Q = Q (.int i) h) (e2 : ∀ Q, wp (b Γ h) Q = Q (.int j) h) (h1 : -4611686018427387904 ≤ i ∧ i < 4611686018427387904 ∧ -4611686018427387904 ≤ j ∧ j < 4611686018427387904 ∧ j - i ≤ 16777216) : wp (rg2 a b Γ h) Q = Q (.vals (rngD i (j - i).toNat)) h := by
  unfold rg2
  rw [wp_bnd, e, wp_bnd, e2]
  simp only [if_pos h1]
  rfl
end
/-! ### comprehensions that change nothing -/
section
variable {h : PH}
theorem compV_pure {one : D → M (List D)} {g : D → List D} : ∀ {xs : List D}, (∀ x ∈ xs, one x h = .ok (g x) h) → compV one xs h = .ok (xs.flatMap g) h
  | [], _ => rfl
  | x :: xs, e => by
    unfold compV
    rw [bnd_ok (noX_ok (e x List.mem_cons_self)), bnd_ok (compV_pure fun y hy => e y (List.mem_cons_of_mem _ hy))]
    rfl
theorem compR_pure {one : D → M (List D)} {g : D → List D} {n : Nat} {xs : List D} (hn : h[n]? = some (.lst xs)) (e : ∀ x ∈ xs, one x h = .ok (g x) h) : ∀ (fuel i : Nat), xs.length ≤ i + fuel → compR one n fuel i h = .ok ((xs.drop i).flatMap g) h
  | fuel, i, hf => by
    unfold compR
    simp only [hn]
    cases q : xs[i]? with
    | none =>
      have := List.getElem?_eq_none_iff.mp q
      simp [List.drop_eq_nil_of_le this]
    | some x =>
      obtain ⟨hl, q1⟩ := List.getElem?_eq_some_iff.mp q
      cases fuel with
      | zero => omega
      | succ fuel =>
        simp only
        have hx : x ∈ xs := by rw [← q1]; exact List.getElem_mem hl
        rw [bnd_ok (noX_ok (e x hx)), bnd_ok (compR_pure hn e fuel (i + 1) (by omega)), List.drop_eq_getElem_cons hl, q1]
        rfl
theorem lComp_V {vs : List Nat} {it : Env → M Itm} {tg : GM} {tt : TM} {el : EM} {Γ : Env} {xs : List D} {g : D → List D} {Q : List D → PH → Prop} (ei : ∀ Q, wp (it Γ h) Q = Q (.vals xs) h) (e : ∀ x ∈ xs, ∀ Q, wp (oneC tg tt el (wipeE Γ vs) x h) Q = Q (g x) h) : wp (lComp vs it tg tt el Γ h) Q = Q (xs.flatMap g) h := by
  unfold lComp
  rw [wp_bnd, ei]
  show wp (compV _ xs h) Q = _
  rw [compV_pure (g := g) fun x hx => ?_]
  · rfl
  · have := e x hx (fun a h' => a = g x ∧ h' = h)
    obtain ⟨a, h', q, q1, q2⟩ := wp_eq.mp (this.mpr ⟨rfl, rfl⟩)
    rw [q, q1, q2]
theorem lComp_R {vs : List Nat} {it : Env → M Itm} {tg : GM} {tt : TM} {el : EM} {Γ : Env} {n : Nat} {xs : List D} {g : D → List D} {Q : List D → PH → Prop} (ei : ∀ Q, wp (it Γ h) Q = Q (.ref n) h) (hn : h[n]? = some (.lst xs)) (hl : xs.length ≤ 16777216) (e : ∀ x ∈ xs, ∀ Q, wp (oneC tg tt el (wipeE Γ vs) x h) Q = Q (g x) h) : wp (lComp vs it tg tt el Γ h) Q = Q (xs.flatMap g) h := by
  unfold lComp
  rw [wp_bnd, ei]
  simp only [hn, if_pos hl]
  rw [compR_pure (g := g) hn (fun x hx => ?_) xs.length 0 (by omega)]
  · rfl
  · have := e x hx (fun a h' => a = g x ∧ h' = h)
    obtain ⟨a, h', q, q1, q2⟩ := wp_eq.mp (this.mpr ⟨rfl, rfl⟩)
    rw [q, q1, q2]
@[simp] theorem wp_oneC {tg : GM} {tt : TM} {el : EM} {Γ : Env} {x : D} {Q : List D → PH → Prop} : wp (oneC tg tt el Γ x h) Q = wp (tg x Γ h) fun Γ2 h => wp (tt Γ2 h) fun k h => if k = true then wp (el Γ2 h) (fun y h => Q [y] h) else Q [] h := by
  unfold oneC
  simp only [wp_bnd, wp_ite, wp_pur]
@[simp] theorem wp_tTrue {Γ : Env} {Q : Bool → PH → Prop} : wp (tTrue Γ h) Q = Q true h := rfl
end
end Sw

set_option maxHeartbeats 4000000
/-! k05: shadows of the defs. Printed by gen.py. -/
namespace GK05
open PySem PySem.Spec L2 Sw
def top (i : Nat) : Stmt := PySem.Challenge.pw_shadowroom_k05_whole_rooms_never_meet.main.body.getD i (.Pass ⟨0, 0, 0, 0⟩)
def inC (s : Stmt) (j : Nat) : Stmt := match s with
  | .ClassDef _ _ _ b _ _ _ _ _ _ _ => b.getD j (.Pass ⟨0, 0, 0, 0⟩)
  | _ => s
abbrev st_is_number : Stmt := top 7
abbrev st_need_setting : Stmt := top 8
abbrev st_Store_new : Stmt := inC (top 21) 0
abbrev st_Store_born : Stmt := inC (top 21) 3
abbrev st_Store_free : Stmt := inC (top 21) 5
abbrev st_Store_kept : Stmt := inC (top 21) 7
abbrev st_Store_is_living : Stmt := inC (top 21) 4
abbrev st_Store_living : Stmt := inC (top 21) 6
abbrev st_Room_has : Stmt := inC (top 20) 1
abbrev st_Store_mark : Stmt := inC (top 21) 13
abbrev st_Store_place : Stmt := inC (top 21) 8
abbrev st_Room_new : Stmt := inC (top 20) 0
abbrev st_Store_is_clear : Stmt := inC (top 21) 1
abbrev st_Store_room : Stmt := inC (top 21) 2
abbrev st_Store_owner : Stmt := inC (top 21) 10
abbrev st_Store_write : Stmt := inC (top 21) 12
abbrev st_Store_size : Stmt := inC (top 21) 9
abbrev st__law_clash : Stmt := top 25
abbrev st__law_has_room : Stmt := top 26
abbrev st__law_taken : Stmt := top 23
abbrev st__law_setting : Stmt := top 24
abbrev st_law : Stmt := top 27
/-- what the module holds -/
structure HF (T : Tx) : Prop where
  calm : Calm T
  b_isinstance : Bn T "isinstance" (.builtin "isinstance")
  b_bool : Bn T "bool" (.type "bool")
  b_int : Bn T "int" (.type "int")
  d_is_number : DefT T ("is_number", none) "is_number" "is_number" st_is_number
  g_is_number : T.mg "is_number" = some (.ref (He.ga T.K "is_number"))
  d_need_setting : DefT T ("need_setting", none) "need_setting" "need_setting" st_need_setting
  g_need_setting : T.mg "need_setting" = some (.ref (He.ga T.K "need_setting"))
  c_Store : CT T "Store" ["gap", "keep", "many", "rooms", "waiting"]
  d_Store_new : DefT T ("Store", some "__init__") "__init__" "Store.__init__" st_Store_new
  k_Store : Mk T.K (He.ga T.K "Store") (He.ma T.K (He.ga T.K "Store") "__init__")
  g_Store : T.mg "Store" = some (.ref (He.ga T.K "Store"))
  b_len : Bn T "len" (.builtin "len")
  d_Store_born : DefT T ("Store", some "born") "born" "Store.born" st_Store_born
  e_Store_born : Meth T.K (He.ga T.K "Store") "born" (He.ma T.K (He.ga T.K "Store") "born")
  l_Store : Cls T.K (He.ga T.K "Store")
  c_Room : CT T "Room" ["known", "state", "where", "wide"]
  b_sum : Bn T "sum" (.builtin "sum")
  m_GONE : Mn T "GONE" (.str "gone")
  m_KEPT : Mn T "KEPT" (.str "kept")
  m_LIVING : Mn T "LIVING" (.str "living")
  d_Store_free : DefT T ("Store", some "free") "free" "Store.free" st_Store_free
  e_Store_free : Meth T.K (He.ga T.K "Store") "free" (He.ma T.K (He.ga T.K "Store") "free")
  b_list : Bn T "list" (.type "list")
  d_Store_kept : DefT T ("Store", some "kept") "kept" "Store.kept" st_Store_kept
  e_Store_kept : Meth T.K (He.ga T.K "Store") "kept" (He.ma T.K (He.ga T.K "Store") "kept")
  d_Store_is_living : DefT T ("Store", some "is_living") "is_living" "Store.is_living" st_Store_is_living
  e_Store_is_living : Meth T.K (He.ga T.K "Store") "is_living" (He.ma T.K (He.ga T.K "Store") "is_living")
  b_range : Bn T "range" (.type "range")
  d_Store_living : DefT T ("Store", some "living") "living" "Store.living" st_Store_living
  e_Store_living : Meth T.K (He.ga T.K "Store") "living" (He.ma T.K (He.ga T.K "Store") "living")
  d_Room_has : DefT T ("Room", some "has") "has" "Room.has" st_Room_has
  e_Room_has : Meth T.K (He.ga T.K "Room") "has" (He.ma T.K (He.ga T.K "Room") "has")
  l_Room : Cls T.K (He.ga T.K "Room")
  m_OPEN : Mn T "OPEN" (.str "open")
  m_GAP : Mn T "GAP" (.str "gap")
  m_SET : Mn T "SET" (.str "set")
  m_FRESH : Mn T "FRESH" (.str "fresh")
  m_FREED : Mn T "FREED" (.str "freed")
  d_Store_mark : DefT T ("Store", some "mark") "mark" "Store.mark" st_Store_mark
  e_Store_mark : Meth T.K (He.ga T.K "Store") "mark" (He.ma T.K (He.ga T.K "Store") "mark")
  d_Store_place : DefT T ("Store", some "place") "place" "Store.place" st_Store_place
  e_Store_place : Meth T.K (He.ga T.K "Store") "place" (He.ma T.K (He.ga T.K "Store") "place")
  d_Room_new : DefT T ("Room", some "__init__") "__init__" "Room.__init__" st_Room_new
  k_Room : Mk T.K (He.ga T.K "Room") (He.ma T.K (He.ga T.K "Room") "__init__")
  g_Room : T.mg "Room" = some (.ref (He.ga T.K "Room"))
  d_Store_is_clear : DefT T ("Store", some "is_clear") "is_clear" "Store.is_clear" st_Store_is_clear
  e_Store_is_clear : Meth T.K (He.ga T.K "Store") "is_clear" (He.ma T.K (He.ga T.K "Store") "is_clear")
  m_LEAST_SIZE : Mn T "LEAST_SIZE" (.int 1)
  m_MOST_SIZE : Mn T "MOST_SIZE" (.int 8)
  d_Store_room : DefT T ("Store", some "room") "room" "Store.room" st_Store_room
  e_Store_room : Meth T.K (He.ga T.K "Store") "room" (He.ma T.K (He.ga T.K "Store") "room")
  d_Store_owner : DefT T ("Store", some "owner") "owner" "Store.owner" st_Store_owner
  e_Store_owner : Meth T.K (He.ga T.K "Store") "owner" (He.ma T.K (He.ga T.K "Store") "owner")
  d_Store_write : DefT T ("Store", some "write") "write" "Store.write" st_Store_write
  e_Store_write : Meth T.K (He.ga T.K "Store") "write" (He.ma T.K (He.ga T.K "Store") "write")
  d_Store_size : DefT T ("Store", some "size") "size" "Store.size" st_Store_size
  e_Store_size : Meth T.K (He.ga T.K "Store") "size" (He.ma T.K (He.ga T.K "Store") "size")
  d__law_clash : DefT T ("_law_clash", none) "_law_clash" "_law_clash" st__law_clash
  g__law_clash : T.mg "_law_clash" = some (.ref (He.ga T.K "_law_clash"))
  d__law_has_room : DefT T ("_law_has_room", none) "_law_has_room" "_law_has_room" st__law_has_room
  g__law_has_room : T.mg "_law_has_room" = some (.ref (He.ga T.K "_law_has_room"))
  d__law_taken : DefT T ("_law_taken", none) "_law_taken" "_law_taken" st__law_taken
  g__law_taken : T.mg "_law_taken" = some (.ref (He.ga T.K "_law_taken"))
  d__law_setting : DefT T ("_law_setting", none) "_law_setting" "_law_setting" st__law_setting
  g__law_setting : T.mg "_law_setting" = some (.ref (He.ga T.K "_law_setting"))
  d_law : DefT T ("law", none) "law" "law" st_law
  g_law : T.mg "law" = some (.ref (He.ga T.K "law"))
/-! is_number: 0 part, 1 low, 2 high -/
def b_is_number : SM := (sSeq (sRet (gAn (g1 (isTy "int") (gV 0)) (gAn (gNt (g1 (isTy "bool") (gV 0))) (gChain dLe dLe (gV 1) (gV 0) (gV 2))))) sNil)
def f_is_number : List D → M D := fnM 3 3 b_is_number
theorem rs_is_number {T : Tx} (z : HF T) : RSs (T.fn ["part", "low", "high"] (defScope st_is_number) 0 false E0) [] (defBody st_is_number) b_is_number := (rss_cons (rs_ret (re_and (isi ist_int z.b_isinstance z.b_int vB) (re_and (re_not (isi ist_bool z.b_isinstance z.b_bool vB)) (re_one (chE o_le o_le vB vB vB))))) rss_nil)
theorem sc_is_number : FnScope ["part", "low", "high"] ["part", "low", "high"] (defScope st_is_number) := ⟨rfl, rfl, rfl, by decide +kernel, rfl, by decide +kernel, by decide +kernel⟩
theorem ok_is_number {T : Tx} (z : HF T) : FnS T "is_number" 1 3 f_is_number := mkFn (N := ["part", "low", "high"]) z.calm z.d_is_number z.g_is_number sc_is_number (rs_is_number z) (fun _ _ _ _ _ _ us hl => match us, hl with | [_, _, _], _ => rfl)
/-! need_setting: 0 setting, 1 cells, 2 gap, 3 keep -/
def b_need_setting : SM := (sSeq (sAsg (gV 0) (tgTup 3 (tgCons (tgName 1) (tgCons (tgName 2) (tgCons (tgName 3) tgNil))))) (sSeq (sIf (tOrr (tNt (tB (gCall f_is_number [(gV 1), (gC (.int 8)), (gC (.int 64))]))) (tOrr (tNt (tB (gCall f_is_number [(gV 2), (gC (.int 0)), (gC (.int 2))]))) (tNt (tB (gCall f_is_number [(gV 3), (gC (.int 0)), (gC (.int 32))]))))) (sSeq sBad sNil) sNil) sNil))
def f_need_setting : List D → M D := fnM 1 4 b_need_setting
theorem rs_need_setting {T : Tx} (z : HF T) : RSs (T.fn ["setting", "cells", "gap", "keep"] (defScope st_need_setting) 1 false E0) [] (defBody st_need_setting) b_need_setting := (rss_cons (sA vE (gT (gc gN (gc gN (gc gN rgs_nil))))) (rss_cons (rs_if (rw_or (rt_not (vT (call (ok_is_number z) (ac vE (ac re_int (ac re_int ra_nil)))))) (rw_or (rt_not (vT (call (ok_is_number z) (ac vE (ac re_int (ac re_int ra_nil)))))) (rw_or1 (rt_not (vT (call (ok_is_number z) (ac vE (ac re_int (ac re_int ra_nil))))))))).rt (rss_cons rs_bad rss_nil) rss_nil) rss_nil))
theorem sc_need_setting : FnScope ["setting", "cells", "gap", "keep"] ["setting"] (defScope st_need_setting) := ⟨rfl, rfl, rfl, by decide +kernel, rfl, by decide +kernel, by decide +kernel⟩
theorem ok_need_setting {T : Tx} (z : HF T) : FnS T "need_setting" 2 1 f_need_setting := mkFn (N := ["setting", "cells", "gap", "keep"]) z.calm z.d_need_setting z.g_need_setting sc_need_setting (rs_need_setting z) (fun _ _ _ _ _ _ us hl => match us, hl with | [_], _ => rfl)
/-! Store_new: 0 self, 1 setting -/
def b_Store_new : SM := (sSeq (sExpr (gCall f_need_setting [(gV 1)])) (sSeq (sAsg (gV 1) (tgTup 3 (tgCons (tgFld "Store" "many" (gV 0)) (tgCons (tgFld "Store" "gap" (gV 0)) (tgCons (tgFld "Store" "keep" (gV 0)) tgNil))))) (sSeq (Sw.sFld "Store" "rooms" (gV 0) (gNew (seqA []))) (sSeq (Sw.sFld "Store" "waiting" (gV 0) (gNew (seqA []))) sNil))))
def f_Store_new : List D → M D := fnM 2 2 b_Store_new
theorem rs_Store_new {T : Tx} (z : HF T) : RSs (T.fn ["self", "setting"] (defScope st_Store_new) 2 false E0) [] (defBody st_Store_new) b_Store_new := (rss_cons (sE (call (ok_need_setting z) (ac vE ra_nil))) (rss_cons (sA vE (gT (gc (gF z.c_Store vE) (gc (gF z.c_Store vE) (gc (gF z.c_Store vE) rgs_nil))))) (rss_cons (sF z.c_Store vE (re_new (ls ra_nil))) (rss_cons (sF z.c_Store vE (re_new (ls ra_nil))) rss_nil))))
theorem sc_Store_new : FnScope ["self", "setting"] ["self", "setting"] (defScope st_Store_new) := ⟨rfl, rfl, rfl, by decide +kernel, rfl, by decide +kernel, by decide +kernel⟩
theorem ok_Store_new {T : Tx} (z : HF T) : MkS T "Store" 3 1 f_Store_new := mkMk (N := ["self", "setting"]) z.calm z.d_Store_new z.k_Store sc_Store_new (rs_Store_new z) (fun _ _ _ _ _ _ us hl => match us, hl with | [_, _], _ => rfl) z.g_Store
/-! Store_born: 0 self, 1 number -/
def b_Store_born : SM := (sSeq (sIf (tNt (tB (gChain dLe dLt (gC (.int 0)) (gV 1) (g1 dLen (gFld "Store" "rooms" (gV 0)))))) (sSeq sBad sNil) sNil) (sSeq (sRet (g2 dIx (gFld "Store" "rooms" (gV 0)) (gV 1))) sNil))
def f_Store_born : List D → M D := fnM 2 2 b_Store_born
theorem rs_Store_born {T : Tx} (z : HF T) : RSs (T.fn ["self", "number"] (defScope st_Store_born) 0 false E0) [] (defBody st_Store_born) b_Store_born := (rss_cons (rs_if (rt_not (chT o_le o_lt (.of re_int) vB (.of (f1 z.b_len f_len (.of (fd z.c_Store vE)))))) (rss_cons rs_bad rss_nil) rss_nil) (rss_cons (rs_ret (ix (.of (fd z.c_Store vE)) vB)) rss_nil))
theorem sc_Store_born : FnScope ["self", "number"] ["self", "number"] (defScope st_Store_born) := ⟨rfl, rfl, rfl, by decide +kernel, rfl, by decide +kernel, by decide +kernel⟩
theorem ok_Store_born {T : Tx} (z : HF T) : MtS T "Store" "born" 1 2 f_Store_born := mkMt (N := ["self", "number"]) z.calm z.d_Store_born z.e_Store_born z.l_Store sc_Store_born (rs_Store_born z) (fun _ _ _ _ _ _ us hl => match us, hl with | [_, _], _ => rfl)
/-! Store_free: 0 self, 1 number, 2 one -/
def b_Store_free : SM := (sSeq (sIf (tB (g2 dNe (gFld "Room" "state" (gMeth "Store" "born" f_Store_born (gV 0) [(gV 1)])) (gC (.str "living")))) (sSeq sBad sNil) sNil) (sSeq (Sw.sFld "Room" "state" (g2 dIx (gFld "Store" "rooms" (gV 0)) (gV 1)) (gC (.str "kept"))) (sSeq (sExpr (gLm mApp (gFld "Store" "waiting" (gV 0)) [(gV 1)])) (sSeq (sWhile 1000000 (tB (g2 dGt (g1 dSum (gVal (lComp [2] (gIt (gFld "Store" "waiting" (gV 0))) (tgName 2) tTrue (gFld "Room" "wide" (g2 dIx (gFld "Store" "rooms" (gV 0)) (gV 2)))))) (gFld "Store" "keep" (gV 0)))) (sSeq (Sw.sFld "Room" "state" (g2 dIx (gFld "Store" "rooms" (gV 0)) (gLm mPopAt (gFld "Store" "waiting" (gV 0)) [(gC (.int 0))])) (gC (.str "gone"))) sNil)) sNil))))
def f_Store_free : List D → M D := fnM 2 3 b_Store_free
theorem rs_Store_free {T : Tx} (z : HF T) : RSs (T.fn ["self", "number", "one"] (defScope st_Store_free) 1 false E0) [] (defBody st_Store_free) b_Store_free := (rss_cons (rs_if (cmT o_ne (.of (fd z.c_Room (me (ok_Store_born z) vE (ac vE ra_nil)))) (.of (cG z.m_LIVING))) (rss_cons rs_bad rss_nil) rss_nil) (rss_cons (sF z.c_Room (ix (.of (fd z.c_Store vE)) vB) (cG z.m_KEPT)) (rss_cons (sE (lm m_app (fd z.c_Store vE) (ac vE ra_nil))) (rss_cons (rs_while 1000000 (cmT o_gt (.of (f1 z.b_sum f_sum (.of (re_val (cp (own := [("one", 2)]) (ri_seq (fd z.c_Store vE)) cN rts_nil (fd z.c_Room (ix (.of (fd z.c_Store vE)) vB))))))) (.of (fd z.c_Store vE))) (rss_cons (sF z.c_Room (ix (.of (fd z.c_Store vE)) (.of (lm m_popAt (fd z.c_Store vE) (ac re_int ra_nil)))) (cG z.m_GONE)) rss_nil)) rss_nil))))
theorem sc_Store_free : FnScope ["self", "number", "one"] ["self", "number"] (defScope st_Store_free) := ⟨rfl, rfl, rfl, by decide +kernel, rfl, by decide +kernel, by decide +kernel⟩
theorem ok_Store_free {T : Tx} (z : HF T) : MtS T "Store" "free" 2 2 f_Store_free := mkMt (N := ["self", "number", "one"]) z.calm z.d_Store_free z.e_Store_free z.l_Store sc_Store_free (rs_Store_free z) (fun _ _ _ _ _ _ us hl => match us, hl with | [_, _], _ => rfl)
/-! Store_kept: 0 self -/
def b_Store_kept : SM := (sSeq (sRet (gVal (l1 dList (gFld "Store" "waiting" (gV 0))))) sNil)
def f_Store_kept : List D → M D := fnM 1 1 b_Store_kept
theorem rs_Store_kept {T : Tx} (z : HF T) : RSs (T.fn ["self"] (defScope st_Store_kept) 0 false E0) [] (defBody st_Store_kept) b_Store_kept := (rss_cons (rs_ret (re_val (ft1 z.b_list t_list (.of (fd z.c_Store vE))))) rss_nil)
theorem sc_Store_kept : FnScope ["self"] ["self"] (defScope st_Store_kept) := ⟨rfl, rfl, rfl, by decide +kernel, rfl, by decide +kernel, by decide +kernel⟩
theorem ok_Store_kept {T : Tx} (z : HF T) : MtS T "Store" "kept" 1 1 f_Store_kept := mkMt (N := ["self"]) z.calm z.d_Store_kept z.e_Store_kept z.l_Store sc_Store_kept (rs_Store_kept z) (fun _ _ _ _ _ _ us hl => match us, hl with | [_], _ => rfl)
/-! Store_is_living: 0 self, 1 number -/
def b_Store_is_living : SM := (sSeq (sRet (g2 dEq (gFld "Room" "state" (g2 dIx (gFld "Store" "rooms" (gV 0)) (gV 1))) (gC (.str "living")))) sNil)
def f_Store_is_living : List D → M D := fnM 2 2 b_Store_is_living
theorem rs_Store_is_living {T : Tx} (z : HF T) : RSs (T.fn ["self", "number"] (defScope st_Store_is_living) 0 false E0) [] (defBody st_Store_is_living) b_Store_is_living := (rss_cons (rs_ret (cmE o_eq (.of (fd z.c_Room (ix (.of (fd z.c_Store vE)) vB))) (.of (cG z.m_LIVING)))) rss_nil)
theorem sc_Store_is_living : FnScope ["self", "number"] ["self", "number"] (defScope st_Store_is_living) := ⟨rfl, rfl, rfl, by decide +kernel, rfl, by decide +kernel, by decide +kernel⟩
theorem ok_Store_is_living {T : Tx} (z : HF T) : MtS T "Store" "is_living" 1 2 f_Store_is_living := mkMt (N := ["self", "number"]) z.calm z.d_Store_is_living z.e_Store_is_living z.l_Store sc_Store_is_living (rs_Store_is_living z) (fun _ _ _ _ _ _ us hl => match us, hl with | [_, _], _ => rfl)
/-! Store_living: 0 self, 1 number -/
def b_Store_living : SM := (sSeq (sRet (gVal (lComp [1] (rg1 (g1 dLen (gFld "Store" "rooms" (gV 0)))) (tgName 1) (tB (gMeth "Store" "is_living" f_Store_is_living (gV 0) [(gV 1)])) (gV 1)))) sNil)
def f_Store_living : List D → M D := fnM 1 2 b_Store_living
theorem rs_Store_living {T : Tx} (z : HF T) : RSs (T.fn ["self", "number"] (defScope st_Store_living) 1 false E0) [] (defBody st_Store_living) b_Store_living := (rss_cons (rs_ret (re_val (cp (own := [("number", 1)]) (r1 z.b_range (f1 z.b_len f_len (.of (fd z.c_Store vE)))) cN (rts_one (vT (me (ok_Store_is_living z) vE (ac vE ra_nil)))) vE))) rss_nil)
theorem sc_Store_living : FnScope ["self", "number"] ["self"] (defScope st_Store_living) := ⟨rfl, rfl, rfl, by decide +kernel, rfl, by decide +kernel, by decide +kernel⟩
theorem ok_Store_living {T : Tx} (z : HF T) : MtS T "Store" "living" 2 1 f_Store_living := mkMt (N := ["self", "number"]) z.calm z.d_Store_living z.e_Store_living z.l_Store sc_Store_living (rs_Store_living z) (fun _ _ _ _ _ _ us hl => match us, hl with | [_], _ => rfl)
/-! Room_has: 0 self, 1 cell -/
def b_Room_has : SM := (sSeq (sRet (gChain dLe dLt (gFld "Room" "where" (gV 0)) (gV 1) (g2 dAdd (gFld "Room" "where" (gV 0)) (gFld "Room" "wide" (gV 0))))) sNil)
def f_Room_has : List D → M D := fnM 2 2 b_Room_has
theorem rs_Room_has {T : Tx} (z : HF T) : RSs (T.fn ["self", "cell"] (defScope st_Room_has) 0 false E0) [] (defBody st_Room_has) b_Room_has := (rss_cons (rs_ret (chE o_le o_lt (.of (fd z.c_Room vE)) vB (.of (bo o_add (.of (fd z.c_Room vE)) (.of (fd z.c_Room vE)))))) rss_nil)
theorem sc_Room_has : FnScope ["self", "cell"] ["self", "cell"] (defScope st_Room_has) := ⟨rfl, rfl, rfl, by decide +kernel, rfl, by decide +kernel, by decide +kernel⟩
theorem ok_Room_has {T : Tx} (z : HF T) : MtS T "Room" "has" 1 2 f_Room_has := mkMt (N := ["self", "cell"]) z.calm z.d_Room_has z.e_Room_has z.l_Room sc_Room_has (rs_Room_has z) (fun _ _ _ _ _ _ us hl => match us, hl with | [_, _], _ => rfl)
/-! Store_mark: 0 self, 1 cell, 2 room -/
def b_Store_mark : SM := (sSeq (sFor (gIt (gFld "Store" "rooms" (gV 0))) (tgName 2) (sSeq (sIf (tAn (tB (g2 dNe (gFld "Room" "state" (gV 2)) (gC (.str "gone")))) (tB (gMeth "Room" "has" f_Room_has (gV 2) [(gV 1)]))) (sSeq (sIf (tB (g2 dEq (gFld "Room" "state" (gV 2)) (gC (.str "kept")))) (sSeq (sRet (gC (.str "freed"))) sNil) sNil) (sSeq (sRet (gIf (tB (g2 dIn (gV 1) (gFld "Room" "known" (gV 2)))) (gC (.str "set")) (gC (.str "fresh")))) sNil)) sNil) sNil)) (sSeq (sFor (gIt (gFld "Store" "rooms" (gV 0))) (tgName 2) (sSeq (sIf (tAn (tB (g2 dNe (gFld "Room" "state" (gV 2)) (gC (.str "gone")))) (tB (gChain dLe dLt (g2 dSub (gFld "Room" "where" (gV 2)) (gFld "Store" "gap" (gV 0))) (gV 1) (g2 dAdd (g2 dAdd (gFld "Room" "where" (gV 2)) (gFld "Room" "wide" (gV 2))) (gFld "Store" "gap" (gV 0)))))) (sSeq (sRet (gC (.str "gap"))) sNil) sNil) sNil)) (sSeq (sRet (gC (.str "open"))) sNil)))
def f_Store_mark : List D → M D := fnM 2 3 b_Store_mark
theorem rs_Store_mark {T : Tx} (z : HF T) : RSs (T.fn ["self", "cell", "room"] (defScope st_Store_mark) 1 false E0) [] (defBody st_Store_mark) b_Store_mark := (rss_cons (fo (ri_seq (fd z.c_Store vE)) gN (rss_cons (rs_if (rw_and (cmT o_ne (.of (fd z.c_Room vE)) (.of (cG z.m_GONE))) (rw_and1 (vT (me (ok_Room_has z) vE (ac vE ra_nil))))).rt (rss_cons (rs_if (cmT o_eq (.of (fd z.c_Room vE)) (.of (cG z.m_KEPT))) (rss_cons (rs_ret (cG z.m_FREED)) rss_nil) rss_nil) (rss_cons (rs_ret (re_if (cmT o_in vB (.of (fd z.c_Room vE))) (cG z.m_SET) (cG z.m_FRESH))) rss_nil)) rss_nil) rss_nil)) (rss_cons (fo (ri_seq (fd z.c_Store vE)) gN (rss_cons (rs_if (rw_and (cmT o_ne (.of (fd z.c_Room vE)) (.of (cG z.m_GONE))) (rw_and1 (chT o_le o_lt (.of (bo o_sub (.of (fd z.c_Room vE)) (.of (fd z.c_Store vE)))) vB (.of (bo o_add (.of (bo o_add (.of (fd z.c_Room vE)) (.of (fd z.c_Room vE)))) (.of (fd z.c_Store vE))))))).rt (rss_cons (rs_ret (cG z.m_GAP)) rss_nil) rss_nil) rss_nil)) (rss_cons (rs_ret (cG z.m_OPEN)) rss_nil)))
theorem sc_Store_mark : FnScope ["self", "cell", "room"] ["self", "cell"] (defScope st_Store_mark) := ⟨rfl, rfl, rfl, by decide +kernel, rfl, by decide +kernel, by decide +kernel⟩
theorem ok_Store_mark {T : Tx} (z : HF T) : MtS T "Store" "mark" 2 2 f_Store_mark := mkMt (N := ["self", "cell", "room"]) z.calm z.d_Store_mark z.e_Store_mark z.l_Store sc_Store_mark (rs_Store_mark z) (fun _ _ _ _ _ _ us hl => match us, hl with | [_, _], _ => rfl)
/-! Store_place: 0 self, 1 number -/
def b_Store_place : SM := (sSeq (sRet (gFld "Room" "where" (gMeth "Store" "born" f_Store_born (gV 0) [(gV 1)]))) sNil)
def f_Store_place : List D → M D := fnM 2 2 b_Store_place
theorem rs_Store_place {T : Tx} (z : HF T) : RSs (T.fn ["self", "number"] (defScope st_Store_place) 1 false E0) [] (defBody st_Store_place) b_Store_place := (rss_cons (rs_ret (fd z.c_Room (me (ok_Store_born z) vE (ac vE ra_nil)))) rss_nil)
theorem sc_Store_place : FnScope ["self", "number"] ["self", "number"] (defScope st_Store_place) := ⟨rfl, rfl, rfl, by decide +kernel, rfl, by decide +kernel, by decide +kernel⟩
theorem ok_Store_place {T : Tx} (z : HF T) : MtS T "Store" "place" 2 2 f_Store_place := mkMt (N := ["self", "number"]) z.calm z.d_Store_place z.e_Store_place z.l_Store sc_Store_place (rs_Store_place z) (fun _ _ _ _ _ _ us hl => match us, hl with | [_, _], _ => rfl)
/-! Room_new: 0 self, 1 where, 2 wide -/
def b_Room_new : SM := (sSeq (Sw.sFld "Room" "where" (gV 0) (gV 1)) (sSeq (Sw.sFld "Room" "wide" (gV 0) (gV 2)) (sSeq (Sw.sFld "Room" "state" (gV 0) (gC (.str "living"))) (sSeq (Sw.sFld "Room" "known" (gV 0) gDict0) sNil))))
def f_Room_new : List D → M D := fnM 3 3 b_Room_new
theorem rs_Room_new {T : Tx} (z : HF T) : RSs (T.fn ["self", "where", "wide"] (defScope st_Room_new) 0 false E0) [] (defBody st_Room_new) b_Room_new := (rss_cons (sF z.c_Room vE vE) (rss_cons (sF z.c_Room vE vE) (rss_cons (sF z.c_Room vE (cG z.m_LIVING)) (rss_cons (sF z.c_Room vE re_dict0) rss_nil))))
theorem sc_Room_new : FnScope ["self", "where", "wide"] ["self", "where", "wide"] (defScope st_Room_new) := ⟨rfl, rfl, rfl, by decide +kernel, rfl, by decide +kernel, by decide +kernel⟩
theorem ok_Room_new {T : Tx} (z : HF T) : MkS T "Room" 1 2 f_Room_new := mkMk (N := ["self", "where", "wide"]) z.calm z.d_Room_new z.k_Room sc_Room_new (rs_Room_new z) (fun _ _ _ _ _ _ us hl => match us, hl with | [_, _, _], _ => rfl) z.g_Room
/-! Store_is_clear: 0 self, 1 begin, 2 wide, 3 room, 4 far -/
def b_Store_is_clear : SM := (sSeq (sFor (gIt (gFld "Store" "rooms" (gV 0))) (tgName 3) (sSeq (sSet 4 (g2 dAdd (g2 dAdd (gFld "Room" "where" (gV 3)) (gFld "Room" "wide" (gV 3))) (gFld "Store" "gap" (gV 0)))) (sSeq (sIf (tAn (tB (g2 dNe (gFld "Room" "state" (gV 3)) (gC (.str "gone")))) (tAn (tB (g2 dLt (gV 1) (gV 4))) (tB (g2 dLt (g2 dSub (gFld "Room" "where" (gV 3)) (gFld "Store" "gap" (gV 0))) (g2 dAdd (gV 1) (gV 2)))))) (sSeq (sRet (gC (.bl false))) sNil) sNil) sNil))) (sSeq (sRet (gC (.bl true))) sNil))
def f_Store_is_clear : List D → M D := fnM 3 5 b_Store_is_clear
theorem rs_Store_is_clear {T : Tx} (z : HF T) : RSs (T.fn ["self", "begin", "wide", "room", "far"] (defScope st_Store_is_clear) 0 false E0) [] (defBody st_Store_is_clear) b_Store_is_clear := (rss_cons (fo (ri_seq (fd z.c_Store vE)) gN (rss_cons (s_ (bo o_add (.of (bo o_add (.of (fd z.c_Room vE)) (.of (fd z.c_Room vE)))) (.of (fd z.c_Store vE)))) (rss_cons (rs_if (rw_and (cmT o_ne (.of (fd z.c_Room vE)) (.of (cG z.m_GONE))) (rw_and (cmT o_lt vB vB) (rw_and1 (cmT o_lt (.of (bo o_sub (.of (fd z.c_Room vE)) (.of (fd z.c_Store vE)))) (.of (bo o_add vB vB)))))).rt (rss_cons (rs_ret re_bl) rss_nil) rss_nil) rss_nil))) (rss_cons (rs_ret re_bl) rss_nil))
theorem sc_Store_is_clear : FnScope ["self", "begin", "wide", "room", "far"] ["self", "begin", "wide"] (defScope st_Store_is_clear) := ⟨rfl, rfl, rfl, by decide +kernel, rfl, by decide +kernel, by decide +kernel⟩
theorem ok_Store_is_clear {T : Tx} (z : HF T) : MtS T "Store" "is_clear" 1 3 f_Store_is_clear := mkMt (N := ["self", "begin", "wide", "room", "far"]) z.calm z.d_Store_is_clear z.e_Store_is_clear z.l_Store sc_Store_is_clear (rs_Store_is_clear z) (fun _ _ _ _ _ _ us hl => match us, hl with | [_, _, _], _ => rfl)
/-! Store_room: 0 self, 1 size, 2 wide, 3 begin -/
def b_Store_room : SM := (sSeq (sIf (tNt (tB (gChain dLe dLe (gC (.int 1)) (gV 1) (gC (.int 8))))) (sSeq sBad sNil) sNil) (sSeq (sSet 2 (g2 dAdd (gV 1) (g2 dMul (gC (.int 2)) (gFld "Store" "gap" (gV 0))))) (sSeq (sFor (rg1 (g2 dAdd (g2 dSub (gFld "Store" "many" (gV 0)) (gV 2)) (gC (.int 1)))) (tgName 3) (sSeq (sIf (tB (gMeth "Store" "is_clear" f_Store_is_clear (gV 0) [(gV 3), (gV 2)])) (sSeq (sExpr (gLm mApp (gFld "Store" "rooms" (gV 0)) [(gMake "Room" f_Room_new [(g2 dAdd (gV 3) (gFld "Store" "gap" (gV 0))), (gV 1)])])) (sSeq (sRet (g2 dSub (g1 dLen (gFld "Store" "rooms" (gV 0))) (gC (.int 1)))) sNil)) sNil) sNil)) (sSeq (sRet (gC .non)) sNil))))
def f_Store_room : List D → M D := fnM 2 4 b_Store_room
theorem rs_Store_room {T : Tx} (z : HF T) : RSs (T.fn ["self", "size", "wide", "begin"] (defScope st_Store_room) 2 false E0) [] (defBody st_Store_room) b_Store_room := (rss_cons (rs_if (rt_not (chT o_le o_le (.of (cG z.m_LEAST_SIZE)) vB (.of (cG z.m_MOST_SIZE)))) (rss_cons rs_bad rss_nil) rss_nil) (rss_cons (s_ (bo o_add vB (.of (bo o_mul (.of re_int) (.of (fd z.c_Store vE)))))) (rss_cons (fo (r1 z.b_range (bo o_add (.of (bo o_sub (.of (fd z.c_Store vE)) vB)) (.of re_int))) gN (rss_cons (rs_if (vT (me (ok_Store_is_clear z) vE (ac vE (ac vE ra_nil)))) (rss_cons (sE (lm m_app (fd z.c_Store vE) (ac (Sw.mk (ok_Room_new z) (ac (bo o_add vB (.of (fd z.c_Store vE))) (ac vE ra_nil))) ra_nil))) (rss_cons (rs_ret (bo o_sub (.of (f1 z.b_len f_len (.of (fd z.c_Store vE)))) (.of re_int))) rss_nil)) rss_nil) rss_nil)) (rss_cons (rs_ret re_non) rss_nil))))
theorem sc_Store_room : FnScope ["self", "size", "wide", "begin"] ["self", "size"] (defScope st_Store_room) := ⟨rfl, rfl, rfl, by decide +kernel, rfl, by decide +kernel, by decide +kernel⟩
theorem ok_Store_room {T : Tx} (z : HF T) : MtS T "Store" "room" 3 2 f_Store_room := mkMt (N := ["self", "size", "wide", "begin"]) z.calm z.d_Store_room z.e_Store_room z.l_Store sc_Store_room (rs_Store_room z) (fun _ _ _ _ _ _ us hl => match us, hl with | [_, _], _ => rfl)
/-! Store_owner: 0 self, 1 cell, 2 some, 3 number -/
def b_Store_owner : SM := (sSeq (sSet 2 (gVal (lComp [3] (gIt (gMeth "Store" "living" f_Store_living (gV 0) [])) (tgName 3) (tB (gMeth "Room" "has" f_Room_has (g2 dIx (gFld "Store" "rooms" (gV 0)) (gV 3)) [(gV 1)])) (gV 3)))) (sSeq (sRet (gIf (tB (g2 dNe (gV 2) (gVal (seqA [])))) (g2 dIx (gV 2) (gC (.int 0))) (gC .non))) sNil))
def f_Store_owner : List D → M D := fnM 2 4 b_Store_owner
theorem rs_Store_owner {T : Tx} (z : HF T) : RSs (T.fn ["self", "cell", "some", "number"] (defScope st_Store_owner) 2 false E0) [] (defBody st_Store_owner) b_Store_owner := (rss_cons (scV (own := [("number", 3)]) (ri_seq (me0 (ok_Store_living z) vE)) cN (rts_one (vT (me (ok_Room_has z) (ix (.of (fd z.c_Store vE)) vB) (ac vE ra_nil)))) vE) (rss_cons (rs_ret (re_if (cmT o_ne vB (.of (re_val (ls ra_nil)))) (ix vB (.of re_int)) re_non)) rss_nil))
theorem sc_Store_owner : FnScope ["self", "cell", "some", "number"] ["self", "cell"] (defScope st_Store_owner) := ⟨rfl, rfl, rfl, by decide +kernel, rfl, by decide +kernel, by decide +kernel⟩
theorem ok_Store_owner {T : Tx} (z : HF T) : MtS T "Store" "owner" 3 2 f_Store_owner := mkMt (N := ["self", "cell", "some", "number"]) z.calm z.d_Store_owner z.e_Store_owner z.l_Store sc_Store_owner (rs_Store_owner z) (fun _ _ _ _ _ _ us hl => match us, hl with | [_, _], _ => rfl)
/-! Store_write: 0 self, 1 cell, 2 number -/
def b_Store_write : SM := (sSeq (sSet 2 (gMeth "Store" "owner" f_Store_owner (gV 0) [(gV 1)])) (sSeq (sIf (tB (g2 dIsNot (gV 2) (gC .non))) (sSeq (sAsg (gC (.bl true)) (tgSub (gFld "Room" "known" (g2 dIx (gFld "Store" "rooms" (gV 0)) (gV 2))) (gV 1))) sNil) sNil) sNil))
def f_Store_write : List D → M D := fnM 2 3 b_Store_write
theorem rs_Store_write {T : Tx} (z : HF T) : RSs (T.fn ["self", "cell", "number"] (defScope st_Store_write) 3 false E0) [] (defBody st_Store_write) b_Store_write := (rss_cons (s_ (me (ok_Store_owner z) vE (ac vE ra_nil))) (rss_cons (rs_if (cmT o_isNot vB (.of re_non)) (rss_cons (sA re_bl (gS (fd z.c_Room (ix (.of (fd z.c_Store vE)) vB)) vE)) rss_nil) rss_nil) rss_nil))
theorem sc_Store_write : FnScope ["self", "cell", "number"] ["self", "cell"] (defScope st_Store_write) := ⟨rfl, rfl, rfl, by decide +kernel, rfl, by decide +kernel, by decide +kernel⟩
theorem ok_Store_write {T : Tx} (z : HF T) : MtS T "Store" "write" 4 2 f_Store_write := mkMt (N := ["self", "cell", "number"]) z.calm z.d_Store_write z.e_Store_write z.l_Store sc_Store_write (rs_Store_write z) (fun _ _ _ _ _ _ us hl => match us, hl with | [_, _], _ => rfl)
/-! Store_size: 0 self, 1 number -/
def b_Store_size : SM := (sSeq (sRet (gFld "Room" "wide" (gMeth "Store" "born" f_Store_born (gV 0) [(gV 1)]))) sNil)
def f_Store_size : List D → M D := fnM 2 2 b_Store_size
theorem rs_Store_size {T : Tx} (z : HF T) : RSs (T.fn ["self", "number"] (defScope st_Store_size) 1 false E0) [] (defBody st_Store_size) b_Store_size := (rss_cons (rs_ret (fd z.c_Room (me (ok_Store_born z) vE (ac vE ra_nil)))) rss_nil)
theorem sc_Store_size : FnScope ["self", "number"] ["self", "number"] (defScope st_Store_size) := ⟨rfl, rfl, rfl, by decide +kernel, rfl, by decide +kernel, by decide +kernel⟩
theorem ok_Store_size {T : Tx} (z : HF T) : MtS T "Store" "size" 2 2 f_Store_size := mkMt (N := ["self", "number"]) z.calm z.d_Store_size z.e_Store_size z.l_Store sc_Store_size (rs_Store_size z) (fun _ _ _ _ _ _ us hl => match us, hl with | [_, _], _ => rfl)
/-! _law_clash: 0 _law_store, 1 _law_setting_here, 2 _law_cells, 3 _law_gap, 4 _law_keep, 5 _law_met, 6 _law_number, 7 _law_place, 8 _law_cell -/
def b__law_clash : SM := (sSeq (sAsg (gV 1) (tgTup 3 (tgCons (tgName 2) (tgCons (tgName 3) (tgCons (tgName 4) tgNil))))) (sSeq (sSet 5 gDict0) (sSeq (sFor (lIt (lAdd (gMeth "Store" "living" f_Store_living (gV 0) []) (gMeth "Store" "kept" f_Store_kept (gV 0) []))) (tgName 6) (sSeq (sSet 7 (gMeth "Store" "place" f_Store_place (gV 0) [(gV 6)])) (sSeq (sFor (rg2 (g2 dSub (gV 7) (gV 3)) (g2 dAdd (g2 dAdd (gV 7) (gMeth "Store" "size" f_Store_size (gV 0) [(gV 6)])) (gV 3))) (tgName 8) (sSeq (sIf (tOrr (tB (g2 dIn (gV 8) (gV 5))) (tOrr (tB (g2 dLt (gV 8) (gC (.int 0)))) (tB (g2 dGe (gV 8) (gV 2))))) (sSeq (sRet (gC (.bl true))) sNil) sNil) (sSeq (sAsg (gC (.bl true)) (tgSub (gV 5) (gV 8))) sNil))) sNil))) (sSeq (sRet (g2 dGt (g1 dSum (gVal (lComp [6] (gIt (gMeth "Store" "kept" f_Store_kept (gV 0) [])) (tgName 6) tTrue (gMeth "Store" "size" f_Store_size (gV 0) [(gV 6)])))) (gV 4))) sNil))))
def f__law_clash : List D → M D := fnM 2 9 b__law_clash
theorem rs__law_clash {T : Tx} (z : HF T) : RSs (T.fn ["_law_store", "_law_setting_here", "_law_cells", "_law_gap", "_law_keep", "_law_met", "_law_number", "_law_place", "_law_cell"] (defScope st__law_clash) 2 false E0) [] (defBody st__law_clash) b__law_clash := (rss_cons (sA vE (gT (gc gN (gc gN (gc gN rgs_nil))))) (rss_cons (s_ re_dict0) (rss_cons (fo (ri_new (rf_add (.of (me0 (ok_Store_living z) vE)) (.of (me0 (ok_Store_kept z) vE)))) gN (rss_cons (s_ (me (ok_Store_place z) vE (ac vE ra_nil))) (rss_cons (fo (r2 z.b_range (bo o_sub vB vB) (bo o_add (.of (bo o_add vB (.of (me (ok_Store_size z) vE (ac vE ra_nil))))) vB)) gN (rss_cons (rs_if (rw_or (cmT o_in vB vB) (rw_or (cmT o_lt vB (.of re_int)) (rw_or1 (cmT o_ge vB vB)))).rt (rss_cons (rs_ret re_bl) rss_nil) rss_nil) (rss_cons (sA re_bl (gS vE vE)) rss_nil))) rss_nil))) (rss_cons (rs_ret (cmE o_gt (.of (f1 z.b_sum f_sum (.of (re_val (cp (own := [("_law_number", 6)]) (ri_seq (me0 (ok_Store_kept z) vE)) cN rts_nil (me (ok_Store_size z) vE (ac vE ra_nil))))))) vB)) rss_nil))))
theorem sc__law_clash : FnScope ["_law_store", "_law_setting_here", "_law_cells", "_law_gap", "_law_keep", "_law_met", "_law_number", "_law_place", "_law_cell"] ["_law_store", "_law_setting_here"] (defScope st__law_clash) := ⟨rfl, rfl, rfl, by decide +kernel, rfl, by decide +kernel, by decide +kernel⟩
theorem ok__law_clash {T : Tx} (z : HF T) : FnS T "_law_clash" 3 2 f__law_clash := mkFn (N := ["_law_store", "_law_setting_here", "_law_cells", "_law_gap", "_law_keep", "_law_met", "_law_number", "_law_place", "_law_cell"]) z.calm z.d__law_clash z.g__law_clash sc__law_clash (rs__law_clash z) (fun _ _ _ _ _ _ us hl => match us, hl with | [_, _], _ => rfl)
/-! _law_has_room: 0 _law_store, 1 _law_setting_here, 2 _law_size, 3 _law_cells, 4 _law_gap, 5 _law_keep, 6 _law_met, 7 _law_number, 8 _law_cell, 9 _law_wide -/
def b__law_has_room : SM := (sSeq (sAsg (gV 1) (tgTup 3 (tgCons (tgName 3) (tgCons (tgName 4) (tgCons (tgName 5) tgNil))))) (sSeq (sSet 6 gDict0) (sSeq (sFor (lIt (lAdd (gMeth "Store" "living" f_Store_living (gV 0) []) (gMeth "Store" "kept" f_Store_kept (gV 0) []))) (tgName 7) (sSeq (sFor (rg2 (g2 dSub (gMeth "Store" "place" f_Store_place (gV 0) [(gV 7)]) (gV 4)) (g2 dAdd (g2 dAdd (gMeth "Store" "place" f_Store_place (gV 0) [(gV 7)]) (gMeth "Store" "size" f_Store_size (gV 0) [(gV 7)])) (gV 4))) (tgName 8) (sSeq (sAsg (gC (.bl true)) (tgSub (gV 6) (gV 8))) sNil)) sNil)) (sSeq (sSet 9 (gC (.int 0))) (sSeq (sFor (rg1 (gV 3)) (tgName 8) (sSeq (sSet 9 (gIf (tB (g2 dIn (gV 8) (gV 6))) (gC (.int 0)) (g2 dAdd (gV 9) (gC (.int 1))))) (sSeq (sIf (tB (g2 dEq (gV 9) (g2 dAdd (gV 2) (g2 dMul (gC (.int 2)) (gV 4))))) (sSeq (sRet (gC (.bl true))) sNil) sNil) sNil))) (sSeq (sRet (gC (.bl false))) sNil))))))
def f__law_has_room : List D → M D := fnM 3 10 b__law_has_room
theorem rs__law_has_room {T : Tx} (z : HF T) : RSs (T.fn ["_law_store", "_law_setting_here", "_law_size", "_law_cells", "_law_gap", "_law_keep", "_law_met", "_law_number", "_law_cell", "_law_wide"] (defScope st__law_has_room) 2 false E0) [] (defBody st__law_has_room) b__law_has_room := (rss_cons (sA vE (gT (gc gN (gc gN (gc gN rgs_nil))))) (rss_cons (s_ re_dict0) (rss_cons (fo (ri_new (rf_add (.of (me0 (ok_Store_living z) vE)) (.of (me0 (ok_Store_kept z) vE)))) gN (rss_cons (fo (r2 z.b_range (bo o_sub (.of (me (ok_Store_place z) vE (ac vE ra_nil))) vB) (bo o_add (.of (bo o_add (.of (me (ok_Store_place z) vE (ac vE ra_nil))) (.of (me (ok_Store_size z) vE (ac vE ra_nil))))) vB)) gN (rss_cons (sA re_bl (gS vE vE)) rss_nil)) rss_nil)) (rss_cons (s_ re_int) (rss_cons (fo (r1 z.b_range vE) gN (rss_cons (s_ (re_if (cmT o_in vB vB) re_int (bo o_add vB (.of re_int)))) (rss_cons (rs_if (cmT o_eq vB (.of (bo o_add vB (.of (bo o_mul (.of re_int) vB))))) (rss_cons (rs_ret re_bl) rss_nil) rss_nil) rss_nil))) (rss_cons (rs_ret re_bl) rss_nil))))))
theorem sc__law_has_room : FnScope ["_law_store", "_law_setting_here", "_law_size", "_law_cells", "_law_gap", "_law_keep", "_law_met", "_law_number", "_law_cell", "_law_wide"] ["_law_store", "_law_setting_here", "_law_size"] (defScope st__law_has_room) := ⟨rfl, rfl, rfl, by decide +kernel, rfl, by decide +kernel, by decide +kernel⟩
theorem ok__law_has_room {T : Tx} (z : HF T) : FnS T "_law_has_room" 3 3 f__law_has_room := mkFn (N := ["_law_store", "_law_setting_here", "_law_size", "_law_cells", "_law_gap", "_law_keep", "_law_met", "_law_number", "_law_cell", "_law_wide"]) z.calm z.d__law_has_room z.g__law_has_room sc__law_has_room (rs__law_has_room z) (fun _ _ _ _ _ _ us hl => match us, hl with | [_, _, _], _ => rfl)
/-! _law_taken: 0 _law_row, 1 _law_many, 2 _law_found, 3 _law_cell -/
def b__law_taken : SM := (sSeq (sIf (tB (g2 dGt (g2 dIx (gV 0) (gC (.int 3))) (gC (.int 0)))) (sSeq (sSet 2 (g2 dMod (g2 dIx (gV 0) (gC (.int 3))) (gV 1))) (sSeq (sAsg (g2 dDiv (g2 dIx (gV 0) (gC (.int 3))) (gV 1)) (tgSub (gV 0) (gC (.int 3)))) (sSeq (sRet (gV 2)) sNil))) sNil) (sSeq (sAsg (g2 dAdd (g2 dIx (gV 0) (gC (.int 1))) (gC (.int 1))) (tgSub (gV 0) (gC (.int 1)))) (sSeq (sIf (tB (g2 dGt (g2 dIx (gV 0) (gC (.int 1))) (g1 dLen (g2 dIx (gV 0) (gC (.int 0)))))) (sSeq (sAsg (g2 dMod (g2 dAdd (g2 dMul (g2 dIx (gV 0) (gC (.int 2))) (gC (.int 48271))) (gC (.int 11))) (gC (.int 2147483647))) (tgSub (gV 0) (gC (.int 2)))) (sSeq (sRet (g2 dMod (g2 dDiv (g2 dIx (gV 0) (gC (.int 2))) (gC (.int 7))) (gV 1))) sNil)) sNil) (sSeq (sSet 3 (g2 dIx (g2 dIx (gV 0) (gC (.int 0))) (g2 dSub (g2 dIx (gV 0) (gC (.int 1))) (gC (.int 1))))) (sSeq (sAsg (g2 dMod (g2 dAdd (g2 dAdd (g2 dMul (g2 dIx (gV 0) (gC (.int 2))) (gC (.int 48271))) (gV 3)) (gC (.int 11))) (gC (.int 2147483647))) (tgSub (gV 0) (gC (.int 2)))) (sSeq (sIf (tB (g2 dGe (gV 3) (g2 dPow (gC (.int 10)) (gC (.int 18))))) (sSeq (sAsg (g2 dDiv (gV 3) (gV 1)) (tgSub (gV 0) (gC (.int 3)))) sNil) sNil) (sSeq (sRet (g2 dMod (gV 3) (gV 1))) sNil)))))))
def f__law_taken : List D → M D := fnM 2 4 b__law_taken
theorem rs__law_taken {T : Tx} (z : HF T) : RSs (T.fn ["_law_row", "_law_many", "_law_found", "_law_cell"] (defScope st__law_taken) 0 false E0) [] (defBody st__law_taken) b__law_taken := (rss_cons (rs_if (cmT o_gt (.of (ix vB (.of re_int))) (.of re_int)) (rss_cons (s_ (bo o_mod (.of (ix vB (.of re_int))) vB)) (rss_cons (sA (bo o_div (.of (ix vB (.of re_int))) vB) (gS vE re_int)) (rss_cons (rs_ret vE) rss_nil))) rss_nil) (rss_cons (sA (bo o_add (.of (ix vB (.of re_int))) (.of re_int)) (gS vE re_int)) (rss_cons (rs_if (cmT o_gt (.of (ix vB (.of re_int))) (.of (f1 z.b_len f_len (.of (ix vB (.of re_int)))))) (rss_cons (sA (bo o_mod (.of (bo o_add (.of (bo o_mul (.of (ix vB (.of re_int))) (.of re_int))) (.of re_int))) (.of re_int)) (gS vE re_int)) (rss_cons (rs_ret (bo o_mod (.of (bo o_div (.of (ix vB (.of re_int))) (.of re_int))) vB)) rss_nil)) rss_nil) (rss_cons (s_ (ix (.of (ix vB (.of re_int))) (.of (bo o_sub (.of (ix vB (.of re_int))) (.of re_int))))) (rss_cons (sA (bo o_mod (.of (bo o_add (.of (bo o_add (.of (bo o_mul (.of (ix vB (.of re_int))) (.of re_int))) vB)) (.of re_int))) (.of re_int)) (gS vE re_int)) (rss_cons (rs_if (cmT o_ge vB (.of (bo o_pow (.of re_int) (.of re_int)))) (rss_cons (sA (bo o_div vB vB) (gS vE re_int)) rss_nil) rss_nil) (rss_cons (rs_ret (bo o_mod vB vB)) rss_nil)))))))
theorem sc__law_taken : FnScope ["_law_row", "_law_many", "_law_found", "_law_cell"] ["_law_row", "_law_many"] (defScope st__law_taken) := ⟨rfl, rfl, rfl, by decide +kernel, rfl, by decide +kernel, by decide +kernel⟩
theorem ok__law_taken {T : Tx} (z : HF T) : FnS T "_law_taken" 1 2 f__law_taken := mkFn (N := ["_law_row", "_law_many", "_law_found", "_law_cell"]) z.calm z.d__law_taken z.g__law_taken sc__law_taken (rs__law_taken z) (fun _ _ _ _ _ _ us hl => match us, hl with | [_, _], _ => rfl)
/-! _law_setting: 0 _law_row, 1 _law_cells -/
def b__law_setting : SM := (sSeq (sSet 1 (g2 dIx (gVal (seqA [(gC (.int 64)), (gC (.int 64)), (g2 dAdd (gC (.int 8)) (gCall f__law_taken [(gV 0), (gC (.int 57))]))])) (gCall f__law_taken [(gV 0), (gC (.int 3))]))) (sSeq (sRet (gTup [(gV 1), (gCall f__law_taken [(gV 0), (gC (.int 3))]), (g2 dIx (gVal (seqA [(gC (.int 0)), (gCall f__law_taken [(gV 0), (gC (.int 33))])])) (gCall f__law_taken [(gV 0), (gC (.int 2))]))])) sNil))
def f__law_setting : List D → M D := fnM 1 2 b__law_setting
theorem rs__law_setting {T : Tx} (z : HF T) : RSs (T.fn ["_law_row", "_law_cells"] (defScope st__law_setting) 1 false E0) [] (defBody st__law_setting) b__law_setting := (rss_cons (s_ (ix (.of (re_val (ls (ac re_int (ac re_int (ac (bo o_add (.of re_int) (.of (call (ok__law_taken z) (ac vE (ac re_int ra_nil))))) ra_nil)))))) (.of (call (ok__law_taken z) (ac vE (ac re_int ra_nil)))))) (rss_cons (rs_ret (tp (ac vE (ac (call (ok__law_taken z) (ac vE (ac re_int ra_nil))) (ac (ix (.of (re_val (ls (ac re_int (ac (call (ok__law_taken z) (ac vE (ac re_int ra_nil))) ra_nil))))) (.of (call (ok__law_taken z) (ac vE (ac re_int ra_nil))))) ra_nil))))) rss_nil))
theorem sc__law_setting : FnScope ["_law_row", "_law_cells"] ["_law_row"] (defScope st__law_setting) := ⟨rfl, rfl, rfl, by decide +kernel, rfl, by decide +kernel, by decide +kernel⟩
theorem ok__law_setting {T : Tx} (z : HF T) : FnS T "_law_setting" 2 1 f__law_setting := mkFn (N := ["_law_row", "_law_cells"]) z.calm z.d__law_setting z.g__law_setting sc__law_setting (rs__law_setting z) (fun _ _ _ _ _ _ us hl => match us, hl with | [_], _ => rfl)
/-! law: 0 _law_script, 1 _law_row, 2 _law_setting_here, 3 _law_store, 4 _law_freed own, 5 _law_born, 6 _law_turn, 7 _law_living, 8 _law_number, 9 _law_size, 10 _law_has, 11 _law_place, 12 _law_kept, 13 _law_cell -/
def b_law_1 : SM := (sSeq (sSet 5 (g2 dAdd (gV 5) (gC (.int 1)))) (sSeq (sSet 11 (gMeth "Store" "place" f_Store_place (gV 3) [(gV 8)])) (sSeq (sIf (tB (g2 dNe (gVal (lComp [13] (rg2 (gV 11) (g2 dAdd (gV 11) (gV 9))) (tgName 13) (tB (g2 dNe (gMeth "Store" "mark" f_Store_mark (gV 3) [(gV 13)]) (gC (.str "fresh")))) (gV 13))) (gVal (seqA [])))) (sSeq (sRet (gC (.bl false))) sNil) sNil) (sSeq (sExpr (gMeth "Store" "write" f_Store_write (gV 3) [(g2 dAdd (gV 11) (gCall f__law_taken [(gV 1), (gV 9)]))])) sNil))))
def b_law_2 : SM := (sSeq (sSet 9 (g2 dAdd (gC (.int 1)) (gCall f__law_taken [(gV 1), (gC (.int 8))]))) (sSeq (sSet 10 (gCall f__law_has_room [(gV 3), (gV 2), (gV 9)])) (sSeq (sSet 8 (gMeth "Store" "room" f_Store_room (gV 3) [(gV 9)])) (sSeq (sIf (tOrr (tB (g2 dEq (g2 dIsN (gV 8) (gC .non)) (gV 10))) (tAn (tB (g2 dIsNot (gV 8) (gC .non))) (tB (g2 dNe (gV 8) (gV 5))))) (sSeq (sRet (gC (.bl false))) sNil) sNil) (sSeq (sIf (tB (g2 dIsNot (gV 8) (gC .non))) b_law_1 sNil) sNil)))))
def b_law_3 : SM := (sSeq (sSet 7 (gMeth "Store" "living" f_Store_living (gV 3) [])) (sSeq (sIf (tAn (tB (g2 dNe (gV 7) (gVal (seqA [])))) (tB (g2 dLt (gCall f__law_taken [(gV 1), (gC (.int 5))]) (gC (.int 2))))) (sSeq (sSet 8 (g2 dIx (gV 7) (gCall f__law_taken [(gV 1), (g1 dLen (gV 7))]))) (sSeq (sExpr (gMeth "Store" "free" f_Store_free (gV 3) [(gV 8)])) (sSeq (sOwnM mApp 4 [(gV 8)]) sNil))) b_law_2) (sSeq (sSet 12 (gMeth "Store" "kept" f_Store_kept (gV 3) [])) (sSeq (sIf (tOrr (tB (gCall f__law_clash [(gV 3), (gV 2)])) (tB (g2 dNe (gV 12) (gVal (lSl (gV 4) (oSome (g2 dSub (g1 dLen (gV 4)) (g1 dLen (gV 12)))) oNo))))) (sSeq (sRet (gC (.bl false))) sNil) sNil) sNil))))
def b_law : SM := (sSeq (sSet 1 (gNew (seqA [(gV 0), (gC (.int 0)), (gC (.int 0)), (gC (.int 0))]))) (sSeq (sSet 2 (gCall f__law_setting [(gV 1)])) (sSeq (sSet 3 (gMake "Store" f_Store_new [(gV 2)])) (sSeq (sOwn 4 (seqA [])) (sSeq (sSet 5 (gC (.int 0))) (sSeq (sFor (rg1 (gCall f__law_taken [(gV 1), (gC (.int 81))])) (tgName 6) b_law_3) (sSeq (sRet (gC (.bl true))) sNil)))))))
def f_law : List D → M D := fnM 1 14 b_law
theorem rs_law {T : Tx} (z : HF T) : RSs (T.fn ["_law_script", "_law_row", "_law_setting_here", "_law_store", "_law_freed", "_law_born", "_law_turn", "_law_living", "_law_number", "_law_size", "_law_has", "_law_place", "_law_kept", "_law_cell"] (defScope st_law) 4 false E0) [4] (defBody st_law) b_law := (rss_cons (s_ (re_new (ls (ac vE (ac re_int (ac re_int (ac re_int ra_nil))))))) (rss_cons (s_ (call (ok__law_setting z) (ac vE ra_nil))) (rss_cons (s_ (Sw.mk (ok_Store_new z) (ac vE ra_nil))) (rss_cons (sO (ls ra_nil)) (rss_cons (s_ re_int) (rss_cons (fo (r1 z.b_range (call (ok__law_taken z) (ac vE (ac re_int ra_nil)))) gN (rss_cons (s_ (me0 (ok_Store_living z) vE)) (rss_cons (rs_if (rw_and (cmT o_ne vB (.of (re_val (ls ra_nil)))) (rw_and1 (cmT o_lt (.of (call (ok__law_taken z) (ac vE (ac re_int ra_nil)))) (.of re_int)))).rt (rss_cons (s_ (ix vB (.of (call (ok__law_taken z) (ac vE (ac (f1 z.b_len f_len vB) ra_nil)))))) (rss_cons (sE (me (ok_Store_free z) vE (ac vE ra_nil))) (rss_cons (sM m_app (ac vE ra_nil)) rss_nil))) (rss_cons (s_ (bo o_add (.of re_int) (.of (call (ok__law_taken z) (ac vE (ac re_int ra_nil)))))) (rss_cons (s_ (call (ok__law_has_room z) (ac vE (ac vE (ac vE ra_nil))))) (rss_cons (s_ (me (ok_Store_room z) vE (ac vE ra_nil))) (rss_cons (rs_if (rw_or (cmT o_eq (.of (cmE o_isN vB (.of re_non))) vB) (rw_or1 (rw_and (cmT o_isNot vB (.of re_non)) (rw_and1 (cmT o_ne vB vB))).rt)).rt (rss_cons (rs_ret re_bl) rss_nil) rss_nil) (rss_cons (rs_if (cmT o_isNot vB (.of re_non)) (rss_cons (s_ (bo o_add vB (.of re_int))) (rss_cons (s_ (me (ok_Store_place z) vE (ac vE ra_nil))) (rss_cons (rs_if (cmT o_ne (.of (re_val (cp (own := [("_law_cell", 13)]) (r2 z.b_range vE (bo o_add vB vB)) cN (rts_one (cmT o_ne (.of (me (ok_Store_mark z) vE (ac vE ra_nil))) (.of cS))) vE))) (.of (re_val (ls ra_nil)))) (rss_cons (rs_ret re_bl) rss_nil) rss_nil) (rss_cons (sE (me (ok_Store_write z) vE (ac (bo o_add vB (.of (call (ok__law_taken z) (ac vE (ac vE ra_nil))))) ra_nil))) rss_nil)))) rss_nil) rss_nil)))))) (rss_cons (s_ (me0 (ok_Store_kept z) vE)) (rss_cons (rs_if (rw_or (vT (call (ok__law_clash z) (ac vE (ac vE ra_nil)))) (rw_or1 (cmT o_ne vB (.of (re_val (rf_sl vB (ro_some (bo o_sub (.of (f1 z.b_len f_len vB)) (.of (f1 z.b_len f_len vB)))) ro_no)))))).rt (rss_cons (rs_ret re_bl) rss_nil) rss_nil) rss_nil))))) (rss_cons (rs_ret re_bl) rss_nil)))))))
theorem sc_law : FnScope ["_law_script", "_law_row", "_law_setting_here", "_law_store", "_law_freed", "_law_born", "_law_turn", "_law_living", "_law_number", "_law_size", "_law_has", "_law_place", "_law_kept", "_law_cell"] ["_law_script"] (defScope st_law) := ⟨rfl, rfl, rfl, by decide +kernel, rfl, by decide +kernel, by decide +kernel⟩
theorem ok_law {T : Tx} (z : HF T) : FnS T "law" 5 1 f_law := mkFn (N := ["_law_script", "_law_row", "_law_setting_here", "_law_store", "_law_freed", "_law_born", "_law_turn", "_law_living", "_law_number", "_law_size", "_law_has", "_law_place", "_law_kept", "_law_cell"]) z.calm z.d_law z.g_law sc_law (rs_law z) (fun _ _ _ _ _ _ us hl => match us, hl with | [_], _ => rfl)
end GK05

set_option maxHeartbeats 4000000
namespace GK05
open PySem PySem.Spec L2 Sw
theorem is_number_ok {i lo hi : Int} {h : PH} {Q : D → PH → Prop} : wp (f_is_number [.int i, .int lo, .int hi] h) Q = Q (.bl (decide (lo ≤ i) && decide (i ≤ hi))) h := by
  simp only [f_is_number, wp_fnM]
  simp [b_is_number]
  by_cases e : lo ≤ i <;> simp [e]
/-- the script as it is read -/
structure Row where
  s : List Int
  c : Nat
  st : Int
  ca : Int
def Row.ok (r : Row) : Prop := 0 ≤ r.st ∧ r.st < 2147483647
def rowOb (r : Row) : Ob := .lst [.rd r.s, .int r.c, .int r.st, .int r.ca]
theorem taken_ok {h : PH} {n : Nat} {r : Row} {m : Int} {Q : D → PH → Prop} (hr : h[n]? = some (rowOb r)) (ok : r.ok) (hm : 0 < m) (hm2 : m < 1073741824) (q : ∀ v r', 0 ≤ v → v < m → Row.ok r' → r'.s = r.s → Q (.int v) (h.set n (rowOb r'))) : wp (f__law_taken [.ref n, .int m] h) Q := by
  obtain ⟨hn, _⟩ := List.getElem?_eq_some_iff.mp hr
  obtain ⟨s, c, st, ca⟩ := r
  obtain ⟨o1, o2⟩ := ok
  simp only [rowOb] at hr q
  simp only at o1 o2
  have i0 : ∀ a b c d : D, atI [a, b, c, d] 0 = some a := fun _ _ _ _ => rfl
  have i1 : ∀ a b c d : D, atI [a, b, c, d] 1 = some b := fun _ _ _ _ => rfl
  have i2 : ∀ a b c d : D, atI [a, b, c, d] 2 = some c := fun _ _ _ _ => rfl
  have i3 : ∀ a b c d : D, atI [a, b, c, d] 3 = some d := fun _ _ _ _ => rfl
  have x1 : ixN 4 1 = some 1 := rfl
  have x2 : ixN 4 2 = some 2 := rfl
  have x3 : ixN 4 3 = some 3 := rfl
  have gs : ∀ o : Ob, (h.set n o)[n]? = some o := fun o => by simp [hn]
  have l4 : ∀ a b c d : D, ([a, b, c, d] : List D).length = 4 := fun _ _ _ _ => rfl
  have nn : ∀ (k : Nat) (x st' ca' : Int), 0 ≤ st' → st' < 2147483647 → 0 ≤ x → x < m → Q (.int x) (h.set n (.lst [.rd s, .int ((k : Int) + 1), .int st', .int ca'])) := fun k x st' ca' h1 h2 h3 h4 => q x ⟨s, k + 1, st', ca'⟩ h3 h4 ⟨h1, h2⟩ rfl
  have mn : ∀ x : Int, 0 ≤ x % m ∧ x % m < m := fun x => ⟨Int.emod_nonneg _ (by omega), Int.emod_lt_of_pos _ hm⟩
  have mm : ∀ x : Int, 0 ≤ x % 2147483647 ∧ x % 2147483647 < 2147483647 := fun x => ⟨Int.emod_nonneg _ (by omega), Int.emod_lt_of_pos _ (by omega)⟩
  by_cases hc : c < s.length
  · have ei : atI (s.map D.int) (c : Int) = some (.int s[c]) := by
      rw [Sw.atI_nat, List.getElem?_map, List.getElem?_eq_getElem hc]
      rfl
    have hc' : ¬ ((s.length : Int) < (c : Int) + 1) := by omega
    simp only [f__law_taken, wp_fnM]
    simp [b__law_taken, wp_ixRef, wp_lenRef, wp_setRef, hr, gs, i0, i1, i2, i3, x1, x2, x3, ei, hc', hm, hm2]
    by_cases h1 : 0 < ca
    · simp only [h1, if_true]
      exact q _ ⟨s, c, st, ca / m⟩ (mn _).1 (mn _).2 ⟨o1, o2⟩ rfl
    · simp only [h1, if_false]
      split
      · exact nn _ _ _ _ (mm _).1 (mm _).2 (mn _).1 (mn _).2
      · exact nn _ _ _ _ (mm _).1 (mm _).2 (mn _).1 (mn _).2
  · have hc' : (s.length : Int) < (c : Int) + 1 := by omega
    simp only [f__law_taken, wp_fnM]
    simp [b__law_taken, wp_ixRef, wp_lenRef, wp_setRef, hr, gs, i0, i1, i2, i3, x1, x2, x3, hc', hm, hm2]
    by_cases h1 : 0 < ca
    · simp only [h1, if_true]
      exact q _ ⟨s, c, st, ca / m⟩ (mn _).1 (mn _).2 ⟨o1, o2⟩ rfl
    · simp only [h1, if_false]
      exact nn _ _ _ _ (mm _).1 (mm _).2 (mn _).1 (mn _).2
/-! ### rooms and stores -/
structure Rm where
  w : Int
  z : Int
  st : Str
  kn : List Int
structure Sto where
  many : Int
  gap : Int
  keep : Int
  rooms : List Rm
  waiting : List Nat
/-- where a store stands -/
structure SL where
  n : Nat
  r : Nat
  w : Nat
  ids : List (Nat × Nat)
def SL.all (L : SL) : List Nat := L.n :: L.r :: L.w :: L.ids.flatMap fun p => [p.1, p.2]
def roomFs (r : Rm) (k : Nat) : List (Str × D) := [("where", .int r.w), ("wide", .int r.z), ("state", .str r.st), ("known", .ref k)]
def storeFs (s : Sto) (r w : Nat) : List (Str × D) := [("many", .int s.many), ("gap", .int s.gap), ("keep", .int s.keep), ("rooms", .ref r), ("waiting", .ref w)]
def knD (kn : List Int) : List (Key × D) := kn.map fun c => (.inl c, .bl true)
structure SAt (h : PH) (L : SL) (s : Sto) : Prop where
  o : h[L.n]? = some (.ins "Store" (storeFs s L.r L.w))
  rs : h[L.r]? = some (.lst (L.ids.map fun p => .ref p.1))
  wt : h[L.w]? = some (.lst (s.waiting.map fun (i : Nat) => .int (i : Int)))
  len : L.ids.length = s.rooms.length
  rm : ∀ (i : Nat) p r, L.ids[i]? = some p → s.rooms[i]? = some r → h[p.1]? = some (.ins "Room" (roomFs r p.2))
  kn : ∀ (i : Nat) p r, L.ids[i]? = some p → s.rooms[i]? = some r → h[p.2]? = some (.dct (knD r.kn))
  nd : L.all.Nodup
  few : s.rooms.length ≤ 200000
section
variable {r : Rm} {k : Nat} {s : Sto} {a b : Nat}
@[simp] theorem g_where : getD_ (roomFs r k) "where" = some (.int r.w) := by kernel_rfl
@[simp] theorem g_wide : getD_ (roomFs r k) "wide" = some (.int r.z) := by kernel_rfl
@[simp] theorem g_state : getD_ (roomFs r k) "state" = some (.str r.st) := by kernel_rfl
@[simp] theorem g_known : getD_ (roomFs r k) "known" = some (.ref k) := by kernel_rfl
@[simp] theorem g_has : getD_ (roomFs r k) "has" = none := by kernel_rfl
@[simp] theorem g_many : getD_ (storeFs s a b) "many" = some (.int s.many) := by kernel_rfl
@[simp] theorem g_gap : getD_ (storeFs s a b) "gap" = some (.int s.gap) := by kernel_rfl
@[simp] theorem g_keep : getD_ (storeFs s a b) "keep" = some (.int s.keep) := by kernel_rfl
@[simp] theorem g_rooms : getD_ (storeFs s a b) "rooms" = some (.ref a) := by kernel_rfl
@[simp] theorem g_waiting : getD_ (storeFs s a b) "waiting" = some (.ref b) := by kernel_rfl
theorem p_state {x : Str} : putFD "state" (.str x) (roomFs r k) = roomFs { r with st := x } k := by kernel_rfl
@[simp] theorem roomFs_len : (roomFs r k).length = 4 := rfl
@[simp] theorem storeFs_len : (storeFs s a b).length = 5 := rfl
end
theorem flat_mem {ids : List (Nat × Nat)} {p : Nat × Nat} {i : Nat} (e : ids[i]? = some p) : p.1 ∈ ids.flatMap (fun p => [p.1, p.2]) ∧ p.2 ∈ ids.flatMap (fun p => [p.1, p.2]) := by
  have := List.mem_of_getElem? e
  constructor <;> exact List.mem_flatMap.mpr ⟨p, this, by simp⟩
section
variable {h h' : PH} {L : SL} {s : Sto}
theorem SL.n_mem : L.n ∈ L.all := by simp [SL.all]
theorem SL.r_mem : L.r ∈ L.all := by simp [SL.all]
theorem SL.w_mem : L.w ∈ L.all := by simp [SL.all]
theorem SL.i_mem {i : Nat} {p : Nat × Nat} (e : L.ids[i]? = some p) : p.1 ∈ L.all ∧ p.2 ∈ L.all := by
  have := flat_mem e
  exact ⟨by simp only [SL.all, List.mem_cons]; exact .inr (.inr (.inr this.1)), by simp only [SL.all, List.mem_cons]; exact .inr (.inr (.inr this.2))⟩
theorem SAt.frame (a : SAt h L s) (e : ∀ i ∈ L.all, h'[i]? = h[i]?) : SAt h' L s where
  o := by rw [e _ SL.n_mem]; exact a.o
  rs := by rw [e _ SL.r_mem]; exact a.rs
  wt := by rw [e _ SL.w_mem]; exact a.wt
  len := a.len
  rm := fun i p r h1 h2 => by rw [e _ (SL.i_mem h1).1]; exact a.rm i p r h1 h2
  kn := fun i p r h1 h2 => by rw [e _ (SL.i_mem h1).2]; exact a.kn i p r h1 h2
  nd := a.nd
  few := a.few
theorem SAt.ids_at (a : SAt h L s) {i : Nat} (hi : i < s.rooms.length) : ∃ p, L.ids[i]? = some p := ⟨_, List.getElem?_eq_getElem (by rw [a.len]; exact hi)⟩
theorem SAt.lt (a : SAt h L s) : ∀ i ∈ L.all, i < h.length := by
  have k : ∀ {i : Nat} {o : Ob}, h[i]? = some o → i < h.length := fun e => (List.getElem?_eq_some_iff.mp e).1
  intro i hi
  simp only [SL.all, List.mem_cons, List.mem_flatMap] at hi
  rcases hi with rfl | rfl | rfl | ⟨p, hp, hi⟩
  · exact k a.o
  · exact k a.rs
  · exact k a.wt
  · obtain ⟨j, hj, e⟩ := List.mem_iff_getElem.mp hp
    have e1 : L.ids[j]? = some p := by rw [List.getElem?_eq_getElem hj, e]
    have e2 : s.rooms[j]? = some (s.rooms[j]'(by rw [← a.len]; exact hj)) := List.getElem?_eq_getElem _
    simp only [List.not_mem_nil, or_false] at hi
    rcases hi with rfl | rfl
    · exact k (a.rm j p _ e1 e2)
    · exact k (a.kn j p _ e1 e2)
theorem SAt.app (a : SAt h L s) (x : PH) : SAt (h ++ x) L s := a.frame fun i hi => List.getElem?_append_left (a.lt i hi)
theorem SAt.out (a : SAt h L s) {n : Nat} (hn : n ∉ L.all) (o : Ob) : SAt (h.set n o) L s := a.frame fun i hi => by
  rw [List.getElem?_set_ne]
  intro e
  exact hn (by rw [e]; exact hi)
end
/-! ### methods that change nothing -/
@[simp] theorem fldOf_ref {C f : Str} {n : Nat} {h : PH} : fldOf C f (.ref n) h = (match h[n]? with
    | some (.ins C' fs) => if C' = C then getD_ fs f else none
    | _ => none) := rfl
@[simp] theorem nm_born {s : Sto} {a b : Nat} : getD_ (storeFs s a b) "born" = none := by kernel_rfl
@[simp] theorem nm_living {s : Sto} {a b : Nat} : getD_ (storeFs s a b) "living" = none := by kernel_rfl
@[simp] theorem nm_is_living {s : Sto} {a b : Nat} : getD_ (storeFs s a b) "is_living" = none := by kernel_rfl
@[simp] theorem nm_kept {s : Sto} {a b : Nat} : getD_ (storeFs s a b) "kept" = none := by kernel_rfl
@[simp] theorem nm_place {s : Sto} {a b : Nat} : getD_ (storeFs s a b) "place" = none := by kernel_rfl
@[simp] theorem nm_size {s : Sto} {a b : Nat} : getD_ (storeFs s a b) "size" = none := by kernel_rfl
@[simp] theorem nm_mark {s : Sto} {a b : Nat} : getD_ (storeFs s a b) "mark" = none := by kernel_rfl
@[simp] theorem nm_is_clear {s : Sto} {a b : Nat} : getD_ (storeFs s a b) "is_clear" = none := by kernel_rfl
@[simp] theorem nm_room {s : Sto} {a b : Nat} : getD_ (storeFs s a b) "room" = none := by kernel_rfl
@[simp] theorem nm_free {s : Sto} {a b : Nat} : getD_ (storeFs s a b) "free" = none := by kernel_rfl
@[simp] theorem nm_owner {s : Sto} {a b : Nat} : getD_ (storeFs s a b) "owner" = none := by kernel_rfl
@[simp] theorem nm_write {s : Sto} {a b : Nat} : getD_ (storeFs s a b) "write" = none := by kernel_rfl
section
variable {h : PH} {L : SL} {s : Sto} {Q : D → PH → Prop}
theorem refs_at {L : SL} {i : Nat} {p : Nat × Nat} (e : L.ids[i]? = some p) : atI (L.ids.map fun p => D.ref p.1) (i : Int) = some (.ref p.1) := by
  rw [Sw.atI_nat, List.getElem?_map, e]
  rfl
theorem born_ok (a : SAt h L s) {i : Nat} {p : Nat × Nat} (e : L.ids[i]? = some p) : wp (f_Store_born [.ref L.n, .int i] h) Q = Q (.ref p.1) h := by
  have hi : i < L.ids.length := (List.getElem?_eq_some_iff.mp e).1
  have h1 : (i : Int) < (L.ids.length : Int) := by omega
  have h0 : (0 : Int) ≤ (i : Int) := by omega
  simp only [f_Store_born, wp_fnM]
  simp [b_Store_born, a.o, wp_lenRef, wp_ixRef, a.rs, h1, h0, refs_at e]
theorem is_living_ok (a : SAt h L s) {i : Nat} {r : Rm} (hr : s.rooms[i]? = some r) : wp (f_Store_is_living [.ref L.n, .int i] h) Q = Q (.bl (decide (r.st = "living"))) h := by
  obtain ⟨p, e⟩ := a.ids_at (List.getElem?_eq_some_iff.mp hr).1
  simp only [f_Store_is_living, wp_fnM]
  simp [b_Store_is_living, a.o, wp_ixRef, a.rs, refs_at e, a.rm i p r e hr]
theorem place_ok (a : SAt h L s) {i : Nat} {r : Rm} (hr : s.rooms[i]? = some r) : wp (f_Store_place [.ref L.n, .int i] h) Q = Q (.int r.w) h := by
  obtain ⟨p, e⟩ := a.ids_at (List.getElem?_eq_some_iff.mp hr).1
  simp only [f_Store_place, wp_fnM]
  simp [b_Store_place, wp_gMeth_, a.o, born_ok a e, a.rm i p r e hr]
theorem size_ok (a : SAt h L s) {i : Nat} {r : Rm} (hr : s.rooms[i]? = some r) : wp (f_Store_size [.ref L.n, .int i] h) Q = Q (.int r.z) h := by
  obtain ⟨p, e⟩ := a.ids_at (List.getElem?_eq_some_iff.mp hr).1
  simp only [f_Store_size, wp_fnM]
  simp [b_Store_size, wp_gMeth_, a.o, born_ok a e, a.rm i p r e hr]
theorem has_ok {n k : Nat} {r : Rm} {c : Int} (e : h[n]? = some (.ins "Room" (roomFs r k))) : wp (f_Room_has [.ref n, .int c] h) Q = Q (.bl (decide (r.w ≤ c) && decide (c < r.w + r.z))) h := by
  simp only [f_Room_has, wp_fnM]
  simp [b_Room_has, e]
  by_cases h1 : r.w ≤ c <;> simp [h1]
def Sto.isLiving (s : Sto) (i : Nat) : Bool := match s.rooms[i]? with
  | some r => decide (r.st = "living")
  | none => false
def Sto.living (s : Sto) : List Nat := (List.range s.rooms.length).filter s.isLiving
def natD (xs : List Nat) : List D := xs.map fun (i : Nat) => D.int (i : Int)
def gFil (f : Nat → Bool) (d : D) : List D := match d with
  | .int i => if f i.toNat = true then [d] else []
  | _ => []
@[simp] theorem gFil_nat {f : Nat → Bool} {i : Nat} : gFil f (.int (i : Int)) = if f i = true then [.int (i : Int)] else [] := by
  simp [gFil]
theorem flat_filter (f : Nat → Bool) : ∀ xs : List Nat, (xs.map fun (i : Nat) => D.int (i : Int)).flatMap (gFil f) = natD (xs.filter f)
  | [] => rfl
  | x :: xs => by
    rw [List.map_cons, List.flatMap_cons, flat_filter f xs]
    simp only [natD, gFil_nat]
    by_cases e : f x = true <;> simp [e]
theorem rng_eq (n : Nat) : rngD 0 n = (List.range n).map fun (i : Nat) => D.int (i : Int) := by
  unfold rngD
  simp
theorem mem_rng {n : Nat} {d : D} (h : d ∈ rngD 0 n) : ∃ i, i < n ∧ d = .int (i : Int) := by
  rw [rng_eq] at h
  obtain ⟨i, hi, rfl⟩ := List.mem_map.mp h
  exact ⟨i, List.mem_range.mp hi, rfl⟩
theorem living_ok (a : SAt h L s) : wp (f_Store_living [.ref L.n] h) Q = Q (.lst (natD s.living)) h := by
  simp only [f_Store_living, wp_fnM]
  simp only [b_Store_living, List.map_cons, List.map_nil, wp_sSeq, wp_sRet, wp_gVal]
  rw [lComp_V (xs := rngD 0 s.rooms.length) (g := gFil s.isLiving)]
  · rw [rng_eq, flat_filter]
    rfl
  · intro Q
    rw [wp_rg1 (j := (s.rooms.length : Int))]
    · rw [Int.toNat_natCast]
    · intro Q
      simp [a.o, wp_lenRef, a.rs, a.len]
    · have := a.few
      omega
  · intro x hx Q
    obtain ⟨i, hi, rfl⟩ := mem_rng hx
    have hr : s.rooms[i]? = some s.rooms[i] := List.getElem?_eq_getElem hi
    have e : s.isLiving i = decide (s.rooms[i].st = "living") := by
      unfold Sto.isLiving
      rw [hr]
    simp [wp_gMeth_, wipeE, a.o, is_living_ok a hr, e]
    by_cases q : s.rooms[i].st = "living" <;> simp [q]
theorem kept_ok (a : SAt h L s) : wp (f_Store_kept [.ref L.n] h) Q = Q (.lst (natD s.waiting)) h := by
  simp only [f_Store_kept, wp_fnM]
  simp [b_Store_kept, l1, dList, seqD, a.o, a.wt, natD]
end
/-! ### methods that walk the rooms -/
theorem wp_det {α : Type} {r : R α} {a : α} {h : PH} (p : wp r fun x h' => x = a ∧ h' = h) (Q : α → PH → Prop) : wp r Q = Q a h := by
  obtain ⟨a', h', e, e1, e2⟩ := wp_eq.mp p
  rw [e, e1, e2]
  rfl
section
variable {h : PH} {L : SL} {s : Sto} {Q : D → PH → Prop}
/-- a room that is not in the way -/
def clear1 (gap b w : Int) (r : Rm) : Bool := !(!decide (r.st = "gone") && (decide (b < r.w + r.z + gap) && decide (r.w - gap < b + w)))
def Sto.clear (s : Sto) (b w : Int) : Bool := s.rooms.all (clear1 s.gap b w)
theorem walk_rooms {b : D → Sw.Env → M Fl} {Q : Fl → PH → Prop} (a : SAt h L s) (I : Nat → Sw.Env → Prop) {Γ : Sw.Env} (h0 : I 0 Γ)
    (hs : ∀ i p r Γ, I i Γ → L.ids[i]? = some p → s.rooms[i]? = some r → wp (b (.ref p.1) Γ h) fun f h' => match f with
      | .nx Γ' => I (i + 1) Γ' ∧ h' = h
      | .rt d => Q (.rt d) h') (he : ∀ Γ, I s.rooms.length Γ → Q (.nx Γ) h) : wp (loopR b L.r (L.ids.map fun p => D.ref p.1).length 0 Γ h) Q := by
  refine wp_loopR (xs := L.ids.map fun p => D.ref p.1) (fun i Γ h' => I i Γ ∧ h' = h) (fun i Γ h' q => by rw [q.2]; exact a.rs) (fun i x Γ h' q hx => ?_) (fun Γ h' q => ?_) _ 0 Γ h (Nat.zero_le _) (by omega) ⟨h0, rfl⟩
  · obtain ⟨q, rfl⟩ := q
    rw [List.getElem?_map] at hx
    cases e : L.ids[i]? with
    | none =>
      rw [e] at hx
      cases hx
    | some p =>
      rw [e] at hx
      cases hx
      have hi : i < s.rooms.length := by
        rw [← a.len]
        exact (List.getElem?_eq_some_iff.mp e).1
      exact hs i p _ Γ q e (List.getElem?_eq_getElem hi)
  · obtain ⟨q, rfl⟩ := q
    rw [List.length_map, a.len] at q
    exact he Γ q
theorem is_clear_ok (a : SAt h L s) {b w : Int} : wp (f_Store_is_clear [.ref L.n, .int b, .int w] h) Q = Q (.bl (s.clear b w)) h := by
  refine wp_det ?_ Q
  simp only [f_Store_is_clear, wp_fnM]
  simp only [b_Store_is_clear, wp_sSeq]
  rw [wp_forR (n := L.r) (xs := L.ids.map fun p => D.ref p.1) (fun Q => by simp [a.o, wp_itO a.rs]) a.rs]
  refine walk_rooms a (fun i Γ => (∃ o3 o4, Γ = [some (.ref L.n), some (.int b), some (.int w), o3, o4]) ∧ ∀ j r, j < i → s.rooms[j]? = some r → clear1 s.gap b w r = true) ⟨⟨none, none, rfl⟩, fun j r hj => by omega⟩ (fun i p r Γ q hp hr => ?_) (fun Γ q => ?_)
  · obtain ⟨⟨o3, o4, rfl⟩, q⟩ := q
    have hroom := a.rm i p r hp hr
    simp [a.o, hroom]
    have ec : clear1 s.gap b w r = !(!decide (r.st = "gone") && (decide (b < r.w + r.z + s.gap) && decide (r.w - s.gap < b + w))) := rfl
    have all : clear1 s.gap b w r = true → ∀ j r', j < i + 1 → s.rooms[j]? = some r' → clear1 s.gap b w r' = true := fun c j r' hj hr' => by
      by_cases ej : j = i
      · subst ej
        rw [hr] at hr'
        cases hr'
        exact c
      · exact q j r' (by omega) hr'
    by_cases h1 : r.st = "gone"
    · simp [h1] at ec ⊢
      exact all ec
    · by_cases h2 : b < r.w + r.z + s.gap
      · by_cases h3 : r.w - s.gap < b + w
        · simp [h1, h2, h3] at ec ⊢
          unfold Sto.clear
          exact List.all_eq_false.mpr ⟨r, List.mem_of_getElem? hr, by simp [ec]⟩
        · simp [h1, h2, h3] at ec ⊢
          exact all ec
      · simp [h1, h2] at ec ⊢
        exact all ec
  · obtain ⟨⟨o3, o4, rfl⟩, q⟩ := q
    simp
    unfold Sto.clear
    refine List.all_eq_true.mpr fun r hr => ?_
    obtain ⟨j, hj, e⟩ := List.mem_iff_getElem.mp hr
    exact q j r hj (by rw [List.getElem?_eq_getElem hj, e])
end
/-! ### loops over values by places -/
theorem wp_loopX {b : D → Sw.Env → M Fl} {xs : List D} {Q : Fl → PH → Prop} (I : Nat → Sw.Env → PH → Prop) (hs : ∀ i x Γ h, I i Γ h → xs[i]? = some x → wp (b x Γ h) fun f h' => match f with
    | .nx Γ' => I (i + 1) Γ' h'
    | .rt d => Q (.rt d) h') (he : ∀ Γ h, I xs.length Γ h → Q (.nx Γ) h) {Γ : Sw.Env} {h : PH} (h0 : I 0 Γ h) : wp (loopV b xs Γ h) Q := by
  refine wp_loopV (fun r Γ h => ∃ i, i ≤ xs.length ∧ r = xs.drop i ∧ I i Γ h) (fun x r Γ h q => ?_) (fun Γ h q => ?_) xs Γ h ⟨0, Nat.zero_le _, rfl, h0⟩
  · obtain ⟨i, hi, e, q⟩ := q
    have hl : i < xs.length := by
      rcases Nat.lt_or_ge i xs.length with h | h
      · exact h
      · rw [List.drop_eq_nil_of_le h] at e
        cases e
    rw [List.drop_eq_getElem_cons hl] at e
    injection e with e1 e2
    refine wp_mono (hs i x Γ h q (by rw [e1]; exact List.getElem?_eq_getElem hl)) fun f h' q' => ?_
    cases f with
    | nx Γ' => exact ⟨i + 1, hl, e2, q'⟩
    | rt d => exact q'
  · obtain ⟨i, hi, e, q⟩ := q
    have : i = xs.length := by
      rcases Nat.lt_or_ge i xs.length with h | h
      · rw [List.drop_eq_getElem_cons h] at e
        cases e
      · omega
    subst this
    exact he Γ h q
theorem rng_len {lo : Int} {n : Nat} : (rngD lo n).length = n := by simp [rngD]
theorem rng_get {lo : Int} {n i : Nat} {x : D} (e : (rngD lo n)[i]? = some x) : i < n ∧ x = .int (lo + (i : Int)) := by
  have hi := (List.getElem?_eq_some_iff.mp e).1
  rw [rng_len] at hi
  unfold rngD at e
  rw [List.getElem?_map, List.getElem?_range hi] at e
  cases e
  exact ⟨hi, rfl⟩
/-! ### a room given out -/
theorem set_last {h : PH} {x y : Ob} : (h ++ [x]).set h.length y = h ++ [y] := by simp
theorem set_last2 {h : PH} {x y z : Ob} : (h ++ [x, z]).set h.length y = h ++ [y, z] := by simp
theorem get_last2 {h : PH} {x z : Ob} : (h ++ [x, z])[h.length]? = some x := by simp
section
variable {a b c d : D}
theorem pf1 : putFD "where" a [] = ([("where", a)] : List (Str × D)) := rfl
theorem pf2 : putFD "wide" b ([("where", a)] : List (Str × D)) = ([("where", a), ("wide", b)] : List (Str × D)) := by kernel_rfl
theorem pf3 : putFD "state" c ([("where", a), ("wide", b)] : List (Str × D)) = ([("where", a), ("wide", b), ("state", c)] : List (Str × D)) := by kernel_rfl
theorem pf4 : putFD "known" d ([("where", a), ("wide", b), ("state", c)] : List (Str × D)) = ([("where", a), ("wide", b), ("state", c), ("known", d)] : List (Str × D)) := by kernel_rfl
end
theorem room_new_ok {h : PH} {w z : Int} {Q : D → PH → Prop} : wp (f_Room_new [.ref h.length, .int w, .int z] (h ++ [.ins "Room" []])) Q = Q .non (h ++ [.ins "Room" (roomFs ⟨w, z, "living", []⟩ (h.length + 1)), .dct (knD [])]) := by
  simp only [f_Room_new, wp_fnM]
  simp [b_Room_new, putO, pf1, pf2, pf3, pf4, get_last2, set_last2]
  rfl
section
variable {h : PH} {L : SL} {s : Sto} {Q : D → PH → Prop}
def SL.add (L : SL) (m : Nat) : SL := { L with ids := L.ids ++ [(m, m + 1)] }
def Sto.add (s : Sto) (r : Rm) : Sto := { s with rooms := s.rooms ++ [r] }
theorem SL.add_all (L : SL) (m : Nat) : (L.add m).all = L.all ++ [m, m + 1] := by
  simp [SL.add, SL.all]
theorem snoc_get {α : Type} {xs : List α} {y z : α} {i : Nat} (e : (xs ++ [y])[i]? = some z) : (xs[i]? = some z) ∨ (i = xs.length ∧ z = y) := by
  rcases Nat.lt_or_ge i xs.length with hi | hi
  · rw [List.getElem?_append_left hi] at e
    exact .inl e
  · rw [List.getElem?_append_right hi] at e
    have : i - xs.length = 0 := by
      rcases Nat.eq_zero_or_pos (i - xs.length) with q | q
      · exact q
      · rw [List.getElem?_eq_none (by simp; omega)] at e
        cases e
    rw [this] at e
    cases e
    exact .inr ⟨by omega, rfl⟩
theorem SAt.add (a : SAt h L s) {r : Rm} (few : s.rooms.length < 200000) : SAt ((h ++ [Ob.ins "Room" (roomFs r (h.length + 1)), Ob.dct (knD r.kn)]).set L.r (.lst ((L.add h.length).ids.map fun p : Nat × Nat => D.ref p.1))) (L.add h.length) (s.add r) := by
  have lt := a.lt
  have hr := lt _ SL.r_mem
  have g1 : ∀ i, i < h.length → i ≠ L.r → ((h ++ [Ob.ins "Room" (roomFs r (h.length + 1)), Ob.dct (knD r.kn)]).set L.r (.lst ((L.add h.length).ids.map fun p : Nat × Nat => D.ref p.1)))[i]? = h[i]? := fun i hi hne => by
    rw [List.getElem?_set_ne (fun e => hne e.symm), List.getElem?_append_left hi]
  have nd := a.nd
  have nr : L.n ≠ L.r := by
    intro e
    rw [SL.all, List.nodup_cons] at nd
    exact nd.1 (by rw [e]; simp)
  have nd2 : (L.r :: L.w :: L.ids.flatMap fun p => [p.1, p.2]).Nodup := by
    rw [SL.all, List.nodup_cons] at nd
    exact nd.2
  have wr : L.w ≠ L.r := by
    intro e
    rw [List.nodup_cons] at nd2
    exact nd2.1 (by rw [e]; simp)
  have ir : ∀ (i : Nat) p, L.ids[i]? = some p → p.1 ≠ L.r ∧ p.2 ≠ L.r := fun i p e => by
    rw [List.nodup_cons] at nd2
    have := flat_mem e
    exact ⟨fun q => nd2.1 (by rw [← q]; exact List.mem_cons_of_mem _ this.1), fun q => nd2.1 (by rw [← q]; exact List.mem_cons_of_mem _ this.2)⟩
  refine ⟨?_, ?_, ?_, ?_, ?_, ?_, ?_, ?_⟩
  · show _ = some (Ob.ins "Store" (storeFs s L.r L.w))
    rw [show (L.add h.length).n = L.n from rfl, g1 _ (lt _ SL.n_mem) nr]
    exact a.o
  · rw [show (L.add h.length).r = L.r from rfl]
    rw [List.getElem?_set_self (by rw [List.length_append]; omega)]
  · rw [show (L.add h.length).w = L.w from rfl, g1 _ (lt _ SL.w_mem) wr]
    exact a.wt
  · simp [SL.add, Sto.add, a.len]
  · intro i p r' h1 h2
    rcases snoc_get h1 with e1 | ⟨e1, rfl⟩ <;> rcases snoc_get h2 with e2 | ⟨e2, rfl⟩
    · rw [g1 _ (lt _ (SL.i_mem e1).1) (ir i p e1).1]
      exact a.rm i p r' e1 e2
    · have := (List.getElem?_eq_some_iff.mp e1).1
      rw [a.len] at this
      omega
    · have := (List.getElem?_eq_some_iff.mp e2).1
      rw [← a.len] at this
      omega
    · rw [List.getElem?_set_ne (by omega), get_last2]
  · intro i p r' h1 h2
    rcases snoc_get h1 with e1 | ⟨e1, rfl⟩ <;> rcases snoc_get h2 with e2 | ⟨e2, rfl⟩
    · rw [g1 _ (lt _ (SL.i_mem e1).2) (ir i p e1).2]
      exact a.kn i p r' e1 e2
    · have := (List.getElem?_eq_some_iff.mp e1).1
      rw [a.len] at this
      omega
    · have := (List.getElem?_eq_some_iff.mp e2).1
      rw [← a.len] at this
      omega
    · rw [List.getElem?_set_ne (by show L.r ≠ h.length + 1; omega)]
      simp
  · rw [SL.add_all, List.nodup_append]
    refine ⟨nd, by simp, fun x hx y hy => ?_⟩
    have := lt x hx
    simp at hy
    omega
  · simp [Sto.add]
    omega
def Sto.ok (s : Sto) : Prop := 8 ≤ s.many ∧ s.many ≤ 64 ∧ 0 ≤ s.gap ∧ s.gap ≤ 2 ∧ 0 ≤ s.keep ∧ s.keep ≤ 32
theorem room_ok (a : SAt h L s) (ok : s.ok) {z : Int} (z1 : 1 ≤ z) (z8 : z ≤ 8) (few : s.rooms.length < 200000)
    (q1 : (∀ b : Nat, (b : Int) + (z + 2 * s.gap) ≤ s.many → s.clear b (z + 2 * s.gap) = false) → Q .non h)
    (q2 : ∀ b : Nat, (b : Int) + (z + 2 * s.gap) ≤ s.many → s.clear b (z + 2 * s.gap) = true → (∀ b' : Nat, b' < b → s.clear b' (z + 2 * s.gap) = false) → ∀ h', SAt h' (L.add h.length) (s.add ⟨b + s.gap, z, "living", []⟩) → (∀ i, i < h.length → i ≠ L.r → h'[i]? = h[i]?) → h'.length = h.length + 2 → Q (.int s.rooms.length) h') :
    wp (f_Store_room [.ref L.n, .int z] h) Q := by
  obtain ⟨m8, m64, g0, g2, _, _⟩ := ok
  simp only [f_Store_room, wp_fnM]
  simp only [b_Store_room, wp_sSeq]
  simp [a.o, z1, z8]
  have m2 : Int.natAbs s.gap < 2 ^ 64 := by omega
  rw [wp_forV (xs := rngD 0 (s.many - (z + 2 * s.gap) + 1).toNat)]
  · refine wp_loopX (fun i Γ h' => h' = h ∧ (∃ o3, Γ = [some (.ref L.n), some (.int z), some (.int (z + 2 * s.gap)), o3]) ∧ ∀ b : Nat, b < i → s.clear b (z + 2 * s.gap) = false) (fun i x Γ h' q hx => ?_) (fun Γ h' q => ?_) ⟨rfl, ⟨none, rfl⟩, fun b hb => by omega⟩
    · obtain ⟨rfl, ⟨o3, rfl⟩, q⟩ := q
      obtain ⟨hi, rfl⟩ := rng_get hx
      have hin : ((i : Int)) + (z + 2 * s.gap) ≤ s.many := by omega
      have e0 : (0 : Int) + (i : Int) = (i : Int) := by omega
      rw [e0]
      simp [wp_gMeth_, a.o, is_clear_ok a]
      by_cases ec : s.clear i (z + 2 * s.gap) = true
      · have hlst : isLstD h' (.ref L.r) = true := by
          unfold isLstD
          simp only [a.rs]
        have lt := a.lt
        have hr := lt _ SL.r_mem
        have hn := lt _ SL.n_mem
        have nr : L.n ≠ L.r := by
          intro e
          have nd := a.nd
          rw [SL.all, List.nodup_cons] at nd
          exact nd.1 (by rw [e]; simp)
        have app := a.add (r := ⟨i + s.gap, z, "living", []⟩) few
        have ers : (h' ++ [Ob.ins "Room" (roomFs ⟨i + s.gap, z, "living", []⟩ (h'.length + 1)), .dct (knD [])])[L.r]? = some (.lst (L.ids.map fun p => .ref p.1)) := by
          rw [List.getElem?_append_left hr]
          exact a.rs
        have hlen : ((L.ids.map fun p : Nat × Nat => D.ref p.1).length < 16777216) = True := by
          rw [List.length_map, a.len]
          exact eq_true (by omega)
        simp only [ec, if_true, hlst, true_and, room_new_ok, ers, mApp, hlen]
        have elst : (L.ids.map fun p : Nat × Nat => D.ref p.1) ++ [.ref h'.length] = (L.add h'.length).ids.map fun p => D.ref p.1 := by
          simp [SL.add]
        simp only [elst]
        have eo := app.o
        have er := app.rs
        rw [show (L.add h'.length).n = L.n from rfl, show (L.add h'.length).r = L.r from rfl, show (L.add h'.length).w = L.w from rfl] at eo
        rw [show (L.add h'.length).r = L.r from rfl] at er
        simp [eo, er, wp_lenRef]
        have el : ((L.add h'.length).ids.length : Int) - 1 = s.rooms.length := by
          simp [SL.add, a.len]
        rw [el]
        refine q2 i hin ec q _ app (fun j hj hne => ?_) (by simp)
        rw [List.getElem?_set_ne (fun e => hne e.symm), List.getElem?_append_left hj]
      · have ec' : s.clear i (z + 2 * s.gap) = false := by simpa using ec
        simp [ec']
        intro b hb
        by_cases e : b = i
        · subst e
          exact ec'
        · exact q b (by omega)
    · obtain ⟨rfl, ⟨o3, rfl⟩, q⟩ := q
      simp
      refine q1 fun b hb => q b ?_
      rw [rng_len]
      omega
  · intro Q
    rw [wp_rg1 (j := s.many - (z + 2 * s.gap) + 1)]
    · intro Q
      simp [a.o]
    · omega
end
/-! ### marks -/
theorem knD_get {kn : List Int} {c : Int} : (getD_ (knD kn) (.inl c)).isSome = decide (c ∈ kn) := by
  unfold getD_ knD
  induction kn with
  | nil => rfl
  | cons x xs ih =>
    rw [List.map_cons, List.find?_cons]
    by_cases e : x = c
    · subst e
      simp
    · have e1 : decide ((Sum.inl x : Key) = .inl c) = false := by simp [e]
      simp only [e1]
      rw [ih]
      have e2 : ¬ c = x := fun q => e q.symm
      simp [e2]
/-- what a room tells of a cell that is its own -/
def own1 (c : Int) (r : Rm) : Option Str := if r.st ≠ "gone" ∧ r.w ≤ c ∧ c < r.w + r.z then some (if r.st = "kept" then ("freed" : Str) else if c ∈ r.kn then ("set" : Str) else ("fresh" : Str)) else none
def near1 (gap c : Int) (r : Rm) : Option Str := if r.st ≠ "gone" ∧ r.w - gap ≤ c ∧ c < r.w + r.z + gap then some "gap" else none
def Sto.mark (s : Sto) (c : Int) : Str := match s.rooms.findSome? (own1 c) with
  | some m => m
  | none => (match s.rooms.findSome? (near1 s.gap c) with
    | some m => m
    | none => "open")
theorem findSome_none {α β : Type} {f : α → Option β} {xs : List α} (h : ∀ (j : Nat) x, xs[j]? = some x → f x = none) : xs.findSome? f = none := by
  rw [List.findSome?_eq_none_iff]
  intro x hx
  obtain ⟨j, hj, e⟩ := List.mem_iff_getElem.mp hx
  exact h j x (by rw [List.getElem?_eq_getElem hj, e])
theorem findSome_some {α β : Type} {f : α → Option β} : ∀ {xs : List α} {i : Nat} {x : α} {y : β}, (∀ (j : Nat) z, j < i → xs[j]? = some z → f z = none) → xs[i]? = some x → f x = some y → xs.findSome? f = some y
  | [], i, x, y, _, e, _ => by simp at e
  | z :: zs, 0, x, y, _, e, q => by
    cases e
    rw [List.findSome?_cons, q]
  | z :: zs, i + 1, x, y, h, e, q => by
    rw [List.findSome?_cons, h 0 z (by omega) rfl]
    exact findSome_some (i := i) (fun j w hj hw => h (j + 1) w (by omega) (by simpa using hw)) (by simpa using e) q
theorem nonef {α β : Type} {f : α → Option β} {xs : List α} {i : Nat} {r : α} (q : ∀ (j : Nat) z, j < i → xs[j]? = some z → f z = none) (hr : xs[i]? = some r) (e : f r = none) : ∀ (j : Nat) z, j < i + 1 → xs[j]? = some z → f z = none := fun j z hj hz => by
  by_cases ej : j = i
  · subst ej
    rw [hr] at hz
    cases hz
    exact e
  · exact q j z (by omega) hz
section
variable {h : PH} {L : SL} {s : Sto} {Q : D → PH → Prop}
theorem mark_ok (a : SAt h L s) {c : Int} : wp (f_Store_mark [.ref L.n, .int c] h) Q = Q (.str (s.mark c)) h := by
  refine wp_det ?_ Q
  simp only [f_Store_mark, wp_fnM]
  simp only [b_Store_mark]
  rw [wp_sSeq, wp_forR (n := L.r) (xs := L.ids.map fun p => D.ref p.1) (fun Q => by simp [a.o, wp_itO a.rs]) a.rs]
  refine walk_rooms a (fun i Γ => (∃ o2, Γ = [some (.ref L.n), some (.int c), o2]) ∧ ∀ j r, j < i → s.rooms[j]? = some r → own1 c r = none) ⟨⟨none, rfl⟩, fun j r hj => by omega⟩ (fun i p r Γ q hp hr => ?_) (fun Γ q => ?_)
  · obtain ⟨⟨o2, rfl⟩, q⟩ := q
    have hroom := a.rm i p r hp hr
    have hkn := a.kn i p r hp hr
    simp [wp_gMeth_, hroom, has_ok hroom, wp_inRef hkn, keyD, knD_get]
    have eo : own1 c r = if r.st ≠ "gone" ∧ r.w ≤ c ∧ c < r.w + r.z then some (if r.st = "kept" then ("freed" : Str) else if c ∈ r.kn then ("set" : Str) else ("fresh" : Str)) else none := rfl
    have fin : ∀ m : Str, own1 c r = some m → s.mark c = m := fun m e => by
      unfold Sto.mark
      rw [findSome_some q hr e]
    by_cases h1 : r.st = "gone"
    · simp [h1] at eo ⊢
      exact nonef q hr eo
    · by_cases h2 : r.w ≤ c
      · by_cases h3 : c < r.w + r.z
        · by_cases h4 : r.st = "kept"
          · have h5 : ¬ ((Str.ofString "kept" : Str) = Str.ofString "gone") := by decide +kernel
            simp [h2, h3, h4, h5] at eo ⊢
            exact (fin _ eo).symm
          · by_cases h6 : c ∈ r.kn
            · simp [h1, h2, h3, h4, h6] at eo ⊢
              exact (fin _ eo).symm
            · simp [h1, h2, h3, h4, h6] at eo ⊢
              exact (fin _ eo).symm
        · simp [h1, h2, h3] at eo ⊢
          exact nonef q hr eo
      · simp [h1, h2] at eo ⊢
        exact nonef q hr eo
  · obtain ⟨⟨o2, rfl⟩, q⟩ := q
    have e0 : s.rooms.findSome? (own1 c) = none := findSome_none fun j x hx => q j x (List.getElem?_eq_some_iff.mp hx).1 hx
    simp only []
    rw [wp_sSeq, wp_forR (n := L.r) (xs := L.ids.map fun p => D.ref p.1) (fun Q => by simp [a.o, wp_itO a.rs]) a.rs]
    refine walk_rooms a (fun i Γ => (∃ o2, Γ = [some (.ref L.n), some (.int c), o2]) ∧ ∀ j r, j < i → s.rooms[j]? = some r → near1 s.gap c r = none) ⟨⟨o2, rfl⟩, fun j r hj => by omega⟩ (fun i p r Γ q hp hr => ?_) (fun Γ q => ?_)
    · obtain ⟨⟨o2, rfl⟩, q⟩ := q
      have hroom := a.rm i p r hp hr
      simp [a.o, hroom]
      have eo : near1 s.gap c r = if r.st ≠ "gone" ∧ r.w - s.gap ≤ c ∧ c < r.w + r.z + s.gap then some ("gap" : Str) else none := rfl
      by_cases h1 : r.st = "gone"
      · simp [h1] at eo ⊢
        exact nonef q hr eo
      · by_cases h2 : r.w - s.gap ≤ c
        · by_cases h3 : c < r.w + r.z + s.gap
          · simp [h1, h2, h3] at eo ⊢
            unfold Sto.mark
            rw [e0, findSome_some q hr eo]
          · simp [h1, h2, h3] at eo ⊢
            exact nonef q hr eo
        · simp [h1, h2] at eo ⊢
          exact nonef q hr eo
    · obtain ⟨⟨o2, rfl⟩, q⟩ := q
      have e1 : s.rooms.findSome? (near1 s.gap c) = none := findSome_none fun j x hx => q j x (List.getElem?_eq_some_iff.mp hx).1 hx
      simp
      unfold Sto.mark
      rw [e0, e1]
/-! ### the owner of a cell, a cell written -/
def Sto.hasAt (s : Sto) (c : Int) (i : Nat) : Bool := match s.rooms[i]? with
  | some r => decide (r.w ≤ c) && decide (c < r.w + r.z)
  | none => false
def Sto.owner (s : Sto) (c : Int) : Option Nat := (s.living.filter (s.hasAt c)).head?
def natO : Option Nat → D
  | some i => .int (i : Int)
  | none => .non
theorem living_lt {i : Nat} (h : i ∈ s.living) : i < s.rooms.length := by
  unfold Sto.living at h
  exact List.mem_range.mp (List.mem_filter.mp h).1
theorem natD_ints (xs : List Nat) : natD xs = (xs.map fun (i : Nat) => (i : Int)).map D.int := by
  unfold natD
  rw [List.map_map]
  rfl
theorem natD_len (xs : List Nat) : (natD xs).length = xs.length := by
  unfold natD
  rw [List.length_map]
theorem living_len : s.living.length ≤ s.rooms.length := by
  unfold Sto.living
  exact Nat.le_trans (List.length_filter_le _ _) (by rw [List.length_range]; exact Nat.le_refl _)
theorem owner_ok (a : SAt h L s) {c : Int} : wp (f_Store_owner [.ref L.n, .int c] h) Q = Q (natO (s.owner c)) h := by
  simp only [f_Store_owner, wp_fnM]
  simp only [b_Store_owner, wp_sSeq, wp_sSet, wp_gVal]
  have hf := a.few
  rw [lComp_V (xs := natD s.living) (g := gFil (s.hasAt c))]
  · have e : (natD s.living).flatMap (gFil (s.hasAt c)) = natD (s.living.filter (s.hasAt c)) := flat_filter _ _
    rw [e]
    unfold Sto.owner
    cases q : s.living.filter (s.hasAt c) with
    | nil =>
      simp [natD, natO]
      rw [show ([] : List D) = ([] : List Int).map D.int from rfl, neLI]
      simp
    | cons i r =>
      simp
      rw [natD_ints, neL0]
      have e : atI ((List.map (fun (i : Nat) => (i : Int)) (i :: r)).map D.int) 0 = some (.int (i : Int)) := by
        have := Sw.atI_nat (xs := (List.map (fun (i : Nat) => (i : Int)) (i :: r)).map D.int) (k := 0)
        exact this
      simp [natO] at e ⊢
      rw [e]
  · intro Q
    have : s.living.length ≤ 16777216 := Nat.le_trans living_len (by omega)
    simp [wp_gMeth_, a.o, living_ok a, natD_len, this]
  · intro x hx Q
    unfold natD at hx
    obtain ⟨i, hi, rfl⟩ := List.mem_map.mp hx
    have hl := living_lt hi
    have hr : s.rooms[i]? = some s.rooms[i] := List.getElem?_eq_getElem hl
    obtain ⟨p, hp⟩ := a.ids_at hl
    have hroom := a.rm i p _ hp hr
    have e : s.hasAt c i = (decide (s.rooms[i].w ≤ c) && decide (c < s.rooms[i].w + s.rooms[i].z)) := by
      unfold Sto.hasAt
      rw [hr]
    simp [wp_gMeth_, wipeE, a.o, wp_ixRef, a.rs, refs_at hp, hroom, has_ok hroom, e]
    split <;> rfl
def addKn (c : Int) (kn : List Int) : List Int := if c ∈ kn then kn else kn ++ [c]
theorem knD_put {kn : List Int} {c : Int} : putD_ (knD kn) (.inl c) (.bl true) = knD (addKn c kn) := by
  have e : ((knD kn).any fun kv => decide (kv.1 = (.inl c : Key))) = decide (c ∈ kn) := by
    unfold knD
    rw [List.any_map]
    induction kn with
    | nil => rfl
    | cons x xs ih =>
      rw [List.any_cons, ih]
      by_cases q : x = c
      · simp [q]
      · have : ¬ c = x := fun z => q z.symm
        simp [q, this]
  unfold putD_ addKn
  rw [e]
  by_cases q : c ∈ kn
  · simp only [q, decide_true, if_true]
    unfold knD
    rw [List.map_map]
    refine List.map_congr_left fun x _ => ?_
    show (if (Sum.inl x : Key) = .inl c then _ else _) = _
    by_cases z : x = c <;> simp [z]
  · simp [q, knD]
def Sto.setRoom (s : Sto) (i : Nat) (f : Rm → Rm) : Sto := { s with rooms := s.rooms.modify i f }
theorem SAt.setRm (a : SAt h L s) {i : Nat} {p : Nat × Nat} (hp : L.ids[i]? = some p) {r : Rm} (hr : s.rooms[i]? = some r) {f : Rm → Rm} {h' : PH} (k : ∀ j ∈ L.all, j ≠ p.1 → j ≠ p.2 → h'[j]? = h[j]?) (h1 : h'[p.1]? = some (.ins "Room" (roomFs (f r) p.2))) (h2 : h'[p.2]? = some (.dct (knD (f r).kn))) : SAt h' L (s.setRoom i f) := by
  have nd := a.nd
  have nd1 : L.n ∉ (L.r :: L.w :: L.ids.flatMap fun p => [p.1, p.2]) ∧ (L.r :: L.w :: L.ids.flatMap fun p => [p.1, p.2]).Nodup := List.nodup_cons.mp nd
  have nd2 := List.nodup_cons.mp nd1.2
  have nd3 := List.nodup_cons.mp nd2.2
  have fm := flat_mem hp
  have nn : L.n ≠ p.1 ∧ L.n ≠ p.2 := ⟨fun e => nd1.1 (by rw [e]; exact List.mem_cons_of_mem _ (List.mem_cons_of_mem _ fm.1)), fun e => nd1.1 (by rw [e]; exact List.mem_cons_of_mem _ (List.mem_cons_of_mem _ fm.2))⟩
  have nr : L.r ≠ p.1 ∧ L.r ≠ p.2 := ⟨fun e => nd2.1 (by rw [e]; exact List.mem_cons_of_mem _ fm.1), fun e => nd2.1 (by rw [e]; exact List.mem_cons_of_mem _ fm.2)⟩
  have nw : L.w ≠ p.1 ∧ L.w ≠ p.2 := ⟨fun e => nd3.1 (by rw [e]; exact fm.1), fun e => nd3.1 (by rw [e]; exact fm.2)⟩
  have sep : ∀ (j : Nat) q, j ≠ i → L.ids[j]? = some q → q.1 ≠ p.1 ∧ q.1 ≠ p.2 ∧ q.2 ≠ p.1 ∧ q.2 ≠ p.2 := by
    have gen : ∀ (ids : List (Nat × Nat)), (ids.flatMap fun p => [p.1, p.2]).Nodup → ∀ (i j : Nat) p q, j ≠ i → ids[i]? = some p → ids[j]? = some q → q.1 ≠ p.1 ∧ q.1 ≠ p.2 ∧ q.2 ≠ p.1 ∧ q.2 ≠ p.2 := by
      intro ids
      induction ids with
      | nil => intro _ i j p q _ e; simp at e
      | cons x xs ih =>
        intro nd i j p q hne e1 e2
        rw [List.flatMap_cons] at nd
        obtain ⟨d1, d2, d3⟩ := List.nodup_append.mp nd
        cases i with
        | zero =>
          cases j with
          | zero => exact absurd rfl hne
          | succ j =>
            cases e1
            have m := flat_mem (ids := xs) (i := j) (p := q) (by simpa using e2)
            refine ⟨fun e => d3 x.1 (by simp) q.1 m.1 e.symm, fun e => d3 x.2 (by simp) q.1 m.1 e.symm, fun e => d3 x.1 (by simp) q.2 m.2 e.symm, fun e => d3 x.2 (by simp) q.2 m.2 e.symm⟩
        | succ i =>
          cases j with
          | zero =>
            cases e2
            have m := flat_mem (ids := xs) (i := i) (p := p) (by simpa using e1)
            refine ⟨fun e => d3 x.1 (by simp) p.1 m.1 e, fun e => d3 x.1 (by simp) p.2 m.2 e, fun e => d3 x.2 (by simp) p.1 m.1 e, fun e => d3 x.2 (by simp) p.2 m.2 e⟩
          | succ j => exact ih d2 i j p q (by omega) (by simpa using e1) (by simpa using e2)
    exact fun j q hne e => gen L.ids nd3.2 i j p q hne hp e
  have getr : ∀ (j : Nat) r', (s.setRoom i f).rooms[j]? = some r' → (j = i ∧ r' = f r) ∨ (j ≠ i ∧ s.rooms[j]? = some r') := fun j r' e => by
    unfold Sto.setRoom at e
    rw [List.getElem?_modify] at e
    by_cases q : i = j
    · subst q
      rw [hr] at e
      simp at e
      exact .inl ⟨rfl, e.symm⟩
    · simp [q] at e
      exact .inr ⟨fun z => q z.symm, e⟩
  refine ⟨?_, ?_, ?_, ?_, ?_, ?_, nd, ?_⟩
  · rw [k _ SL.n_mem nn.1 nn.2]
    exact a.o
  · rw [k _ SL.r_mem nr.1 nr.2]
    exact a.rs
  · rw [k _ SL.w_mem nw.1 nw.2]
    exact a.wt
  · simp [Sto.setRoom, a.len]
  · intro j q r' e1 e2
    rcases getr j r' e2 with ⟨rfl, rfl⟩ | ⟨hne, e⟩
    · rw [hp] at e1
      cases e1
      exact h1
    · have z := sep j q hne e1
      rw [k _ (SL.i_mem e1).1 z.1 z.2.1]
      exact a.rm j q r' e1 e
  · intro j q r' e1 e2
    rcases getr j r' e2 with ⟨rfl, rfl⟩ | ⟨hne, e⟩
    · rw [hp] at e1
      cases e1
      exact h2
    · have z := sep j q hne e1
      rw [k _ (SL.i_mem e1).2 z.2.2.1 z.2.2.2]
      exact a.kn j q r' e1 e
  · simpa [Sto.setRoom] using a.few
theorem ids_ne (a : SAt h L s) {i : Nat} {p : Nat × Nat} (hp : L.ids[i]? = some p) : p.1 ≠ p.2 := by
  have nd3 := (List.nodup_cons.mp (List.nodup_cons.mp (List.nodup_cons.mp a.nd).2).2).2
  have gen : ∀ (ids : List (Nat × Nat)), (ids.flatMap fun p => [p.1, p.2]).Nodup → ∀ (i : Nat) p, ids[i]? = some p → p.1 ≠ p.2 := by
    intro ids
    induction ids with
    | nil => intro _ i p e; simp at e
    | cons x xs ih =>
      intro nd i p e
      rw [List.flatMap_cons] at nd
      obtain ⟨d1, d2, d3⟩ := List.nodup_append.mp nd
      cases i with
      | zero =>
        cases e
        simpa using d1
      | succ i => exact ih d2 i p (by simpa using e)
  exact gen L.ids nd3 i p hp
end
/-! ### a cell written, a room freed -/
section
variable {h : PH} {L : SL} {s : Sto} {Q : D → PH → Prop}
def Sto.write (s : Sto) (c : Int) : Sto := match s.owner c with
  | some i => s.setRoom i fun r => { r with kn := addKn c r.kn }
  | none => s
theorem owner_mem {c : Int} {i : Nat} (e : s.owner c = some i) : i ∈ s.living ∧ s.hasAt c i = true := by
  unfold Sto.owner at e
  have : i ∈ s.living.filter (s.hasAt c) := List.mem_of_mem_head? e
  exact List.mem_filter.mp this
theorem write_ok (a : SAt h L s) {c : Int} (hk : ∀ r ∈ s.rooms, r.kn.length < 16777216) (q : ∀ h', SAt h' L (s.write c) → (∀ i, i ∉ L.all → h'[i]? = h[i]?) → h'.length = h.length → Q .non h') : wp (f_Store_write [.ref L.n, .int c] h) Q := by
  simp only [f_Store_write, wp_fnM]
  simp [b_Store_write, wp_gMeth_, a.o, owner_ok a]
  cases e : s.owner c with
  | none =>
    simp [natO]
    refine q h ?_ (fun _ _ => rfl) rfl
    unfold Sto.write
    rw [e]
    exact a
  | some i =>
    have hl := living_lt (owner_mem e).1
    have hr : s.rooms[i]? = some s.rooms[i] := List.getElem?_eq_getElem hl
    obtain ⟨p, hp⟩ := a.ids_at hl
    have hroom := a.rm i p _ hp hr
    have hkn := a.kn i p _ hp hr
    have lt := (List.getElem?_eq_some_iff.mp hkn).1
    have lk : (knD s.rooms[i].kn).length < 16777216 := by
      unfold knD
      rw [List.length_map]
      exact hk _ (List.getElem_mem hl)
    simp [natO, a.o, wp_ixRef, a.rs, refs_at hp, hroom, wp_setRef, hkn, keyD, lk, knD_put]
    refine q _ ?_ (fun j hj => ?_) (by simp)
    · unfold Sto.write
      rw [e]
      refine a.setRm hp hr (fun j _ _ h2 => List.getElem?_set_ne (fun z => h2 z.symm)) ?_ ?_
      · rw [List.getElem?_set_ne (fun z => ids_ne a hp z.symm)]
        exact hroom
      · rw [List.getElem?_set_self lt]
    · exact List.getElem?_set_ne fun z => hj (by rw [← z]; exact (SL.i_mem hp).2)
def Sto.put (s : Sto) (i : Nat) (x : Str) : Sto := s.setRoom i fun r => { r with st := x }
theorem SAt.putSt (a : SAt h L s) {i : Nat} {p : Nat × Nat} (hp : L.ids[i]? = some p) {r : Rm} (hr : s.rooms[i]? = some r) (x : Str) : SAt (h.set p.1 (.ins "Room" (roomFs { r with st := x } p.2))) L (s.put i x) := by
  have hroom := a.rm i p _ hp hr
  have hkn := a.kn i p _ hp hr
  have lt := (List.getElem?_eq_some_iff.mp hroom).1
  refine a.setRm hp hr (fun j _ h1 _ => List.getElem?_set_ne (fun z => h1 z.symm)) ?_ ?_
  · rw [List.getElem?_set_self lt]
  · rw [List.getElem?_set_ne (ids_ne a hp)]
    exact hkn
theorem SAt.setW (a : SAt h L s) (ws : List Nat) : SAt (h.set L.w (.lst (natD ws))) L { s with waiting := ws } := by
  have nd := a.nd
  have nd1 : L.n ∉ (L.r :: L.w :: L.ids.flatMap fun p => [p.1, p.2]) ∧ (L.r :: L.w :: L.ids.flatMap fun p => [p.1, p.2]).Nodup := List.nodup_cons.mp nd
  have nd2 := List.nodup_cons.mp nd1.2
  have nd3 := List.nodup_cons.mp nd2.2
  have g : ∀ {j}, L.w ≠ j → (h.set L.w (.lst (natD ws)))[j]? = h[j]? := fun e => List.getElem?_set_ne e
  refine ⟨?_, ?_, ?_, a.len, ?_, ?_, nd, a.few⟩
  · rw [g fun e => nd1.1 (by rw [← e]; simp)]
    exact a.o
  · rw [g fun e => nd2.1 (by rw [← e]; simp)]
    exact a.rs
  · rw [List.getElem?_set_self (a.lt _ SL.w_mem)]
    rfl
  · intro i p r e1 e2
    rw [g fun e => nd3.1 (by rw [e]; exact (flat_mem e1).1)]
    exact a.rm i p r e1 e2
  · intro i p r e1 e2
    rw [g fun e => nd3.1 (by rw [e]; exact (flat_mem e1).2)]
    exact a.kn i p r e1 e2
def Sto.wideAt (s : Sto) (i : Nat) : Int := match s.rooms[i]? with
  | some r => r.z
  | none => 0
def Sto.sumW (s : Sto) (ws : List Nat) : Int := (ws.map s.wideAt).sum
/-- the first ones kept leave until the rest is no more than keep -/
def drain : List Nat → Sto → Sto
  | [], s => { s with waiting := [] }
  | i :: ws, s => if s.keep < s.sumW (i :: ws) then drain ws (s.put i "gone") else { s with waiting := i :: ws }
def Sto.free (s : Sto) (i : Nat) : Sto := drain (s.waiting ++ [i]) (s.put i "kept")
theorem put_wide (i : Nat) (x : Str) (j : Nat) : (s.put i x).wideAt j = s.wideAt j := by
  unfold Sto.put Sto.setRoom Sto.wideAt
  rw [List.getElem?_modify]
  cases e : s.rooms[j]? with
  | none => rfl
  | some r =>
    by_cases q : i = j <;> simp [q]
theorem put_len (i : Nat) (x : Str) : (s.put i x).rooms.length = s.rooms.length := by
  unfold Sto.put Sto.setRoom
  rw [List.length_modify]
theorem drain_w : ∀ (ws : List Nat) (s : Sto) (v : List Nat), drain ws { s with waiting := v } = drain ws s
  | [], s, v => rfl
  | i :: ws, s, v => by
    unfold drain
    have e1 : Sto.sumW { s with waiting := v } (i :: ws) = s.sumW (i :: ws) := rfl
    have e2 : Sto.put { s with waiting := v } i "gone" = { s.put i "gone" with waiting := v } := rfl
    rw [e1, e2, drain_w ws]
theorem drain_stop {s : Sto} (h : ¬ s.keep < s.sumW s.waiting) : drain s.waiting s = s := by
  obtain ⟨m, g, k, rs, ws⟩ := s
  cases ws with
  | nil => rfl
  | cons i ws =>
    unfold drain
    rw [if_neg h]
def gOne (f : Nat → Int) (d : D) : List D := match d with
  | .int i => [D.int (f i.toNat)]
  | _ => []
@[simp] theorem gOne_nat {f : Nat → Int} {i : Nat} : gOne f (.int (i : Int)) = [.int (f i)] := by
  simp [gOne]
theorem flat_one (f : Nat → Int) : ∀ ws : List Nat, (natD ws).flatMap (gOne f) = (ws.map f).map D.int
  | [] => rfl
  | x :: xs => by
    have ih := flat_one f xs
    unfold natD at ih ⊢
    rw [List.map_cons, List.flatMap_cons, ih]
    simp
theorem free_ok (a : SAt h L s) {i : Nat} {r : Rm} (hr : s.rooms[i]? = some r) (hst : r.st = "living") (hw : ∀ j ∈ s.waiting, j < s.rooms.length) (hl : s.waiting.length < 900000) (hkeep : 0 ≤ s.keep)
    (q : ∀ h', SAt h' L (s.free i) → (∀ i, i ∉ L.all → h'[i]? = h[i]?) → h'.length = h.length → Q .non h') : wp (f_Store_free [.ref L.n, .int i] h) Q := by
  have hi := (List.getElem?_eq_some_iff.mp hr).1
  obtain ⟨p, hp⟩ := a.ids_at hi
  have hroom := a.rm i p r hp hr
  have a1 := a.putSt hp hr "kept"
  have lw : isLstD (h.set p.1 (.ins "Room" (roomFs { r with st := "kept" } p.2))) (.ref L.w) = true := by
    unfold isLstD
    simp only [a1.wt]
  have hwl : (s.put i "kept").waiting.length < 16777216 := by
    show s.waiting.length < _
    omega
  have a2 := a1.setW (s.waiting ++ [i])
  have ew : (s.put i "kept").waiting = s.waiting := rfl
  have ed : (s.waiting.map fun (i : Nat) => D.int (i : Int)) ++ [.int i] = natD (s.waiting ++ [i]) := by
    unfold natD
    rw [List.map_append]
    rfl
  simp only [f_Store_free, wp_fnM]
  simp [b_Store_free, wp_gMeth_, a.o, born_ok a hp, hroom, hst, wp_ixRef, a.rs, refs_at hp, putO, p_state, a1.o, lw, a1.wt, mApp, ew, show s.waiting.length < 16777216 by omega, ed]
  refine wp_loopW (fun n Γ h' => (∃ o2, Γ = [some (.ref L.n), some (.int i), o2]) ∧ ∃ s' : Sto, SAt h' L s' ∧ s'.waiting.length = n ∧ drain s'.waiting s' = s.free i ∧ (∀ j ∈ s'.waiting, j < s'.rooms.length) ∧ s'.keep = s.keep ∧ (∀ i, i ∉ L.all → h'[i]? = h[i]?) ∧ h'.length = h.length ∧ s'.waiting.length ≤ 900000) ?_ 1000000 (s.waiting ++ [i]).length _ _ (by rw [List.length_append]; simp; omega) ⟨⟨none, rfl⟩, _, a2, rfl, ?_, ?_, rfl, ?_, by simp, ?_⟩
  · rintro n Γ h1 ⟨⟨o2, rfl⟩, s1, b1, rfl, e1, hw1, ek, fr, hlen, hl1⟩
    have hlw : (natD s1.waiting).length ≤ 16777216 ∨ True := .inr trivial
    simp
    rw [lComp_R (n := L.w) (xs := natD s1.waiting) (g := gOne s1.wideAt) (fun Q => by simp [b1.o, wp_itO b1.wt]) b1.wt (by rw [natD_len]; omega) ?_]
    · rw [flat_one, wp_sumL]
      simp [b1.o]
      by_cases c : s1.keep < (s1.waiting.map s1.wideAt).sum
      · simp only [c, if_true]
        cases ews : s1.waiting with
        | nil =>
          rw [ews] at c
          simp at c
          omega
        | cons j ws =>
          have hj : j < s1.rooms.length := hw1 j (by rw [ews]; simp)
          obtain ⟨pj, hpj⟩ := b1.ids_at hj
          have hrj : s1.rooms[j]? = some s1.rooms[j] := List.getElem?_eq_getElem hj
          have hroomj := b1.rm j pj _ hpj hrj
          have c1 := b1.setW ws
          have lst : isLstD h1 (.ref L.w) = true := by
            unfold isLstD
            simp only [b1.wt]
          refine ⟨ws.length, rfl, ?_⟩
          have wt1 := b1.wt
          rw [ews] at wt1
          have six : seqIndex? 0 (ws.length + 1) = some 0 := by
            unfold seqIndex?
            simp
          simp [lst, wt1, mPopAt, six]
          have hrj2 : ({ s1 with waiting := ws } : Sto).rooms[j]? = some s1.rooms[j] := hrj
          have c2 := c1.putSt hpj hrj2 "gone"
          have hroomj2 := c1.rm j pj _ hpj hrj2
          have c1rs := c1.rs
          unfold natD at c1rs hroomj2 c2
          simp [wp_ixRef, c1rs, refs_at hpj, putO, hroomj2, p_state]
          refine ⟨_, c2, rfl, ?_, fun x hx => ?_, ek, fun x hx => ?_, hlen, ?_⟩
          · rw [← e1, ews]
            have e2 : Sto.put { s1 with waiting := ws } j "gone" = { s1.put j "gone" with waiting := ws } := rfl
            show drain ws (Sto.put { s1 with waiting := ws } j "gone") = drain (j :: ws) s1
            rw [e2, drain_w]
            show _ = if s1.keep < s1.sumW (j :: ws) then drain ws (s1.put j "gone") else _
            rw [if_pos (by rw [ews] at c; exact c)]
          · rw [put_len]
            exact hw1 x (by rw [ews]; exact List.mem_cons_of_mem _ hx)
          · rw [List.getElem?_set_ne (fun z => hx (by rw [← z]; exact (SL.i_mem hpj).1)), List.getElem?_set_ne (fun z => hx (by rw [← z]; exact SL.w_mem))]
            exact fr x hx
          · have : ws.length < s1.waiting.length := by
              rw [ews]
              simp
            show ws.length ≤ 900000
            omega
      · have cd := drain_stop (s := s1) c
        rw [cd] at e1
        rw [e1] at b1
        have c' : ¬ ((s1.keep < (s1.waiting.map s1.wideAt).sum) : Prop) := c
        rw [if_neg c']
        exact q h1 b1 fr hlen
    · intro x hx Q
      unfold natD at hx
      obtain ⟨j, hj, rfl⟩ := List.mem_map.mp hx
      have hjl := hw1 j hj
      obtain ⟨pj, hpj⟩ := b1.ids_at hjl
      have hrj : s1.rooms[j]? = some s1.rooms[j] := List.getElem?_eq_getElem hjl
      have hroomj := b1.rm j pj _ hpj hrj
      have ew : s1.wideAt j = s1.rooms[j].z := by
        unfold Sto.wideAt
        rw [hrj]
      simp [wipeE, b1.o, wp_ixRef, b1.rs, refs_at hpj, hroomj, ew]
  · show drain (s.waiting ++ [i]) { s.put i "kept" with waiting := s.waiting ++ [i] } = _
    rw [drain_w]
    rfl
  · intro j hj
    have hj : j ∈ s.waiting ++ [i] := hj
    show j < (s.put i "kept").rooms.length
    rw [put_len]
    rcases List.mem_append.mp hj with h | h
    · exact hw j h
    · rw [List.mem_singleton.mp h]
      exact hi
  · intro j hj
    rw [List.getElem?_set_ne (fun z => hj (by rw [← z]; exact SL.w_mem)), List.getElem?_set_ne (fun z => hj (by rw [← z]; exact (SL.i_mem hp).1))]
  · show (s.waiting ++ [i]).length ≤ 900000
    rw [List.length_append]
    simp
    omega
end
/-! ### what holds of a store at all times -/
def ext (gap : Int) (r : Rm) (c : Int) : Prop := r.w - gap ≤ c ∧ c < r.w + r.z + gap
/-- all but that the kept ones come to no more than keep -/
structure Inv0 (s : Sto) : Prop where
  ok : s.ok
  st : ∀ (i : Nat) r, s.rooms[i]? = some r → r.st = "living" ∨ r.st = "kept" ∨ r.st = "gone"
  kp : ∀ (i : Nat) r, s.rooms[i]? = some r → (r.st = "kept" ↔ i ∈ s.waiting)
  nd : s.waiting.Nodup
  wl : ∀ i ∈ s.waiting, i < s.rooms.length
  inn : ∀ (i : Nat) r, s.rooms[i]? = some r → 0 ≤ r.w - s.gap ∧ r.w + r.z + s.gap ≤ s.many ∧ 1 ≤ r.z ∧ r.z ≤ 8
  dis : ∀ (i j : Nat) r q, i ≠ j → s.rooms[i]? = some r → s.rooms[j]? = some q → r.st ≠ "gone" → q.st ≠ "gone" → r.w + r.z + s.gap ≤ q.w - s.gap ∨ q.w + q.z + s.gap ≤ r.w - s.gap
structure Inv (s : Sto) : Prop where
  i0 : Inv0 s
  sum : s.sumW s.waiting ≤ s.keep
theorem s_lk : ¬ ((Str.ofString "living" : Str) = Str.ofString "kept") := by decide +kernel
theorem s_lg : ¬ ((Str.ofString "living" : Str) = Str.ofString "gone") := by decide +kernel
theorem s_kg : ¬ ((Str.ofString "kept" : Str) = Str.ofString "gone") := by decide +kernel
theorem clear1_iff {gap b w : Int} {r : Rm} : clear1 gap b w r = true ↔ (r.st = "gone" ∨ r.w + r.z + gap ≤ b ∨ b + w ≤ r.w - gap) := by
  unfold clear1
  by_cases h1 : r.st = "gone"
  · simp [h1]
  · simp [h1]
    all_goals omega
theorem clear_iff {s : Sto} {b w : Int} : s.clear b w = true ↔ ∀ (i : Nat) r, s.rooms[i]? = some r → r.st = "gone" ∨ r.w + r.z + s.gap ≤ b ∨ b + w ≤ r.w - s.gap := by
  unfold Sto.clear
  rw [List.all_eq_true]
  constructor
  · intro h i r e
    exact clear1_iff.mp (h r (List.mem_of_getElem? e))
  · intro h r hr
    obtain ⟨i, hi, e⟩ := List.mem_iff_getElem.mp hr
    exact clear1_iff.mpr (h i r (by rw [List.getElem?_eq_getElem hi, e]))
theorem Inv0.start {m g k : Int} (h : Sto.ok ⟨m, g, k, [], []⟩) : Inv ⟨m, g, k, [], []⟩ :=
  ⟨⟨h, fun i r e => by simp at e, fun i r e => by simp at e, List.nodup_nil, fun i e => by simp at e, fun i r e => by simp at e, fun i j r q _ e => by simp at e⟩, h.2.2.2.2.1⟩
theorem Inv.add {s : Sto} (v : Inv s) {b : Nat} {z : Int} (z1 : 1 ≤ z) (z8 : z ≤ 8) (hb : (b : Int) + (z + 2 * s.gap) ≤ s.many) (hc : s.clear b (z + 2 * s.gap) = true) : Inv (s.add ⟨b + s.gap, z, "living", []⟩) := by
  have hc := clear_iff.mp hc
  obtain ⟨⟨ok, st, kp, nd, wl, inn, dis⟩, sum⟩ := v
  have gg : ∀ (i : Nat) r, (s.add ⟨b + s.gap, z, "living", []⟩).rooms[i]? = some r → (s.rooms[i]? = some r) ∨ (i = s.rooms.length ∧ r = ⟨b + s.gap, z, "living", []⟩) := fun i r e => snoc_get e
  refine ⟨⟨ok, fun i r e => ?_, fun i r e => ?_, nd, fun i hi => ?_, fun i r e => ?_, fun i j r q hne e1 e2 n1 n2 => ?_⟩, ?_⟩
  · rcases gg i r e with e | ⟨_, rfl⟩
    · exact st i r e
    · exact .inl rfl
  · rcases gg i r e with e | ⟨rfl, rfl⟩
    · exact kp i r e
    · refine ⟨fun z => absurd z s_lk, fun z => ?_⟩
      have := wl _ z
      omega
  · have := wl i hi
    show i < (s.rooms ++ [_]).length
    rw [List.length_append]
    omega
  · rcases gg i r e with e | ⟨_, rfl⟩
    · exact inn i r e
    · show 0 ≤ (b : Int) + s.gap - s.gap ∧ (b : Int) + s.gap + z + s.gap ≤ s.many ∧ 1 ≤ z ∧ z ≤ 8
      omega
  · show r.w + r.z + s.gap ≤ q.w - s.gap ∨ q.w + q.z + s.gap ≤ r.w - s.gap
    rcases gg i r e1 with e1 | ⟨rfl, rfl⟩ <;> rcases gg j q e2 with e2 | ⟨rfl, rfl⟩
    · exact dis i j r q hne e1 e2 n1 n2
    · have := hc i r e1
      simp only
      rcases this with h | h | h
      · exact absurd h n1
      · omega
      · omega
    · have := hc j q e2
      simp only
      rcases this with h | h | h
      · exact absurd h n2
      · omega
      · omega
    · exact absurd rfl hne
  · have e : Sto.sumW (s.add ⟨b + s.gap, z, "living", []⟩) s.waiting = s.sumW s.waiting := by
      unfold Sto.sumW
      refine congrArg List.sum (List.map_congr_left fun i hi => ?_)
      unfold Sto.wideAt Sto.add
      rw [List.getElem?_append_left (wl i hi)]
    show Sto.sumW (s.add ⟨b + s.gap, z, "living", []⟩) s.waiting ≤ s.keep
    rw [e]
    exact sum
/-- a room changed in its state, its cells alone -/
theorem mod_get {s : Sto} {i : Nat} {f : Rm → Rm} {j : Nat} {q : Rm} (e : (s.setRoom i f).rooms[j]? = some q) : ∃ r, s.rooms[j]? = some r ∧ q = if i = j then f r else r := by
  unfold Sto.setRoom at e
  rw [List.getElem?_modify] at e
  cases h : s.rooms[j]? with
  | none =>
    rw [h] at e
    simp at e
  | some r =>
    rw [h] at e
    simp at e
    exact ⟨r, rfl, e.symm⟩
theorem Inv.kn {s : Sto} (v : Inv s) {i : Nat} {f : Rm → List Int} : Inv (s.setRoom i fun r => { r with kn := f r }) := by
  have gg : ∀ (j : Nat) q, (s.setRoom i fun r => { r with kn := f r }).rooms[j]? = some q → ∃ r, s.rooms[j]? = some r ∧ q.w = r.w ∧ q.z = r.z ∧ q.st = r.st := fun j q e => by
    obtain ⟨r, e1, e2⟩ := mod_get e
    refine ⟨r, e1, ?_⟩
    rw [e2]
    split <;> exact ⟨rfl, rfl, rfl⟩
  obtain ⟨⟨ok, st, kp, nd, wl, inn, dis⟩, sum⟩ := v
  refine ⟨⟨ok, fun j q e => ?_, fun j q e => ?_, nd, fun j hj => ?_, fun j q e => ?_, fun j k q p hne e1 e2 n1 n2 => ?_⟩, ?_⟩
  · obtain ⟨r, e1, _, _, e2⟩ := gg j q e
    rw [e2]
    exact st j r e1
  · obtain ⟨r, e1, _, _, e2⟩ := gg j q e
    rw [e2]
    exact kp j r e1
  · have := wl j hj
    simpa [Sto.setRoom] using this
  · obtain ⟨r, e1, e2, e3, _⟩ := gg j q e
    rw [e2, e3]
    exact inn j r e1
  · obtain ⟨r, f1, f2, f3, f4⟩ := gg j q e1
    obtain ⟨r', g1, g2, g3, g4⟩ := gg k p e2
    rw [f2, f3, g2, g3]
    rw [f4] at n1
    rw [g4] at n2
    exact dis j k r r' hne f1 g1 n1 n2
  · have e : Sto.sumW (s.setRoom i fun r => { r with kn := f r }) s.waiting = s.sumW s.waiting := by
      unfold Sto.sumW
      refine congrArg List.sum (List.map_congr_left fun j hj => ?_)
      unfold Sto.wideAt Sto.setRoom
      rw [List.getElem?_modify]
      cases s.rooms[j]? with
      | none => rfl
      | some r => by_cases q : i = j <;> simp [q]
    show Sto.sumW (s.setRoom i fun r => { r with kn := f r }) s.waiting ≤ s.keep
    rw [e]
    exact sum
theorem Inv.write {s : Sto} (v : Inv s) (c : Int) : Inv (s.write c) := by
  unfold Sto.write
  split
  · exact v.kn
  · exact v
/-- state x put, and waiting told anew -/
theorem Inv0.put {s : Sto} (v : Inv0 s) {i : Nat} {x : Str} {ws : List Nat} (hx : x = "kept" ∧ i ∉ s.waiting ∧ ws = s.waiting ++ [i] ∧ i < s.rooms.length ∧ (∀ r, s.rooms[i]? = some r → r.st ≠ "gone") ∨ x = "gone" ∧ s.waiting = i :: ws) : Inv0 { s.put i x with waiting := ws } := by
  obtain ⟨ok, st, kp, nd, wl, inn, dis⟩ := v
  have gg : ∀ (j : Nat) q, (s.put i x).rooms[j]? = some q → ∃ r, s.rooms[j]? = some r ∧ q = if i = j then { r with st := x } else r := fun j q e => mod_get e
  have hx' : x ≠ "living" := by
    rcases hx with ⟨rfl, _⟩ | ⟨rfl, _⟩
    · exact fun e => s_lk e.symm
    · exact fun e => s_lg e.symm
  refine ⟨ok, fun j q e => ?_, fun j q e => ?_, ?_, fun j hj => ?_, fun j q e => ?_, fun j k q p hne e1 e2 n1 n2 => ?_⟩
  · obtain ⟨r, e1, rfl⟩ := gg j q e
    by_cases h : i = j
    · simp only [h, if_true]
      rcases hx with ⟨rfl, _⟩ | ⟨rfl, _⟩
      · exact .inr (.inl rfl)
      · exact .inr (.inr rfl)
    · simp only [h, if_false]
      exact st j r e1
  · obtain ⟨r, e1, rfl⟩ := gg j q e
    show _ ↔ j ∈ ws
    by_cases h : i = j
    · subst h
      simp only [if_true]
      rcases hx with ⟨rfl, h1, rfl, _⟩ | ⟨rfl, h1⟩
      · exact ⟨fun _ => by simp, fun _ => rfl⟩
      · rw [h1] at nd
        exact ⟨fun z => absurd z.symm s_kg, fun z => absurd z (List.nodup_cons.mp nd).1⟩
    · simp only [h, if_false]
      rw [kp j r e1]
      rcases hx with ⟨rfl, h1, rfl, _⟩ | ⟨rfl, h1⟩
      · simp
        intro z
        exact absurd z.symm h
      · rw [h1]
        simp
        intro z
        exact absurd z.symm h
  · show ws.Nodup
    rcases hx with ⟨rfl, h1, rfl, _⟩ | ⟨rfl, h1⟩
    · rw [List.nodup_append]
      refine ⟨nd, by simp, fun a ha b hb => ?_⟩
      simp at hb
      subst hb
      intro e
      subst e
      exact h1 ha
    · rw [h1] at nd
      exact (List.nodup_cons.mp nd).2
  · have hj : j ∈ ws := hj
    show j < (s.put i x).rooms.length
    rw [put_len]
    rcases hx with ⟨rfl, h1, rfl, hi, _⟩ | ⟨rfl, h1⟩
    · rcases List.mem_append.mp hj with h | h
      · exact wl j h
      · rw [List.mem_singleton.mp h]
        exact hi
    · exact wl j (by rw [h1]; exact List.mem_cons_of_mem _ hj)
  · obtain ⟨r, e1, rfl⟩ := gg j q e
    have := inn j r e1
    split <;> exact this
  · obtain ⟨r, f1, rfl⟩ := gg j q e1
    obtain ⟨r', g1, rfl⟩ := gg k p e2
    have m1 : r.st ≠ "gone" := by
      by_cases h : i = j
      · subst h
        rcases hx with ⟨rfl, _, _, _, h5⟩ | ⟨rfl, h1⟩
        · exact h5 r f1
        · simp at n1
      · simpa [h] using n1
    have m2 : r'.st ≠ "gone" := by
      by_cases h : i = k
      · subst h
        rcases hx with ⟨rfl, _, _, _, h5⟩ | ⟨rfl, h1⟩
        · exact h5 r' g1
        · simp at n2
      · simpa [h] using n2
    have := dis j k r r' hne f1 g1 m1 m2
    have w1 : (if i = j then { r with st := x } else r : Rm).w = r.w ∧ (if i = j then { r with st := x } else r : Rm).z = r.z := by split <;> exact ⟨rfl, rfl⟩
    have w2 : (if i = k then { r' with st := x } else r' : Rm).w = r'.w ∧ (if i = k then { r' with st := x } else r' : Rm).z = r'.z := by split <;> exact ⟨rfl, rfl⟩
    rw [w1.1, w1.2, w2.1, w2.2]
    exact this
theorem Inv.drain : ∀ (ws : List Nat) (s : Sto), Inv0 { s with waiting := ws } → Inv (drain ws s) ∧ ∃ pre, ws = pre ++ (GK05.drain ws s).waiting
  | [], s, v => ⟨⟨v, v.ok.2.2.2.2.1⟩, [], rfl⟩
  | i :: ws, s, v => by
    unfold GK05.drain
    by_cases c : s.keep < s.sumW (i :: ws)
    · rw [if_pos c]
      have v1 : Inv0 { s.put i "gone" with waiting := ws } := v.put (i := i) (.inr ⟨rfl, rfl⟩)
      obtain ⟨v2, pre, e⟩ := Inv.drain ws (s.put i "gone") v1
      exact ⟨v2, i :: pre, by rw [List.cons_append, ← e]⟩
    · rw [if_neg c]
      refine ⟨⟨v, ?_⟩, [], rfl⟩
      show Sto.sumW { s with waiting := i :: ws } (i :: ws) ≤ s.keep
      have : Sto.sumW { s with waiting := i :: ws } (i :: ws) = s.sumW (i :: ws) := rfl
      omega
theorem Inv.free {s : Sto} (v : Inv s) {i : Nat} (hi : i ∈ s.living) : Inv (s.free i) ∧ ∃ pre, s.waiting ++ [i] = pre ++ (s.free i).waiting := by
  have hl := living_lt hi
  have hr : s.rooms[i]? = some s.rooms[i] := List.getElem?_eq_getElem hl
  have hs : s.rooms[i].st = "living" := by
    unfold Sto.living at hi
    have := (List.mem_filter.mp hi).2
    unfold Sto.isLiving at this
    rw [hr] at this
    exact of_decide_eq_true this
  have hn : i ∉ s.waiting := fun h => by
    have := (v.i0.kp i _ hr).mpr h
    rw [hs] at this
    exact s_lk this
  exact Inv.drain _ _ (v.i0.put (.inl ⟨rfl, hn, rfl, hl, fun r e => by
    rw [hr] at e
    cases e
    rw [hs]
    exact s_lg⟩))
theorem drain_keep : ∀ (ws : List Nat) (s : Sto), (drain ws s).rooms.length = s.rooms.length ∧ (drain ws s).many = s.many ∧ (drain ws s).gap = s.gap ∧ (drain ws s).keep = s.keep ∧ ∀ n : Nat, (∀ r ∈ s.rooms, r.kn.length ≤ n) → ∀ r ∈ (drain ws s).rooms, r.kn.length ≤ n
  | [], s => ⟨rfl, rfl, rfl, rfl, fun _ h => h⟩
  | i :: ws, s => by
    unfold drain
    by_cases c : s.keep < s.sumW (i :: ws)
    · rw [if_pos c]
      obtain ⟨h1, h2, h3, h4, h5⟩ := drain_keep ws (s.put i "gone")
      refine ⟨by rw [h1, put_len], h2, h3, h4, fun n h => h5 n fun r hr => ?_⟩
      obtain ⟨j, hj, e⟩ := List.mem_iff_getElem.mp hr
      obtain ⟨r', e1, e2⟩ := mod_get (s := s) (i := i) (f := fun r => { r with st := "gone" }) (j := j) (q := r) (by rw [← e]; exact List.getElem?_eq_getElem hj)
      rw [e2]
      have := h r' (List.mem_of_getElem? e1)
      split <;> exact this
    · rw [if_neg c]
      exact ⟨rfl, rfl, rfl, rfl, fun _ h => h⟩
theorem put_kn {s : Sto} {i : Nat} {x : Str} {n : Nat} (h : ∀ r ∈ s.rooms, r.kn.length ≤ n) : ∀ r ∈ (s.put i x).rooms, r.kn.length ≤ n := fun r hr => by
  obtain ⟨j, hj, e⟩ := List.mem_iff_getElem.mp hr
  obtain ⟨r', e1, e2⟩ := mod_get (s := s) (i := i) (f := fun r => { r with st := x }) (j := j) (q := r) (by rw [← e]; exact List.getElem?_eq_getElem hj)
  rw [e2]
  have := h r' (List.mem_of_getElem? e1)
  split <;> exact this
theorem free_keep {s : Sto} (i : Nat) : (s.free i).rooms.length = s.rooms.length ∧ (s.free i).many = s.many ∧ (s.free i).gap = s.gap ∧ (s.free i).keep = s.keep ∧ ∀ n : Nat, (∀ r ∈ s.rooms, r.kn.length ≤ n) → ∀ r ∈ (s.free i).rooms, r.kn.length ≤ n := by
  obtain ⟨h1, h2, h3, h4, h5⟩ := drain_keep (s.waiting ++ [i]) (s.put i "kept")
  exact ⟨by unfold Sto.free; rw [h1, put_len], h2, h3, h4, fun n h => h5 n (put_kn h)⟩
theorem write_keep {s : Sto} (c : Int) : (s.write c).rooms.length = s.rooms.length ∧ (s.write c).many = s.many ∧ (s.write c).gap = s.gap ∧ (s.write c).keep = s.keep ∧ (s.write c).waiting = s.waiting ∧ ∀ n : Nat, (∀ r ∈ s.rooms, r.kn.length ≤ n) → ∀ r ∈ (s.write c).rooms, r.kn.length ≤ n + 1 := by
  unfold Sto.write
  split
  · refine ⟨by simp [Sto.setRoom], rfl, rfl, rfl, rfl, fun n h r hr => ?_⟩
    obtain ⟨j, hj, e⟩ := List.mem_iff_getElem.mp hr
    have e0 := List.getElem?_eq_getElem hj
    rw [e] at e0
    obtain ⟨r', e1, e2⟩ := mod_get e0
    rw [e2]
    have := h r' (List.mem_of_getElem? e1)
    split
    · show (addKn c r'.kn).length ≤ n + 1
      unfold addKn
      split
      · omega
      · rw [List.length_append]
        simp
        omega
    · omega
  · exact ⟨rfl, rfl, rfl, rfl, rfl, fun n h r hr => Nat.le_succ_of_le (h r hr)⟩
/-! ### a store made -/
section
variable {a b c d e : D}
theorem sf1 : putFD "many" a [] = ([("many", a)] : List (Str × D)) := rfl
theorem sf2 : putFD "gap" b ([("many", a)] : List (Str × D)) = ([("many", a), ("gap", b)] : List (Str × D)) := by kernel_rfl
theorem sf3 : putFD "keep" c ([("many", a), ("gap", b)] : List (Str × D)) = ([("many", a), ("gap", b), ("keep", c)] : List (Str × D)) := by kernel_rfl
theorem sf4 : putFD "rooms" d ([("many", a), ("gap", b), ("keep", c)] : List (Str × D)) = ([("many", a), ("gap", b), ("keep", c), ("rooms", d)] : List (Str × D)) := by kernel_rfl
theorem sf5 : putFD "waiting" e ([("many", a), ("gap", b), ("keep", c), ("rooms", d)] : List (Str × D)) = ([("many", a), ("gap", b), ("keep", c), ("rooms", d), ("waiting", e)] : List (Str × D)) := by kernel_rfl
end
theorem need_setting_ok {m g k : Int} (ok : Sto.ok ⟨m, g, k, [], []⟩) {h : PH} {Q : D → PH → Prop} : wp (f_need_setting [.tup [.int m, .int g, .int k]] h) Q = Q .non h := by
  obtain ⟨h1, h2, h3, h4, h5, h6⟩ := ok
  simp only at h1 h2 h3 h4 h5 h6
  simp only [f_need_setting, wp_fnM]
  simp [b_need_setting, is_number_ok, h1, h2, h3, h4, h5, h6]
theorem store_new_ok {m g k : Int} (ok : Sto.ok ⟨m, g, k, [], []⟩) {h : PH} {Q : D → PH → Prop} : wp (f_Store_new [.ref h.length, .tup [.int m, .int g, .int k]] (h ++ [.ins "Store" []])) Q = Q .non (h ++ [.ins "Store" (storeFs ⟨m, g, k, [], []⟩ (h.length + 1) (h.length + 2)), .lst [], .lst []]) := by
  simp only [f_Store_new, wp_fnM]
  simp [b_Store_new, need_setting_ok ok, putO, sf1, sf2, sf3, sf4, sf5, get_last2, set_last2]
  rfl
theorem store_at {m g k : Int} {h : PH} : SAt (h ++ [.ins "Store" (storeFs ⟨m, g, k, [], []⟩ (h.length + 1) (h.length + 2)), .lst [], .lst []]) ⟨h.length, h.length + 1, h.length + 2, []⟩ ⟨m, g, k, [], []⟩ where
  o := by simp
  rs := by simp
  wt := by simp
  len := rfl
  rm := fun i p r e => by simp at e
  kn := fun i p r e => by simp at e
  nd := by simp [SL.all]
  few := by simp
/-! ### the law's setting -/
theorem setting_ok {h : PH} {n : Nat} {r : Row} {Q : D → PH → Prop} (hr : h[n]? = some (rowOb r)) (ok : r.ok)
    (q : ∀ m g k r', Sto.ok ⟨m, g, k, [], []⟩ → Row.ok r' → r'.s = r.s → Q (.tup [.int m, .int g, .int k]) (h.set n (rowOb r'))) : wp (f__law_setting [.ref n] h) Q := by
  obtain ⟨hn, _⟩ := List.getElem?_eq_some_iff.mp hr
  have gs : ∀ o : Ob, (h.set n o)[n]? = some o := fun o => by simp [hn]
  have i3 : ∀ (x y z : D) (v : Int), 0 ≤ v → v < 3 → atI [x, y, z] v = some (if v = 0 then x else if v = 1 then y else z) := fun x y z v h1 h2 => by
    have : v = 0 ∨ v = 1 ∨ v = 2 := by omega
    rcases this with rfl | rfl | rfl <;> rfl
  have i2 : ∀ (x y : D) (v : Int), 0 ≤ v → v < 2 → atI [x, y] v = some (if v = 0 then x else y) := fun x y v h1 h2 => by
    have : v = 0 ∨ v = 1 := by omega
    rcases this with rfl | rfl <;> rfl
  simp only [f__law_setting, wp_fnM]
  simp [b__law_setting]
  refine taken_ok hr ok (by omega) (by omega) fun v1 r1 a1 b1 c1 d1 => ?_
  simp
  refine taken_ok (gs _) c1 (by omega) (by omega) fun v2 r2 a2 b2 c2 d2 => ?_
  rw [wp_ixL, i3 _ _ _ v2 a2 b2]
  simp only [List.set_set]
  have ec : (if v2 = 0 then D.int 64 else if v2 = 1 then D.int 64 else D.int (8 + v1)) = D.int (if v2 = 0 then 64 else if v2 = 1 then 64 else 8 + v1) := by
    split
    · rfl
    · split <;> rfl
  rw [ec]
  refine taken_ok (gs _) c2 (by omega) (by omega) fun v3 r3 a3 b3 c3 d3 => ?_
  simp only [List.set_set]
  refine taken_ok (gs _) c3 (by omega) (by omega) fun v4 r4 a4 b4 c4 d4 => ?_
  simp only [List.set_set]
  refine taken_ok (gs _) c4 (by omega) (by omega) fun v5 r5 a5 b5 c5 d5 => ?_
  simp only [List.set_set]
  rw [wp_ixL, i2 _ _ v5 a5 b5]
  have ed : (if v5 = 0 then D.int 0 else D.int v4) = D.int (if v5 = 0 then 0 else v4) := by split <;> rfl
  rw [ed]
  refine q _ _ _ _ ?_ c5 (by rw [d5, d4, d3, d2, d1])
  unfold Sto.ok
  simp only
  refine ⟨?_, ?_, a3, by omega, ?_, ?_⟩
  · split
    · omega
    · split <;> omega
  · split
    · omega
    · split <;> omega
  · split <;> omega
  · split <;> omega
/-! ### k05: clashes, room told by the law -/
section
variable {h : PH} {L : SL} {s : Sto} {Q : D → PH → Prop}
/-- the rooms that aren't gone, as the law lists them -/
def Sto.here (s : Sto) : List Nat := s.living ++ s.waiting
theorem living_iff {i : Nat} : i ∈ s.living ↔ ∃ r, s.rooms[i]? = some r ∧ r.st = "living" := by
  unfold Sto.living
  rw [List.mem_filter, List.mem_range]
  unfold Sto.isLiving
  constructor
  · rintro ⟨h1, h2⟩
    have hr : s.rooms[i]? = some s.rooms[i] := List.getElem?_eq_getElem h1
    rw [hr] at h2
    exact ⟨_, hr, of_decide_eq_true h2⟩
  · rintro ⟨r, h1, h2⟩
    exact ⟨(List.getElem?_eq_some_iff.mp h1).1, by rw [h1]; exact decide_eq_true h2⟩
theorem here_iff (v : Inv0 s) {i : Nat} : i ∈ s.here ↔ ∃ r, s.rooms[i]? = some r ∧ r.st ≠ "gone" := by
  unfold Sto.here
  rw [List.mem_append, living_iff]
  constructor
  · rintro (⟨r, h1, h2⟩ | h)
    · exact ⟨r, h1, by rw [h2]; exact s_lg⟩
    · have hr : s.rooms[i]? = some (s.rooms[i]'(v.wl i h)) := List.getElem?_eq_getElem _
      exact ⟨_, hr, by rw [(v.kp i _ hr).mpr h]; exact s_kg⟩
  · rintro ⟨r, h1, h2⟩
    rcases v.st i r h1 with h | h | h
    · exact .inl ⟨r, h1, h⟩
    · exact .inr ((v.kp i r h1).mp h)
    · exact absurd h h2
theorem here_nd (v : Inv0 s) : s.here.Nodup := by
  unfold Sto.here
  rw [List.nodup_append]
  refine ⟨?_, v.nd, fun a ha b hb e => ?_⟩
  · unfold Sto.living
    exact List.nodup_range.filter _
  · subst e
    obtain ⟨r, h1, h2⟩ := living_iff.mp ha
    have := (v.kp a r h1).mpr hb
    rw [h2] at this
    exact s_lk this
theorem nodup_lt_len : ∀ (n : Nat) (xs : List Nat), xs.Nodup → (∀ x ∈ xs, x < n) → xs.length ≤ n
  | 0, xs, _, h => by
    cases xs with
    | nil => exact Nat.le_refl _
    | cons x xs => exact absurd (h x List.mem_cons_self) (Nat.not_lt_zero _)
  | n + 1, xs, nd, h => by
    have ih := nodup_lt_len n (xs.erase n) (nd.erase n) fun x hx => by
      have h1 := (nd.mem_erase_iff).mp hx
      have := h x h1.2
      have := h1.1
      omega
    rw [List.length_erase] at ih
    split at ih <;> omega
theorem here_len (v : Inv0 s) : s.here.length ≤ s.rooms.length := by
  exact nodup_lt_len _ _ (here_nd v) fun i hi => by
    obtain ⟨r, h1, _⟩ := (here_iff v).mp hi
    exact (List.getElem?_eq_some_iff.mp h1).1
theorem here_it (a : SAt h L s) (v : Inv0 s) {Γ : Sw.Env} (hΓ : Γ[0]? = some (some (.ref L.n))) {Q : Itm → PH → Prop} : wp (lIt (lAdd (gMeth "Store" "living" f_Store_living (gV 0) []) (gMeth "Store" "kept" f_Store_kept (gV 0) [])) Γ h) Q = Q (.vals (natD s.here)) h := by
  have hl := here_len v
  have hf := a.few
  have e : (natD s.living) ++ (natD s.waiting) = natD s.here := by
    unfold natD Sto.here
    rw [List.map_append]
  have hz : (natD s.living).length + (natD s.waiting).length ≤ 16777216 := by
    rw [← List.length_append, e, natD_len]
    omega
  have hz2 : (natD s.here).length ≤ 16777216 := by
    rw [natD_len]
    omega
  rw [wp_lIt]
  unfold lAdd
  simp only [wp_bnd, wp_gMeth_, wp_gV, hΓ, a.o, nm_living, nm_kept, Option.isNone_none, and_self, true_and, wp_seqA0, living_ok a, kept_ok a, lAdd.seqL, hz, if_true, wp_ok, e, hz2]
theorem natD_get {xs : List Nat} {i : Nat} {x : D} (e : (natD xs)[i]? = some x) : ∃ k, xs[i]? = some k ∧ x = .int (k : Int) := by
  unfold natD at e
  rw [List.getElem?_map] at e
  cases q : xs[i]? with
  | none =>
    rw [q] at e
    cases e
  | some k =>
    rw [q] at e
    cases e
    exact ⟨k, rfl, rfl⟩
theorem nd_get {xs : List Nat} (nd : xs.Nodup) {i j k : Nat} (e1 : xs[i]? = some k) (e2 : xs[j]? = some k) : i = j := by
  obtain ⟨h1, q1⟩ := List.getElem?_eq_some_iff.mp e1
  obtain ⟨h2, q2⟩ := List.getElem?_eq_some_iff.mp e2
  have p := List.pairwise_iff_getElem.mp nd
  rcases Nat.lt_trichotomy i j with h | h | h
  · exact absurd (q1.trans q2.symm) (p i j h1 h2 h)
  · exact h
  · exact absurd (q2.trans q1.symm) (p j i h2 h1 h)
theorem addKn_mem {c x : Int} {kn : List Int} : x ∈ addKn c kn ↔ x ∈ kn ∨ x = c := by
  unfold addKn
  by_cases h : c ∈ kn
  · rw [if_pos h]
    exact ⟨.inl, fun z => z.elim id fun e => by rw [e]; exact h⟩
  · rw [if_neg h, List.mem_append, List.mem_singleton]
theorem addKn_len {c : Int} {kn : List Int} : (addKn c kn).length ≤ kn.length + 1 := by
  unfold addKn
  split
  · omega
  · rw [List.length_append]
    simp
theorem getL {h : PH} {x : Ob} : (h ++ [x])[h.length]? = some x := by simp
theorem setL {h : PH} {x y : Ob} : (h ++ [x]).set h.length y = h ++ [y] := by simp
theorem knD_len {kn : List Int} : (knD kn).length = kn.length := by
  unfold knD
  rw [List.length_map]
/-- cells of the rooms told so far -/
def Met (s : Sto) (xs : List Nat) (n : Nat) (c : Int) : Prop := ∃ (j k : Nat) (r : Rm), j < n ∧ xs[j]? = some k ∧ s.rooms[k]? = some r ∧ ext s.gap r c
theorem clash_ok (a : SAt h L s) (v : Inv s) (q : ∀ ob, Q (.bl false) (h ++ [ob])) : wp (f__law_clash [.ref L.n, .tup [.int s.many, .int s.gap, .int s.keep]] h) Q := by
  have v0 := v.i0
  have m64 := v0.ok.2.1
  have g2 := v0.ok.2.2.2.1
  have g0 := v0.ok.2.2.1
  have hl := here_len v0
  have hf := a.few
  simp only [f__law_clash, wp_fnM]
  simp only [b__law_clash, wp_sSeq]
  simp
  rw [wp_forV (xs := natD s.here) (fun Q => here_it (a.app _) v0 rfl)]
  refine wp_loopX (fun i Γ h' => (∃ o6 o7 o8, Γ = [some (.ref L.n), some (.tup [.int s.many, .int s.gap, .int s.keep]), some (.int s.many), some (.int s.gap), some (.int s.keep), some (.ref h.length), o6, o7, o8]) ∧ ∃ met : List Int, h' = h ++ [.dct (knD met)] ∧ (∀ c ∈ met, Met s s.here i c) ∧ met.length ≤ 64 * i) (fun i x Γ h' q' hx => ?_) (fun Γ h' q' => ?_) ⟨⟨none, none, none, rfl⟩, [], rfl, fun c hc => by simp at hc, by simp⟩
  · obtain ⟨⟨o6, o7, o8, rfl⟩, met, rfl, hm, hlen⟩ := q'
    obtain ⟨k, hk, rfl⟩ := natD_get hx
    have hi : i < s.here.length := (List.getElem?_eq_some_iff.mp hk).1
    obtain ⟨r, hr, hst⟩ := (here_iff v0).mp (List.mem_of_getElem? hk)
    obtain ⟨n1, n2, n3, n4⟩ := v0.inn k r hr
    have a1 : SAt (h ++ [.dct (knD met)]) L s := a.app _
    simp [wp_gMeth_, a1.o, place_ok a1 hr]
    rw [wp_forV (xs := rngD (r.w - s.gap) ((r.w + r.z + s.gap) - (r.w - s.gap)).toNat)]
    · refine wp_loopX (fun j Γ h' => (∃ o8, Γ = [some (.ref L.n), some (.tup [.int s.many, .int s.gap, .int s.keep]), some (.int s.many), some (.int s.gap), some (.int s.keep), some (.ref h.length), some (.int k), some (.int r.w), o8]) ∧ ∃ met : List Int, h' = h ++ [.dct (knD met)] ∧ (∀ c ∈ met, Met s s.here i c ∨ (r.w - s.gap ≤ c ∧ c < r.w - s.gap + j)) ∧ met.length ≤ 64 * i + j) (fun j x Γ h' q' hx => ?_) (fun Γ h' q' => ?_) ⟨⟨o8, rfl⟩, met, rfl, fun c hc => .inl (hm c hc), by omega⟩
      · obtain ⟨⟨o8, rfl⟩, met, rfl, hm, hlen⟩ := q'
        obtain ⟨hj, rfl⟩ := rng_get hx
        have nin : ¬ (r.w - s.gap + (j : Int)) ∈ met := fun hc => by
          rcases hm _ hc with ⟨j', k', r', h1, h2, h3, h4, h5⟩ | ⟨_, h⟩
          · have hne : k' ≠ k := fun e => by
              subst e
              have := nd_get (here_nd v0) h2 hk
              omega
            obtain ⟨r'', g1, g2⟩ := (here_iff v0).mp (List.mem_of_getElem? h2)
            rw [h3] at g1
            cases g1
            rcases v0.dis k' k r' r hne h3 hr g2 hst with d | d <;> omega
          · omega
        have c0 : ¬ (r.w - s.gap + (j : Int) < 0) := by omega
        have c1 : ¬ (s.many ≤ r.w - s.gap + (j : Int)) := by omega
        have lm : (knD met).length < 16777216 := by
          rw [knD_len]
          omega
        simp [wp_inRef getL, getL, setL, keyD, knD_get, nin, c0, c1, wp_setRef, lm, knD_put]
        refine ⟨_, rfl, fun c hc => ?_, ?_⟩
        · rcases addKn_mem.mp hc with hc | hc
          · rcases hm c hc with h | h
            · exact .inl h
            · exact .inr ⟨h.1, by omega⟩
          · exact .inr ⟨by omega, by omega⟩
        · have := addKn_len (c := r.w - s.gap + (j : Int)) (kn := met)
          omega
      · obtain ⟨⟨o8, rfl⟩, met, rfl, hm, hlen⟩ := q'
        rw [rng_len] at hm hlen
        simp
        refine ⟨met, rfl, fun c hc => ?_, by omega⟩
        rcases hm c hc with ⟨j', k', r', h1, h2⟩ | h
        · exact ⟨j', k', r', by omega, h2⟩
        · exact ⟨i, k, r, by omega, hk, hr, by unfold ext; omega⟩
    · intro Q
      rw [wp_rg2 (i := r.w - s.gap) (j := r.w + r.z + s.gap)]
      · intro Q
        simp
      · intro Q
        simp [wp_gMeth_, a1.o, size_ok a1 hr]
      · omega
  · obtain ⟨⟨o6, o7, o8, rfl⟩, met, rfl, hm, hlen⟩ := q'
    have a1 : SAt (h ++ [.dct (knD met)]) L s := a.app _
    simp
    rw [lComp_V (xs := natD s.waiting) (g := gOne s.wideAt)]
    · rw [flat_one, wp_sumL]
      have : ¬ s.keep < (s.waiting.map s.wideAt).sum := by
        have := v.sum
        unfold Sto.sumW at this
        omega
      simp [this]
      exact q _
    · intro Q
      have hw : s.waiting.length ≤ 16777216 := by
        have : s.waiting.length ≤ s.here.length := by
          unfold Sto.here
          rw [List.length_append]
          omega
        omega
      simp [wp_gMeth_, a1.o, kept_ok a1, natD_len, hw]
    · intro x hx Q
      unfold natD at hx
      obtain ⟨j, hj, rfl⟩ := List.mem_map.mp hx
      have hrj : s.rooms[j]? = some (s.rooms[j]'(v0.wl j hj)) := List.getElem?_eq_getElem _
      have ew : s.wideAt j = (s.rooms[j]'(v0.wl j hj)).z := by
        unfold Sto.wideAt
        rw [hrj]
      simp [wipeE, wp_gMeth_, a1.o, size_ok a1 hrj, ew]
end
section
variable {h : PH} {L : SL} {s : Sto} {Q : D → PH → Prop}
/-- a block of this width is free -/
def Sto.free_ (s : Sto) (w : Int) : Prop := ∃ b : Nat, (b : Int) + w ≤ s.many ∧ s.clear b w = true
/-- cells that aren't told: a block is clear just where all its cells are such -/
theorem clear_met (v : Inv0 s) {b w : Int} (hw : 1 ≤ w) : s.clear b w = true ↔ ∀ c, b ≤ c → c < b + w → ¬ Met s s.here s.here.length c := by
  rw [clear_iff]
  constructor
  · rintro hc c h1 h2 ⟨j, k, r, _, hk, hr, e1, e2⟩
    obtain ⟨r', g1, g2⟩ := (here_iff v).mp (List.mem_of_getElem? hk)
    rw [hr] at g1
    cases g1
    rcases hc k r hr with h | h | h
    · exact g2 h
    · omega
    · omega
  · intro hc k r hr
    by_cases hst : r.st = "gone"
    · exact .inl hst
    · refine .inr ?_
      have hm : k ∈ s.here := (here_iff v).mpr ⟨r, hr, hst⟩
      obtain ⟨j, hj, e⟩ := List.mem_iff_getElem.mp hm
      have met : ∀ c, ext s.gap r c → Met s s.here s.here.length c := fun c hc => ⟨j, k, r, hj, by rw [List.getElem?_eq_getElem hj, e], hr, hc⟩
      obtain ⟨n1, n2, n3, n4⟩ := v.inn k r hr
      have g0 := v.ok.2.2.1
      by_cases h1 : r.w + r.z + s.gap ≤ b
      · exact .inl h1
      · by_cases h2 : b + w ≤ r.w - s.gap
        · exact .inr h2
        · refine absurd ?_ (hc (if b ≤ r.w - s.gap then r.w - s.gap else b) ?_ ?_)
          · refine met _ ?_
            unfold ext
            split <;> omega
          · split <;> omega
          · split <;> omega
def ScanI (h : PH) (L : SL) (s : Sto) (z : Int) (met : List Int) (o7 : Option D) (i : Nat) (Γ : Sw.Env) (h' : PH) : Prop := h' = h ++ [Ob.dct (knD met)] ∧ ∃ o8, ∃ w : Nat, Γ = [some (.ref L.n), some (.tup [.int s.many, .int s.gap, .int s.keep]), some (.int z), some (.int s.many), some (.int s.gap), some (.int s.keep), some (.ref h.length), o7, o8, some (.int w)] ∧ w ≤ i ∧ (w : Int) < z + 2 * s.gap ∧ (∀ c : Int, (i : Int) - w ≤ c → c < i → ¬ c ∈ met) ∧ (w < i → ((i : Int) - w - 1) ∈ met) ∧ ∀ b : Nat, (b : Int) + (z + 2 * s.gap) ≤ i → ∃ c : Int, (b : Int) ≤ c ∧ c < b + (z + 2 * s.gap) ∧ c ∈ met
theorem has_room_ok (a : SAt h L s) (v : Inv0 s) {z : Int} (z1 : 1 ≤ z) (z8 : z ≤ 8) (q : ∀ ob res, (res = true ↔ s.free_ (z + 2 * s.gap)) → Q (.bl res) (h ++ [ob])) : wp (f__law_has_room [.ref L.n, .tup [.int s.many, .int s.gap, .int s.keep], .int z] h) Q := by
  have m64 := v.ok.2.1
  have m8 := v.ok.1
  have g2 := v.ok.2.2.2.1
  have g0 := v.ok.2.2.1
  have hl := here_len v
  have hf := a.few
  have m2 : Int.natAbs s.gap < 2 ^ 64 := by omega
  simp only [f__law_has_room, wp_fnM]
  simp only [b__law_has_room, wp_sSeq]
  simp
  rw [wp_forV (xs := natD s.here) (fun Q => here_it (a.app _) v rfl)]
  refine wp_loopX (fun i Γ h' => (∃ o7 o8 o9, Γ = [some (.ref L.n), some (.tup [.int s.many, .int s.gap, .int s.keep]), some (.int z), some (.int s.many), some (.int s.gap), some (.int s.keep), some (.ref h.length), o7, o8, o9]) ∧ ∃ met : List Int, h' = h ++ [.dct (knD met)] ∧ (∀ c, c ∈ met ↔ Met s s.here i c) ∧ met.length ≤ 64 * i) (fun i x Γ h' q' hx => ?_) (fun Γ h' q' => ?_) ⟨⟨none, none, none, rfl⟩, [], rfl, fun c => ⟨fun hc => by simp at hc, fun ⟨j, _, _, hj, _⟩ => by omega⟩, by simp⟩
  · obtain ⟨⟨o7, o8, o9, rfl⟩, met, rfl, hm, hlen⟩ := q'
    obtain ⟨k, hk, rfl⟩ := natD_get hx
    have hi : i < s.here.length := (List.getElem?_eq_some_iff.mp hk).1
    obtain ⟨r, hr, hst⟩ := (here_iff v).mp (List.mem_of_getElem? hk)
    obtain ⟨n1, n2, n3, n4⟩ := v.inn k r hr
    have a1 : SAt (h ++ [.dct (knD met)]) L s := a.app _
    simp
    rw [wp_forV (xs := rngD (r.w - s.gap) ((r.w + r.z + s.gap) - (r.w - s.gap)).toNat)]
    · refine wp_loopX (fun j Γ h' => (∃ o8, Γ = [some (.ref L.n), some (.tup [.int s.many, .int s.gap, .int s.keep]), some (.int z), some (.int s.many), some (.int s.gap), some (.int s.keep), some (.ref h.length), some (.int k), o8, o9]) ∧ ∃ met : List Int, h' = h ++ [.dct (knD met)] ∧ (∀ c, c ∈ met ↔ Met s s.here i c ∨ (r.w - s.gap ≤ c ∧ c < r.w - s.gap + j)) ∧ met.length ≤ 64 * i + j) (fun j x Γ h' q' hx => ?_) (fun Γ h' q' => ?_) ⟨⟨o8, rfl⟩, met, rfl, fun c => by rw [hm c]; exact ⟨.inl, fun z => z.elim id fun z => by omega⟩, by omega⟩
      · obtain ⟨⟨o8, rfl⟩, met, rfl, hm, hlen⟩ := q'
        obtain ⟨hj, rfl⟩ := rng_get hx
        have lm : (knD met).length < 16777216 := by
          rw [knD_len]
          omega
        simp [getL, setL, keyD, wp_setRef, lm, knD_put]
        refine ⟨_, rfl, fun c => ?_, ?_⟩
        · rw [addKn_mem, hm c]
          constructor
          · rintro ((h | h) | h)
            · exact .inl h
            · exact .inr ⟨h.1, by omega⟩
            · exact .inr ⟨by omega, by omega⟩
          · rintro (h | h)
            · exact .inl (.inl h)
            · by_cases e : c = r.w - s.gap + (j : Int)
              · exact .inr e
              · exact .inl (.inr ⟨h.1, by omega⟩)
        · have := addKn_len (c := r.w - s.gap + (j : Int)) (kn := met)
          omega
      · obtain ⟨⟨o8, rfl⟩, met, rfl, hm, hlen⟩ := q'
        rw [rng_len] at hm hlen
        simp
        refine ⟨met, rfl, fun c => ?_, by omega⟩
        rw [hm c]
        constructor
        · rintro (⟨j', k', r', h1, h2⟩ | h)
          · exact ⟨j', k', r', by omega, h2⟩
          · exact ⟨i, k, r, by omega, hk, hr, by unfold ext; omega⟩
        · rintro ⟨j', k', r', h1, h2, h3, h4⟩
          by_cases e : j' = i
          · subst e
            rw [hk] at h2
            cases h2
            rw [hr] at h3
            cases h3
            unfold ext at h4
            exact .inr (by omega)
          · exact .inl ⟨j', k', r', by omega, h2, h3, h4⟩
    · intro Q
      rw [wp_rg2 (i := r.w - s.gap) (j := r.w + r.z + s.gap)]
      · intro Q
        simp [wp_gMeth_, a1.o, place_ok a1 hr]
      · intro Q
        simp [wp_gMeth_, a1.o, place_ok a1 hr, size_ok a1 hr]
      · omega
  · obtain ⟨⟨o7, o8, o9, rfl⟩, met, rfl, hm, hlen⟩ := q'
    rw [natD_len] at hm
    simp
    have hw1 : 1 ≤ z + 2 * s.gap := by omega
    rw [wp_forV (xs := rngD 0 s.many.toNat)]
    · refine wp_loopX (ScanI h L s z met o7) (fun i x Γ h' q' hx => ?_) (fun Γ h' q' => ?_) ⟨rfl, o8, 0, rfl, Nat.le_refl _, by simp; omega, fun c h1 h2 => by omega, fun h => by omega, fun b hb => by omega⟩
      · obtain ⟨rfl, o8, w, rfl, hwi, hwt, hun, hme, hno⟩ := q'
        obtain ⟨hi, rfl⟩ := rng_get hx
        have e0 : (0 : Int) + (i : Int) = (i : Int) := by omega
        rw [e0]
        simp [wp_inRef getL, keyD, knD_get, m2]
        by_cases hc : (i : Int) ∈ met
        · have n0 : ¬ ((0 : Int) = z + 2 * s.gap) := by omega
          simp [hc, n0]
          refine ⟨rfl, _, 0, rfl, by omega, by omega, fun c h1 h2 => by omega, fun _ => ?_, fun b hb => ?_⟩
          · have e : ((i + 1 : Nat) : Int) - (0 : Nat) - 1 = i := by omega
            rw [e]
            exact hc
          · by_cases e : (b : Int) + (z + 2 * s.gap) ≤ i
            · exact hno b e
            · exact ⟨i, by omega, by omega, hc⟩
        · simp [hc]
          have un' : ∀ c : Int, (i : Int) - w ≤ c → c < i + 1 → ¬ c ∈ met := fun c h1 h2 => by
            by_cases e : c = i
            · rw [e]
              exact hc
            · exact hun c h1 (by omega)
          by_cases ht : (w : Int) + 1 = z + 2 * s.gap
          · simp [ht]
            refine q _ true ⟨fun _ => ⟨i - w, by omega, (clear_met v hw1).mpr fun c h1 h2 => ?_⟩, fun _ => rfl⟩
            rw [← hm c]
            exact un' c (by omega) (by omega)
          · simp [ht]
            refine ⟨rfl, _, w + 1, rfl, by omega, by omega, fun c h1 h2 => un' c (by omega) (by omega), fun hlt => ?_, fun b hb => ?_⟩
            · have := hme (by omega)
              have e : ((i + 1 : Nat) : Int) - ((w + 1 : Nat) : Int) - 1 = (i : Int) - w - 1 := by omega
              rw [e]
              exact this
            · by_cases e : (b : Int) + (z + 2 * s.gap) ≤ i
              · exact hno b e
              · have hlt : w < i := by omega
                exact ⟨(i : Int) - w - 1, by omega, by omega, hme hlt⟩
      · obtain ⟨rfl, o8, w, rfl, hwi, hwt, hun, hme, hno⟩ := q'
        simp
        refine q _ false ⟨fun e => (nomatch e), fun ⟨b, hb, hc⟩ => ?_⟩
        rw [rng_len] at hno
        obtain ⟨c, h1, h2, h3⟩ := hno b (by omega)
        exact absurd ((hm c).mp h3) ((clear_met v hw1).mp hc c h1 h2)
    · intro Q
      rw [wp_rg1 (j := s.many)]
      · intro Q
        simp
      · omega
end
/-! ### k05: the law -/
theorem mark_new {s : Sto} {b : Nat} {z : Int} (v : Inv s) (z1 : 1 ≤ z) (hc : s.clear b (z + 2 * s.gap) = true) {c : Int} (c1 : b + s.gap ≤ c) (c2 : c < b + s.gap + z) : (s.add ⟨b + s.gap, z, "living", []⟩).mark c = "fresh" := by
  have hc := clear_iff.mp hc
  have g0 := v.i0.ok.2.2.1
  have e : (s.add ⟨b + s.gap, z, "living", []⟩).rooms.findSome? (own1 c) = some ("fresh" : Str) := by
    refine findSome_some (i := s.rooms.length) (x := ⟨b + s.gap, z, "living", []⟩) (fun j r hj hr => ?_) ?_ ?_
    · have hr : s.rooms[j]? = some r := by
        rw [Sto.add, List.getElem?_append_left hj] at hr
        exact hr
      unfold own1
      rw [if_neg]
      rintro ⟨h1, h2, h3⟩
      rcases hc j r hr with h | h | h
      · exact h1 h
      · omega
      · omega
    · simp [Sto.add]
    · unfold own1
      rw [if_pos ⟨s_lg, c1, c2⟩, if_neg s_lk]
      simp
  unfold Sto.mark
  rw [e]
def LG (ns : List Int) (L : SL) (s : Sto) (fr : List Nat) (o : List (Option D)) : Sw.Env := some (.rd ns) :: some (.ref 0) :: some (.tup [.int s.many, .int s.gap, .int s.keep]) :: some (.ref L.n) :: some (.lst (natD fr)) :: some (.int s.rooms.length) :: o
structure LH (L : SL) (s : Sto) (r : Row) (fr : List Nat) (t : Nat) (h : PH) : Prop where
  h0 : h[0]? = some (rowOb r)
  ok : r.ok
  at_ : SAt h L s
  inv : Inv s
  out : 0 ∉ L.all
  pre : ∃ pre, fr = pre ++ s.waiting
  n1 : s.rooms.length ≤ t
  n2 : fr.length ≤ t
  n3 : ∀ q ∈ s.rooms, q.kn.length ≤ t
def LI (ns : List Int) (t : Nat) (Γ : Sw.Env) (h : PH) : Prop := ∃ (L : SL) (s : Sto) (r : Row) (fr : List Nat) (o6 o7 o8 o9 o10 o11 o12 o13 : Option D), Γ = LG ns L s fr [o6, o7, o8, o9, o10, o11, o12, o13] ∧ LH L s r fr t h
theorem LH.row {L : SL} {s : Sto} {r r' : Row} {fr : List Nat} {t : Nat} {h : PH} (x : LH L s r fr t h) (ok : r'.ok) : LH L s r' fr t (h.set 0 (rowOb r')) := by
  have hn := (List.getElem?_eq_some_iff.mp x.h0).1
  exact ⟨by rw [List.getElem?_set_self hn], ok, x.at_.out x.out _, x.inv, x.out, x.pre, x.n1, x.n2, x.n3⟩
theorem LH.app {L : SL} {s : Sto} {r : Row} {fr : List Nat} {t : Nat} {h : PH} (x : LH L s r fr t h) (y : PH) : LH L s r fr t (h ++ y) := by
  have hn := (List.getElem?_eq_some_iff.mp x.h0).1
  exact ⟨by rw [List.getElem?_append_left hn]; exact x.h0, x.ok, x.at_.app y, x.inv, x.out, x.pre, x.n1, x.n2, x.n3⟩
theorem LH.up {L : SL} {s : Sto} {r : Row} {fr : List Nat} {t : Nat} {h : PH} (x : LH L s r fr t h) : LH L s r fr (t + 1) h :=
  ⟨x.h0, x.ok, x.at_, x.inv, x.out, x.pre, Nat.le_succ_of_le x.n1, Nat.le_succ_of_le x.n2, fun q hq => Nat.le_succ_of_le (x.n3 q hq)⟩
theorem room_turn {ns : List Int} {L : SL} {s : Sto} {r : Row} {fr : List Nat} {t : Nat} {h : PH} {o6 o7 o8 o9 o10 o11 o12 o13 : Option D} (x : LH L s r fr t h) (ht : t ≤ 81) : wp (b_law_2 (LG ns L s fr [o6, o7, o8, o9, o10, o11, o12, o13]) h) fun f h' => match f with
    | .nx Γ' => LI ns (t + 1) Γ' h'
    | .rt _ => False := by
  unfold LG
  simp [b_law_2]
  refine taken_ok x.h0 x.ok (by omega) (by omega) fun v r1 a1 b1 c1 d1 => ?_
  have x1 := x.row c1
  have n1 := x.n1
  simp
  refine has_room_ok x1.at_ x1.inv.i0 (by omega) (by omega) fun ob res hres => ?_
  have x2 := x1.app [ob]
  simp [wp_gMeth_, x2.at_.o]
  refine room_ok x2.at_ x2.inv.i0.ok (by omega) (by omega) (by omega) (fun hno => ?_) fun b hb hc hmin h' a' hf hl => ?_
  · have e : res = false := by
      cases res with
      | false => rfl
      | true =>
        obtain ⟨b, h1, h2⟩ := hres.mp rfl
        rw [hno b h1] at h2
        cases h2
    subst e
    simp
    exact ⟨L, s, r1, fr, _, _, _, _, _, _, _, _, rfl, x2.up⟩
  · have e : res = true := hres.mpr ⟨b, hb, hc⟩
    subst e
    simp
    have hr : (s.add ⟨b + s.gap, 1 + v, "living", []⟩).rooms[s.rooms.length]? = some ⟨b + s.gap, 1 + v, "living", []⟩ := by simp [Sto.add]
    have inv' := x2.inv.add (z := 1 + v) (by omega) (by omega) hb hc
    have hg := x2.inv.i0.ok
    obtain ⟨m8, m64, g0, g2, _, _⟩ := hg
    have out' : 0 ∉ (L.add (List.length ((List.set h 0 (rowOb r1)) ++ [ob]))).all := by
      rw [SL.add_all]
      intro hm
      rcases List.mem_append.mp hm with h | h
      · exact x2.out h
      · simp at h
    have aN : (L.add (List.length ((List.set h 0 (rowOb r1)) ++ [ob]))).n = L.n := rfl
    have aR : L.r ∈ L.all := SL.r_mem
    generalize L.add (List.length ((List.set h 0 (rowOb r1)) ++ [ob])) = L' at a' out' aN
    rw [← aN]
    have aO := a'.o
    have pl : ∀ Q, wp (f_Store_place [.ref L'.n, .int s.rooms.length] h') Q = Q (.int (b + s.gap)) h' := fun Q => place_ok a' hr
    simp [b_law_1, wp_gMeth_, aO, pl]
    rw [lComp_V (xs := rngD (b + s.gap) (1 + v).toNat) (g := fun _ => [])]
    · have e0 : (rngD (b + s.gap) (1 + v).toNat).flatMap (fun _ => ([] : List D)) = [] := by simp
      rw [e0, show ([] : List D) = ([] : List Int).map D.int from rfl, neLI]
      simp [aO]
      have hp := (List.getElem?_eq_some_iff.mp x2.h0).1
      have z0 : h'[0]? = some (rowOb r1) := by
        rw [hf 0 hp (fun e => x2.out (by rw [e]; exact SL.r_mem))]
        exact x2.h0
      refine taken_ok z0 c1 (by omega) (by omega) fun u r2 a2 b2 c2 d2 => ?_
      simp
      have x3 := a'.out out' (rowOb r2)
      have kn1 : ∀ q ∈ (s.add ⟨b + s.gap, 1 + v, "living", []⟩).rooms, q.kn.length ≤ t := fun q hq => by
        rcases List.mem_append.mp hq with h | h
        · exact x2.n3 q h
        · rw [List.mem_singleton.mp h]
          simp
      refine write_ok x3 (fun q hq => by have := kn1 q hq; omega) fun h3 a3 f3 l3 => ?_
      obtain ⟨k1, k2, k3, k4, k5, k6⟩ := write_keep (s := s.add ⟨b + s.gap, 1 + v, "living", []⟩) (b + s.gap + u)
      have hz := (List.getElem?_eq_some_iff.mp z0).1
      have kl : (((s.add ⟨b + s.gap, 1 + v, "living", []⟩).write (b + s.gap + u)).rooms.length : Int) = s.rooms.length + 1 := by
        rw [k1]
        simp [Sto.add]
      refine ⟨L', _, r2, fr, o6, o7, some (.int s.rooms.length), some (.int (1 + v)), some (.bl true), some (.int (b + s.gap)), o12, o13, ?_, ⟨?_, c2, a3, inv'.write _, out', ?_, ?_, Nat.le_succ_of_le x2.n2, k6 t kn1⟩⟩
      · unfold LG
        rw [k2, k3, k4, kl]
        rfl
      · rw [f3 0 out', List.getElem?_set_self hz]
      · rw [k5]
        exact x2.pre
      · have : ((s.add ⟨b + s.gap, 1 + v, "living", []⟩).write (b + s.gap + u)).rooms.length = s.rooms.length + 1 := by omega
        omega
    · intro Q
      rw [wp_rg2 (i := b + s.gap) (j := b + s.gap + (1 + v))]
      · have : b + s.gap + (1 + v) - (b + s.gap) = 1 + v := by omega
        rw [this]
      · intro Q
        simp
      · intro Q
        simp
      · omega
    · intro y hy Q
      obtain ⟨j, hj⟩ := List.mem_iff_getElem?.mp hy
      obtain ⟨hj, rfl⟩ := rng_get hj
      have mk : ∀ Q, wp (f_Store_mark [.ref L'.n, .int (b + s.gap + (j : Int))] h') Q = Q (.str "fresh") h' := fun Q => by
        rw [mark_ok a', mark_new x2.inv (by omega) hc (by omega) (by omega)]
      simp [wipeE, wp_gMeth_, aO, mk]

theorem free_turn {ns : List Int} {L : SL} {s : Sto} {r : Row} {fr : List Nat} {t i : Nat} {h : PH} {Q : D → PH → Prop} (x : LH L s r fr t h) (ht : t ≤ 81) (hi : i ∈ s.living)
    (q : ∀ h', LH L (s.free i) r (fr ++ [i]) (t + 1) h' → Q .non h') : wp (f_Store_free [.ref L.n, .int i] h) Q := by
  obtain ⟨q1, hr, hst⟩ := living_iff.mp hi
  have n1 := x.n1
  have wl : s.waiting.length ≤ s.rooms.length := nodup_lt_len _ _ x.inv.i0.nd x.inv.i0.wl
  refine free_ok x.at_ hr hst x.inv.i0.wl (by omega) x.inv.i0.ok.2.2.2.2.1 fun h' a' f' l' => q h' ?_
  obtain ⟨v', pre, e⟩ := x.inv.free hi
  obtain ⟨k1, k2, k3, k4, k5⟩ := free_keep (s := s) i
  obtain ⟨pre0, e0⟩ := x.pre
  refine ⟨by rw [f' 0 x.out]; exact x.h0, x.ok, a', v', x.out, ⟨pre0 ++ pre, ?_⟩, by rw [k1]; omega, ?_, fun q hq => Nat.le_succ_of_le (k5 t x.n3 q hq)⟩
  · rw [e0, List.append_assoc, e, List.append_assoc]
  · rw [List.length_append]
    have := x.n2
    simp
    omega
theorem turn {ns : List Int} {t : Nat} {Γ : Sw.Env} {h : PH} (x : LI ns t Γ h) (ht : t < 81) (k : D) : wp (b_law_3 (Γ.set 6 (some k)) h) fun f h' => match f with
    | .nx Γ' => LI ns (t + 1) Γ' h'
    | .rt _ => False := by
  obtain ⟨L, s, r, fr, o6, o7, o8, o9, o10, o11, o12, o13, rfl, x⟩ := x
  have tail : ∀ (L : SL) (s : Sto) (r : Row) (fr : List Nat) (o6 o7 o8 o9 o10 o11 o12 o13 : Option D) (h : PH), LH L s r fr (t + 1) h →
      wp (sSeq (sSet 12 (gMeth "Store" "kept" f_Store_kept (gV 3) [])) (sSeq (sIf (tOrr (Sw.tB (gCall f__law_clash [(gV 3), (gV 2)])) (Sw.tB (Sw.g2 dNe (gV 12) (gVal (lSl (gV 4) (oSome (Sw.g2 dSub (Sw.g1 dLen (gV 4)) (Sw.g1 dLen (gV 12)))) oNo))))) (sSeq (sRet (gC (.bl false))) sNil) sNil) sNil) (LG ns L s fr [o6, o7, o8, o9, o10, o11, o12, o13]) h) fun f h' => match f with
        | .nx Γ' => LI ns (t + 1) Γ' h'
        | .rt _ => False := fun L s r fr o6 o7 o8 o9 o10 o11 o12 o13 h x => by
    obtain ⟨pre, ep⟩ := x.pre
    unfold LG
    simp [wp_gMeth_, x.at_.o, kept_ok x.at_]
    refine clash_ok x.at_ x.inv fun ob => ?_
    have ec : cutD (natD fr) (some ((natD fr).length - (natD s.waiting).length)) none = natD s.waiting := by
      have e1 : ((natD fr).length : Int) - (natD s.waiting).length = (pre.length : Nat) := by
        rw [natD_len, natD_len, ep, List.length_append]
        omega
      unfold cutD
      rw [e1, HT.sIx_nat, HT.sIx_none]
      have e2 : min pre.length (natD fr).length = pre.length := by
        rw [natD_len, ep, List.length_append]
        omega
      rw [e2]
      have e3 : natD fr = natD pre ++ natD s.waiting := by
        unfold natD
        rw [ep, List.map_append]
      rw [e3, List.drop_left' (natD_len pre)]
      rw [List.take_of_length_le]
      rw [List.length_append, natD_len, natD_len]
      omega
    simp [lAdd.seqL, ec]
    rw [natD_ints, neLI]
    simp
    exact ⟨L, s, r, fr, o6, o7, o8, o9, o10, o11, _, o13, rfl, x.app _⟩
  unfold b_law_3
  rw [wp_sSeq]
  simp only [LG, List.set, wp_sSet, wp_gMeth_, wp_gV, List.getElem?_cons_succ, List.getElem?_cons_zero, x.at_.o, nm_living, Option.isNone_none, and_self, true_and, wp_seqA0, living_ok x.at_]
  rw [wp_sSeq]
  refine wp_mono (Q := fun f h' => match f with
    | .nx Γ' => LI ns (t + 1) Γ' h'
    | .rt _ => False) ?_ fun f h' q => ?_
  · have other : ∀ r h, LH L s r fr t h → wp (b_law_2 (LG ns L s fr [some k, some (.lst (natD s.living)), o8, o9, o10, o11, o12, o13]) h) fun f h' => match f with
        | .nx Γ' => LI ns (t + 1) Γ' h'
        | .rt _ => False := fun r h x => room_turn x (by omega)
    rw [wp_sIf]
    simp only [wp_tAn, wp_tB, wp_g2, wp_gV, List.getElem?_cons_succ, List.getElem?_cons_zero, wp_gVal, wp_seqA0]
    rw [natD_ints, neL0]
    simp only [wp_isB]
    by_cases hl : s.living = []
    · simp [hl]
      have := other r h x
      rw [hl] at this
      exact this
    · have hl' : ¬ (s.living.map fun (i : Nat) => (i : Int)) = [] := by simpa using hl
      simp only [hl', decide_false, Bool.not_false, if_true]
      simp
      refine taken_ok x.h0 x.ok (by omega) (by omega) fun v r1 a1 b1 c1 d1 => ?_
      have x1 := x.row c1
      by_cases h2 : v < 2
      · have pos : 0 < s.living.length := List.length_pos_iff.mpr hl
        have lv : s.living.length ≤ s.rooms.length := living_len
        have n1 := x.n1
        simp [h2]
        refine taken_ok x1.h0 x1.ok (by omega) (by omega) fun u r2 a2 b2 c2 d2 => ?_
        have x2 : LH L s r2 fr t (h.set 0 (rowOb r2)) := by
          have := x1.row c2
          rwa [List.set_set] at this
        obtain ⟨j, rfl⟩ : ∃ j : Nat, u = (j : Int) := ⟨u.toNat, by omega⟩
        have hj : j < s.living.length := by omega
        rw [wp_ixL, Sw.atI_nat]
        have ej : ((s.living.map (D.int ∘ fun (i : Nat) => (i : Int))))[j]? = some (.int (s.living[j] : Nat)) := by
          rw [List.getElem?_map, List.getElem?_eq_getElem hj]
          rfl
        rw [ej]
        simp only []
        simp [wp_gMeth_, x2.at_.o]
        refine free_turn (ns := ns) x2 (by omega) (List.getElem_mem hj) fun h' x3 => ?_
        rw [wp_sOwnM (xs := natD fr) (by rfl)]
        obtain ⟨k1, k2, k3, k4, k5⟩ := free_keep (s := s) s.living[j]
        have n2 := x.n2
        have hm : (natD fr).length < 16777216 := by
          rw [natD_len]
          omega
        simp [mApp, hm]
        refine ⟨L, s.free s.living[j], r2, fr ++ [s.living[j]], some k, some (.lst (natD s.living)), some (.int (s.living[j] : Nat)), o9, o10, o11, o12, o13, ?_, x3⟩
        unfold LG
        rw [k1, k2, k3, k4]
        have e : natD (fr ++ [s.living[j]]) = natD fr ++ [.int (s.living[j] : Nat)] := by
          unfold natD
          rw [List.map_append]
          rfl
        rw [e, natD_ints s.living]
        simp
      · simp [h2]
        have := other r1 _ x1
        rw [natD_ints] at this
        simp at this
        exact this
  · cases f with
    | rt d => exact q
    | nx Γ' =>
      obtain ⟨L, s, r, fr, o6, o7, o8, o9, o10, o11, o12, o13, rfl, x⟩ := q
      exact tail L s r fr o6 o7 o8 o9 o10 o11 o12 o13 h' x
theorem law_true (ns : List Int) (hl : ns.length ≤ 63) : ∃ h', f_law [.rd ns] [] = .ok (.bl true) h' := by
  have main : wp (f_law [.rd ns] []) fun d _ => d = .bl true := by
    simp only [f_law, wp_fnM]
    simp [b_law]
    have r0 : ([Ob.lst [.rd ns, .int 0, .int 0, .int 0]] : PH)[0]? = some (rowOb ⟨ns, 0, 0, 0⟩) := rfl
    refine setting_ok r0 ⟨by simp, by simp⟩ fun m g k r1 ok c1 d1 => ?_
    have sn : ∀ Q : D → PH → Prop, wp (f_Store_new [.ref 1, .tup [.int m, .int g, .int k]] [rowOb r1, .ins "Store" []]) Q = Q .non [rowOb r1, .ins "Store" (storeFs ⟨m, g, k, [], []⟩ 2 3), .lst [], .lst []] := fun Q => store_new_ok (h := [rowOb r1]) ok
    have sa : SAt [rowOb r1, .ins "Store" (storeFs ⟨m, g, k, [], []⟩ 2 3), .lst [], .lst []] ⟨1, 2, 3, []⟩ ⟨m, g, k, [], []⟩ := store_at (h := [rowOb r1])
    have x0 : LH ⟨1, 2, 3, []⟩ ⟨m, g, k, [], []⟩ r1 [] 0 [rowOb r1, .ins "Store" (storeFs ⟨m, g, k, [], []⟩ 2 3), .lst [], .lst []] :=
      ⟨rfl, c1, sa, Inv0.start ok, by simp [SL.all], ⟨[], rfl⟩, Nat.le_refl _, Nat.le_refl _, fun q hq => by simp at hq⟩
    simp [sn]
    unfold sFor rg1
    simp
    refine taken_ok x0.h0 c1 (by omega) (by omega) fun v r2 a2 b2 c2 d2 => ?_
    have x1 := x0.row c2
    have hv : -4611686018427387904 ≤ v ∧ v ≤ 16777216 := by omega
    simp only [hv, and_self, if_true, wp_ok]
    refine wp_loopX (fun i Γ h => LI ns i Γ h) (fun i x Γ h q hx => ?_) (fun Γ h q => trivial) ⟨_, _, r2, [], none, none, none, none, none, none, none, none, rfl, x1⟩
    obtain ⟨hi, rfl⟩ := rng_get hx
    rw [wp_bnd, wp_tgName]
    refine wp_mono (turn q (by omega) _) fun f h' q => ?_
    cases f with
    | nx Γ' => exact q
    | rt d => exact q.elim
  obtain ⟨d, h', e, rfl⟩ := wp_eq.mp main
  exact ⟨h', e⟩
end GK05

set_option maxHeartbeats 0
/-! k05: the head. Printed by gen.py. -/
namespace GK05
open PySem PySem.Spec L2 Sw
def D_is_number : He.DefD := ⟨("is_number", none), "is_number", "is_number", defArgs st_is_number, defBody st_is_number, defScope st_is_number, [], []⟩
def D_need_setting : He.DefD := ⟨("need_setting", none), "need_setting", "need_setting", defArgs st_need_setting, defBody st_need_setting, defScope st_need_setting, [], []⟩
def D_Store_new : He.DefD := ⟨("Store", some "__init__"), "__init__", "Store.__init__", defArgs st_Store_new, defBody st_Store_new, defScope st_Store_new, [], []⟩
def D_Store_born : He.DefD := ⟨("Store", some "born"), "born", "Store.born", defArgs st_Store_born, defBody st_Store_born, defScope st_Store_born, [], []⟩
def D_Store_free : He.DefD := ⟨("Store", some "free"), "free", "Store.free", defArgs st_Store_free, defBody st_Store_free, defScope st_Store_free, [], []⟩
def D_Store_kept : He.DefD := ⟨("Store", some "kept"), "kept", "Store.kept", defArgs st_Store_kept, defBody st_Store_kept, defScope st_Store_kept, [], []⟩
def D_Store_is_living : He.DefD := ⟨("Store", some "is_living"), "is_living", "Store.is_living", defArgs st_Store_is_living, defBody st_Store_is_living, defScope st_Store_is_living, [], []⟩
def D_Store_living : He.DefD := ⟨("Store", some "living"), "living", "Store.living", defArgs st_Store_living, defBody st_Store_living, defScope st_Store_living, [], []⟩
def D_Room_has : He.DefD := ⟨("Room", some "has"), "has", "Room.has", defArgs st_Room_has, defBody st_Room_has, defScope st_Room_has, [], []⟩
def D_Store_mark : He.DefD := ⟨("Store", some "mark"), "mark", "Store.mark", defArgs st_Store_mark, defBody st_Store_mark, defScope st_Store_mark, [], []⟩
def D_Store_place : He.DefD := ⟨("Store", some "place"), "place", "Store.place", defArgs st_Store_place, defBody st_Store_place, defScope st_Store_place, [], []⟩
def D_Room_new : He.DefD := ⟨("Room", some "__init__"), "__init__", "Room.__init__", defArgs st_Room_new, defBody st_Room_new, defScope st_Room_new, [], []⟩
def D_Store_is_clear : He.DefD := ⟨("Store", some "is_clear"), "is_clear", "Store.is_clear", defArgs st_Store_is_clear, defBody st_Store_is_clear, defScope st_Store_is_clear, [], []⟩
def D_Store_room : He.DefD := ⟨("Store", some "room"), "room", "Store.room", defArgs st_Store_room, defBody st_Store_room, defScope st_Store_room, [], []⟩
def D_Store_owner : He.DefD := ⟨("Store", some "owner"), "owner", "Store.owner", defArgs st_Store_owner, defBody st_Store_owner, defScope st_Store_owner, [], []⟩
def D_Store_write : He.DefD := ⟨("Store", some "write"), "write", "Store.write", defArgs st_Store_write, defBody st_Store_write, defScope st_Store_write, [], []⟩
def D_Store_size : He.DefD := ⟨("Store", some "size"), "size", "Store.size", defArgs st_Store_size, defBody st_Store_size, defScope st_Store_size, [], []⟩
def D__law_clash : He.DefD := ⟨("_law_clash", none), "_law_clash", "_law_clash", defArgs st__law_clash, defBody st__law_clash, defScope st__law_clash, [], []⟩
def D__law_has_room : He.DefD := ⟨("_law_has_room", none), "_law_has_room", "_law_has_room", defArgs st__law_has_room, defBody st__law_has_room, defScope st__law_has_room, [], []⟩
def D__law_taken : He.DefD := ⟨("_law_taken", none), "_law_taken", "_law_taken", defArgs st__law_taken, defBody st__law_taken, defScope st__law_taken, [], []⟩
def D__law_setting : He.DefD := ⟨("_law_setting", none), "_law_setting", "_law_setting", defArgs st__law_setting, defBody st__law_setting, defScope st__law_setting, [], []⟩
def D_law : He.DefD := ⟨("law", none), "law", "law", defArgs st_law, defBody st_law, defScope st_law, [], []⟩
def fn : List He.DefD := [D_is_number, D_need_setting, D_Store_new, D_Store_born, D_Store_free, D_Store_kept, D_Store_is_living, D_Store_living, D_Room_has, D_Store_mark, D_Store_place, D_Room_new, D_Store_is_clear, D_Store_room, D_Store_owner, D_Store_write, D_Store_size, D__law_clash, D__law_has_room, D__law_taken, D__law_setting, D_law]
def fa : List He.Fa := [.free "isinstance", .free "bool", .free "int", .glo "is_number", .glo "need_setting", .noat "Store" "waiting", .noat "Store" "rooms", .noat "Store" "many", .noat "Store" "keep", .noat "Store" "gap", .cls "Store", .mkr "Store", .glo "Store", .free "len", .meth "Store" "born", .noat "Room" "wide", .noat "Room" "where", .noat "Room" "state", .noat "Room" "known", .cls "Room", .free "sum", .str "GONE" "gone", .str "KEPT" "kept", .str "LIVING" "living", .meth "Store" "free", .free "list", .meth "Store" "kept", .meth "Store" "is_living", .free "range", .meth "Store" "living", .meth "Room" "has", .str "OPEN" "open", .str "GAP" "gap", .str "SET" "set", .str "FRESH" "fresh", .str "FREED" "freed", .meth "Store" "mark", .meth "Store" "place", .mkr "Room", .glo "Room", .meth "Store" "is_clear", .int "LEAST_SIZE" 1, .int "MOST_SIZE" 8, .meth "Store" "room", .meth "Store" "owner", .meth "Store" "write", .meth "Store" "size", .glo "_law_clash", .glo "_law_has_room", .glo "_law_taken", .glo "_law_setting", .glo "law"]
abbrev R : PySem.W.OpenRow := PySem.W.OpenLaw.row PySem.Challenge.rw_shadowroom_k05_whole_rooms_never_meet
abbrev hk : PySem.W.Hook := He.hookD 5 fa fn
def ob (s : PySem.W.SharedT) : He.AlD := He.obsDG 5 fa fn (HandSHeadRun.getT s)
theorem ob_eq (s : PySem.W.SharedT) : ob s = hk.obs s.abs := He.obsDG_eq (HandSHeadRun.getT_eq s)
theorem run (w : World) : HandSHeadRun.RunEq R (PySem.W.view R.prog [27]) hk ob 2500 ["_wall", "ShadowError", "BadSetting", "BadSize", "NoRoom", "is_number", "need_setting", "LEAST_SIZE", "MOST_SIZE", "LIVING", "KEPT", "GONE", "OPEN", "GAP", "FREED", "FRESH", "SET", "Room", "Store", "_law_taken", "_law_setting", "_law_clash", "_law_has_room"] w := by
  intro os
  kernel_rfl
theorem hf {P : Program} {w : World} {K : PySem.W.Frag} {mg : Str → Option Value} {base h : Heap} (X : K.In h) (G : h.Ns mainGlobals mg) (c : He.SaysD fa fn K) : HF (txOf P w K mg base) where
  calm := ⟨rfl, rfl, rfl⟩
  b_isinstance := bn_of X G (c.fact 0 (f := .free "isinstance") rfl)
  b_bool := bn_of X G (c.fact 1 (f := .free "bool") rfl)
  b_int := bn_of X G (c.fact 2 (f := .free "int") rfl)
  d_is_number := def_of c 0 rfl
  g_is_number := He.glo_ok X G (c.fact 3 (f := .glo "is_number") rfl)
  d_need_setting := def_of c 1 rfl
  g_need_setting := He.glo_ok X G (c.fact 4 (f := .glo "need_setting") rfl)
  c_Store := ct_of (c.fact 10 (f := .cls "Store") rfl) (all_cons (c.fact 9 (f := .noat "Store" "gap") rfl) (all_cons (c.fact 8 (f := .noat "Store" "keep") rfl) (all_cons (c.fact 7 (f := .noat "Store" "many") rfl) (all_cons (c.fact 6 (f := .noat "Store" "rooms") rfl) (all_cons (c.fact 5 (f := .noat "Store" "waiting") rfl) all_nil)))))
  d_Store_new := def_of c 2 rfl
  k_Store := He.mkr_ok (c.fact 11 (f := .mkr "Store") rfl)
  g_Store := He.glo_ok X G (c.fact 12 (f := .glo "Store") rfl)
  b_len := bn_of X G (c.fact 13 (f := .free "len") rfl)
  d_Store_born := def_of c 3 rfl
  e_Store_born := He.meth_ok (c.fact 14 (f := .meth "Store" "born") rfl)
  l_Store := He.cls_ok (c.fact 10 (f := .cls "Store") rfl)
  c_Room := ct_of (c.fact 19 (f := .cls "Room") rfl) (all_cons (c.fact 18 (f := .noat "Room" "known") rfl) (all_cons (c.fact 17 (f := .noat "Room" "state") rfl) (all_cons (c.fact 16 (f := .noat "Room" "where") rfl) (all_cons (c.fact 15 (f := .noat "Room" "wide") rfl) all_nil))))
  b_sum := bn_of X G (c.fact 20 (f := .free "sum") rfl)
  m_GONE := mn_str X G (c.fact 21 (f := .str "GONE" "gone") rfl)
  m_KEPT := mn_str X G (c.fact 22 (f := .str "KEPT" "kept") rfl)
  m_LIVING := mn_str X G (c.fact 23 (f := .str "LIVING" "living") rfl)
  d_Store_free := def_of c 4 rfl
  e_Store_free := He.meth_ok (c.fact 24 (f := .meth "Store" "free") rfl)
  b_list := bn_of X G (c.fact 25 (f := .free "list") rfl)
  d_Store_kept := def_of c 5 rfl
  e_Store_kept := He.meth_ok (c.fact 26 (f := .meth "Store" "kept") rfl)
  d_Store_is_living := def_of c 6 rfl
  e_Store_is_living := He.meth_ok (c.fact 27 (f := .meth "Store" "is_living") rfl)
  b_range := bn_of X G (c.fact 28 (f := .free "range") rfl)
  d_Store_living := def_of c 7 rfl
  e_Store_living := He.meth_ok (c.fact 29 (f := .meth "Store" "living") rfl)
  d_Room_has := def_of c 8 rfl
  e_Room_has := He.meth_ok (c.fact 30 (f := .meth "Room" "has") rfl)
  l_Room := He.cls_ok (c.fact 19 (f := .cls "Room") rfl)
  m_OPEN := mn_str X G (c.fact 31 (f := .str "OPEN" "open") rfl)
  m_GAP := mn_str X G (c.fact 32 (f := .str "GAP" "gap") rfl)
  m_SET := mn_str X G (c.fact 33 (f := .str "SET" "set") rfl)
  m_FRESH := mn_str X G (c.fact 34 (f := .str "FRESH" "fresh") rfl)
  m_FREED := mn_str X G (c.fact 35 (f := .str "FREED" "freed") rfl)
  d_Store_mark := def_of c 9 rfl
  e_Store_mark := He.meth_ok (c.fact 36 (f := .meth "Store" "mark") rfl)
  d_Store_place := def_of c 10 rfl
  e_Store_place := He.meth_ok (c.fact 37 (f := .meth "Store" "place") rfl)
  d_Room_new := def_of c 11 rfl
  k_Room := He.mkr_ok (c.fact 38 (f := .mkr "Room") rfl)
  g_Room := He.glo_ok X G (c.fact 39 (f := .glo "Room") rfl)
  d_Store_is_clear := def_of c 12 rfl
  e_Store_is_clear := He.meth_ok (c.fact 40 (f := .meth "Store" "is_clear") rfl)
  m_LEAST_SIZE := mn_int X G (c.fact 41 (f := .int "LEAST_SIZE" 1) rfl)
  m_MOST_SIZE := mn_int X G (c.fact 42 (f := .int "MOST_SIZE" 8) rfl)
  d_Store_room := def_of c 13 rfl
  e_Store_room := He.meth_ok (c.fact 43 (f := .meth "Store" "room") rfl)
  d_Store_owner := def_of c 14 rfl
  e_Store_owner := He.meth_ok (c.fact 44 (f := .meth "Store" "owner") rfl)
  d_Store_write := def_of c 15 rfl
  e_Store_write := He.meth_ok (c.fact 45 (f := .meth "Store" "write") rfl)
  d_Store_size := def_of c 16 rfl
  e_Store_size := He.meth_ok (c.fact 46 (f := .meth "Store" "size") rfl)
  d__law_clash := def_of c 17 rfl
  g__law_clash := He.glo_ok X G (c.fact 47 (f := .glo "_law_clash") rfl)
  d__law_has_room := def_of c 18 rfl
  g__law_has_room := He.glo_ok X G (c.fact 48 (f := .glo "_law_has_room") rfl)
  d__law_taken := def_of c 19 rfl
  g__law_taken := He.glo_ok X G (c.fact 49 (f := .glo "_law_taken") rfl)
  d__law_setting := def_of c 20 rfl
  g__law_setting := He.glo_ok X G (c.fact 50 (f := .glo "_law_setting") rfl)
  d_law := def_of c 21 rfl
  g_law := He.glo_ok X G (c.fact 51 (f := .glo "law") rfl)
theorem facts {P : Program} {w : World} {K : PySem.W.Frag} {h : Heap} {mg : Str → Option Value} {f : Addr} (HT : ∀ ns : List Int, ns.length ≤ 63 → ∃ h', f_law [.rd ns] [] = .ok (.bl true) h') (X : K.In h) (G : h.Ns mainGlobals mg) (hfa : mg ("law" : Str) = some (.ref f)) (c : He.SaysD fa fn K) :
    ∃ (fd : FuncData) (sp : Sp), (∀ (s : Shared) (v : Value), BindsTo s fd ⟨[v], []⟩ [("_law_script", v)]) ∧
      (∀ (H : Hp) (a : Addr) (ns : List Int), ns.length ≤ 63 → L2.Only H → SqL K H a (ns.map V.int) → sp [.ref a] H (fun v _ => v = .bl true) fun _ _ _ => False) ∧ ∀ base : Heap, K.In base → base.Ns mainGlobals mg → FnOk P w K mg base CX0 5 f fd ["_law_script"] sp := by
  obtain ⟨fd, F⟩ := c.def_ 21 (d := D_law) rfl
  have e := hfa.symm.trans (He.glo_ok X G (c.fact 51 (f := .glo "law") rfl))
  cases e
  have b := FunD.bindsA (ps := ["_law_script"]) F fun _ _ _ _ _ _ us hl => match us, hl with | [_], _ => rfl
  refine ⟨fd, spM (txOf P w K mg h) 1 f_law, fun s v => b s [v] rfl, fun H a ns hl _ hS => ?_, fun base _ _ => ?_⟩
  · obtain ⟨h', e⟩ := HT ns hl
    exact law_sp hl hS e
  · exact fn_okD (T := txOf P w K mg base) (st := st_law) (N := ["_law_script", "_law_row", "_law_setting_here", "_law_store", "_law_freed", "_law_born", "_law_turn", "_law_living", "_law_number", "_law_size", "_law_has", "_law_place", "_law_kept", "_law_cell"]) (O := [4]) F sc_law rfl rfl rfl rfl (rs_law (hf X G c))
open PySem PySem.W PySem.Calls PyProof.Rows in
theorem holds_of (HT : ∀ ns : List Int, ns.length ≤ 63 → ∃ h', f_law [.rd ns] [] = .ok (.bl true) h') : PySem.Challenge.rw_shadowroom_k05_whole_rooms_never_meet.Holds := by
  w_on; o_law
  refine HandSHeadRun.head_any (r := OpenLaw.row PySem.Challenge.rw_shadowroom_k05_whole_rooms_never_meet) (q := view (OpenLaw.row PySem.Challenge.rw_shadowroom_k05_whole_rooms_never_meet).prog [27]) (H := hk) (ob := ob) (M := 2500) (loose := ["_wall", "ShadowError", "BadSetting", "BadSize", "NoRoom", "is_number", "need_setting", "LEAST_SIZE", "MOST_SIZE", "LIVING", "KEPT", "GONE", "OPEN", "GAP", "FREED", "FRESH", "SET", "Room", "Store", "_law_taken", "_law_setting", "_law_clash", "_law_has_room"]) (d := HandSHeadRun.topDef (OpenLaw.row PySem.Challenge.rw_shadowroom_k05_whole_rooms_never_meet).prog 27) (kwd := []) ob_eq
    (by kernel_rfl) (fun s => by kernel_rfl) run (by kernel_rfl) (by kernel_rfl) (by kernel_rfl) (by rfl) (by first | assumption | decide +kernel) (by decide +kernel) ⟨rfl, rfl, rfl, rfl, rfl, by decide +kernel⟩ ?hw ?hc
  case hw => w_witness2
  case hc =>
    refine L2.walk_ofE (l := PySem.Challenge.rw_shadowroom_k05_whole_rooms_never_meet) (n := 63) (k := 5) (x := "_law_script") (CX := L2.CX0) rfl (by decide) (by kernel_rfl) ⟨rfl, by decide, by decide⟩ ?F (fun _ _ _ _ z => z)
    intro w mg fa h Y G hmg0
    obtain ⟨K, KX, c⟩ := Y
    have hmg : mg ("law" : PySem.Str) = some (.ref fa) := by
      have e : (HandSHeadRun.topDef (OpenLaw.row PySem.Challenge.rw_shadowroom_k05_whole_rooms_never_meet).prog 27).name = ("law" : PySem.Str) := by kernel_rfl
      rw [← e]
      exact hmg0
    obtain ⟨fd, sp, hb, hs, hF⟩ := facts (P := (PySem.Challenge.rw_shadowroom_k05_whole_rooms_never_meet).prog) (w := w) HT KX G hmg c
    exact ⟨K, fd, sp, KX, hb, hs, hF⟩
end GK05

theorem PySem.Challenge.cw_shadowroom_k05_whole_rooms_never_meet_holds : PySem.Challenge.rw_shadowroom_k05_whole_rooms_never_meet.Holds :=
  GK05.holds_of GK05.law_true
