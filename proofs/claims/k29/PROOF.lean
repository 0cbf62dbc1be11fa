import PyProof.Rows.All
import HandS.ForMost
import HandS.Exc
import HandS.ExcOwn
import HandS.WordsExc
import HandS.Walk
import HandS.Wide
import HandS.TupAny
import HandS.IsInst
import HandS.Style
import HandS.SortInts
import PyProof.StrBlock2
import HandS.Zip
import HandS.Dict
import KE.GoesMore
import KE.GoesEnum
import HandS.Conv
import HandS.Defaults
import HandS.ExcSuper
import HandS.ExcInit
import KE.KSuper
import HandS.TryMany
import KE.KExcIs
import HandS.HeadHook1
import HandS.Head0
import HandS.Head1
import HandS.Head2
import HandS.HeadEnd
import HandS.HeadHook2
import PySem.Challenge.RW_trueatonce_k29_prices_costs
set_option Elab.async false
set_option linter.all false
set_option maxRecDepth 100000
namespace Tri
open PySem PySem.Spec PyProof.Rows L2

/-- a value as a tree: tuples by value, lists (and whatever changes) by their number in the store -/
inductive D where
  | non | bl (b : Bool) | int (i : Int) | str (x : Str) | tup (xs : List D) | ref (n : Nat) | fzl (xs : List D) | dct (t : Bool) (n : Nat)
  deriving Inhabited
/-- what stands in the store -/
inductive MO where
  | lst (xs : List D)
  deriving Inhabited
abbrev Store := List MO
abbrev Sl := List (Option D)
/-- the program's own errors, their fields, the own classes at and above them -/
inductive Xc where
  | RecordError | DataError | CallError | TextError | AskError | BadName | BadFields | BadLadder | BadReading | BadSight | BadStep | BadText | BadCommand | NoSuch | Taken
  deriving DecidableEq
inductive Fd where
  | at_ | word | line | name
  deriving DecidableEq
def Xc.str : Xc → Str
  | .RecordError => "RecordError" | .DataError => "DataError" | .CallError => "CallError" | .TextError => "TextError" | .AskError => "AskError" | .BadName => "BadName" | .BadFields => "BadFields" | .BadLadder => "BadLadder"
  | .BadReading => "BadReading" | .BadSight => "BadSight" | .BadStep => "BadStep" | .BadText => "BadText" | .BadCommand => "BadCommand" | .NoSuch => "NoSuch" | .Taken => "Taken"
def Fd.str : Fd → Str
  | .at_ => "at" | .word => "word" | .line => "line" | .name => "name"
def Xc.fds : Xc → List Fd
  | .BadName => [.at_] | .BadFields => [.at_, .word] | .BadLadder => [.at_, .word] | .BadReading => [.at_, .word] | .BadSight => [.at_] | .BadStep => [.word] | .BadText => [.line, .word] | .BadCommand => [.line] | .NoSuch => [.word, .name] | .Taken => [.name]
  | _ => []
def Xc.up : Xc → List Xc
  | .RecordError => [.RecordError] | .DataError => [.DataError, .RecordError] | .CallError => [.CallError, .RecordError] | .TextError => [.TextError, .RecordError] | .AskError => [.AskError, .RecordError]
  | .BadName => [.BadName, .DataError, .RecordError] | .BadFields => [.BadFields, .DataError, .RecordError] | .BadLadder => [.BadLadder, .DataError, .RecordError] | .BadReading => [.BadReading, .DataError, .RecordError] | .BadSight => [.BadSight, .DataError, .RecordError]
  | .BadStep => [.BadStep, .CallError, .RecordError] | .BadText => [.BadText, .TextError, .RecordError] | .BadCommand => [.BadCommand, .TextError, .RecordError] | .NoSuch => [.NoSuch, .AskError, .RecordError] | .Taken => [.Taken, .AskError, .RecordError]
/-- is a c a d -/
def Xc.isA (c d : Xc) : Bool := c.up.contains d
/-- what comes of an expression -/
inductive R (α : Type) where
  | ok (a : α) (M : Store) | ex (c : Xc) (fs : List D) (M : Store) | no
def R.bind {α β : Type} (r : R α) (f : α → Store → R β) : R β := match r with
  | .ok a M => f a M
  | .ex c fs M => .ex c fs M
  | .no => .no
def R.sat {α : Type} (r : R α) (Q : α → Store → Prop) (X : Xc → List D → Store → Prop) : Prop := match r with
  | .ok a M => Q a M
  | .ex c fs M => X c fs M
  | .no => False
theorem sat_bind {α β : Type} {r : R α} {f : α → Store → R β} {Q : β → Store → Prop} {X : Xc → List D → Store → Prop} (h : (r.bind f).sat Q X) : r.sat (fun a M => (f a M).sat Q X) X := by
  cases r with
  | ok a M => exact h
  | ex c fs M => exact h
  | no => exact h
theorem sat_mono {α : Type} {r : R α} {Q Q' : α → Store → Prop} {X X' : Xc → List D → Store → Prop} (h : r.sat Q X) (hq : ∀ a M, Q a M → Q' a M) (hx : ∀ c fs M, X c fs M → X' c fs M) : r.sat Q' X' := by
  cases r with
  | ok a M => exact hq _ _ h
  | ex c fs M => exact hx _ _ _ h
  | no => exact h

abbrev Rho := Nat → Option Addr
/-- lists and dicts stay what they are -/
def kndO : HO → Nat
  | .lst _ => 1
  | .dK _ => 2
  | .dT _ => 3
  | _ => 0
def IsKd (H : Hp) (a : Addr) (k : Nat) : Prop := ∃ o, H a = some o ∧ kndO o = k
def Knd (H H' : Hp) : Prop := ∀ a k, k ≠ 0 → IsKd H a k → IsKd H' a k
theorem Knd.refl (H : Hp) : Knd H H := fun _ _ _ h => h
theorem Knd.trans {H H1 H2 : Hp} (a : Knd H H1) (b : Knd H1 H2) : Knd H H2 := fun x k z h => b x k z (a x k z h)
theorem Knd.new {H : Hp} {p : Addr} {o : HO} (hp : H p = none) : Knd H (upd H p o) := fun a k _ ⟨u, e, q⟩ => ⟨u, by rw [upd_ne (ne_of_none e hp)]; exact e, q⟩
theorem Knd.wr {H : Hp} {p : Addr} {o u : HO} (hp : H p = some u) (hk : kndO o = kndO u) : Knd H (upd H p o) := fun a k _ ⟨x, e, q⟩ => by
  by_cases z : a = p
  · subst z
    rw [hp] at e
    cases e
    exact ⟨o, upd_same, hk.trans q⟩
  · exact ⟨x, by rw [upd_ne z]; exact e, q⟩
/-- a dict's pairs as a list of trees -/
def keyD : Key → D
  | .inl i => .int i
  | .inr x => .str x
def prG {κ : Type} (enc : κ → D) : List κ → List D → List D
  | k :: ks, d :: ds => .tup [enc k, d] :: prG enc ks ds
  | _, _ => []
def keyT (k : List Key) : D := .tup (k.map keyD)
abbrev prK : List Key → List D → List D := prG keyD
abbrev prT : List (List Key) → List D → List D := prG keyT
mutual
def RelD (K : PySem.W.Frag) (ρ : Rho) (H : Hp) : D → V → Prop
  | .non, v => v = .non
  | .bl b, v => v = .bl b
  | .int i, v => v = .int i
  | .str x, v => v = .str x
  | .tup xs, v => ∃ a vs, v = .ref a ∧ H a = some (.tup vs) ∧ RelDs K ρ H xs vs
  | .ref n, v => ∃ a, v = .ref a ∧ ρ n = some a ∧ IsKd H a 1
  | .dct t n, v => ∃ a, v = .ref a ∧ ρ n = some a ∧ IsKd H a (if t then 3 else 2)
  | .fzl xs, v => ∃ a vs, v = .ref a ∧ ((∃ u, H a = some (.frz u (.lst vs))) ∨ (∀ H', SqL K H' a vs)) ∧ RelDs K ρ H xs vs
def RelDs (K : PySem.W.Frag) (ρ : Rho) (H : Hp) : List D → List V → Prop
  | [], vs => vs = []
  | d :: ds, vs => ∃ v r, vs = v :: r ∧ RelD K ρ H d v ∧ RelDs K ρ H ds r
end

def ObjR (K : PySem.W.Frag) (ρ : Rho) (H : Hp) : MO → Addr → Prop
  | .lst xs, a => (∃ vs, H a = some (.lst vs) ∧ RelDs K ρ H xs vs) ∨ (∃ (kvs : List (Key × V)) (ds : List D), H a = some (.dK kvs) ∧ xs = prK (kvs.map (·.1)) ds ∧ RelDs K ρ H ds (kvs.map (·.2))) ∨
    ∃ (kvs : List (List Key × V)) (ds : List D), H a = some (.dT kvs) ∧ xs = prT (kvs.map (·.1)) ds ∧ RelDs K ρ H ds (kvs.map (·.2))
theorem ObjR.lst {K : PySem.W.Frag} {ρ : Rho} {H : Hp} {xs : List D} {a : Addr} (h : ObjR K ρ H (.lst xs) a) (k : IsKd H a 1) : ∃ vs, H a = some (.lst vs) ∧ RelDs K ρ H xs vs := by
  obtain ⟨o, e, q⟩ := k
  rcases h with h | ⟨kvs, ds, h, _⟩ | ⟨kvs, ds, h, _⟩
  · exact h
  · rw [h] at e; cases e; cases q
  · rw [h] at e; cases e; cases q
structure Conc (K : PySem.W.Frag) (ρ : Rho) (M : Store) (H : Hp) : Prop where
  obj : ∀ n o, M[n]? = some o → ∃ a, ρ n = some a ∧ ObjR K ρ H o a
  dom : ∀ n a, ρ n = some a → n < M.length
  inj : ∀ m n a, ρ m = some a → ρ n = some a → m = n
structure Step (ρ : Rho) (H : Hp) (ρ' : Rho) (H' : Hp) : Prop where
  le : ∀ n a, ρ n = some a → ρ' n = some a
  new : ∀ n a, ρ' n = some a → ρ n = some a ∨ H a = none
  frame : ∀ a o, H a = some o → (∀ n, ρ n ≠ some a) → H' a = some o
  tups : ∀ a vs, Rd H a (.tup vs) → Rd H' a (.tup vs)
  frzs : ∀ a o u, H a = some (.frz o u) → H' a = some (.frz o u)
  there : ∀ a, H' a = none → H a = none
  knd : Knd H H'
  tupx : ∀ a vs, H a = some (.tup vs) → H' a = some (.tup vs)
theorem Step.refl (ρ : Rho) (H : Hp) : Step ρ H ρ H := ⟨fun _ _ h => h, fun _ _ h => .inl h, fun _ _ h _ => h, fun _ _ h => h, fun _ _ _ h => h, fun _ h => h, Knd.refl H, fun _ _ h => h⟩
theorem Step.trans {ρ ρ1 ρ2 : Rho} {H H1 H2 : Hp} (a : Step ρ H ρ1 H1) (b : Step ρ1 H1 ρ2 H2) : Step ρ H ρ2 H2 where
  le := fun n x h => b.le n x (a.le n x h)
  new := fun n x h => by
    rcases b.new n x h with h | h
    · exact a.new n x h
    · exact .inr (a.there x h)
  frame := fun x o h hn => b.frame x o (a.frame x o h hn) fun n e => by
    rcases a.new n x e with e | e
    · exact hn n e
    · rw [h] at e; cases e
  tups := fun x vs h => b.tups x vs (a.tups x vs h)
  frzs := fun x o u h => b.frzs x o u (a.frzs x o u h)
  there := fun x h => a.there x (b.there x h)
  knd := a.knd.trans b.knd
  tupx := fun x vs h => b.tupx x vs (a.tupx x vs h)
/-- what a tree's meaning leans on -/
structure Mono (ρ : Rho) (H : Hp) (ρ' : Rho) (H' : Hp) : Prop where
  le : ∀ n a, ρ n = some a → ρ' n = some a
  tups : ∀ a vs, Rd H a (.tup vs) → Rd H' a (.tup vs)
  frzs : ∀ a o u, H a = some (.frz o u) → H' a = some (.frz o u)
  knd : Knd H H'
  tupx : ∀ a vs, H a = some (.tup vs) → H' a = some (.tup vs)
theorem Step.mono {ρ ρ' : Rho} {H H' : Hp} (s : Step ρ H ρ' H') : Mono ρ H ρ' H' := ⟨s.le, s.tups, s.frzs, s.knd, s.tupx⟩
theorem Mono.sqT {K : PySem.W.Frag} {ρ ρ' : Rho} {H H' : Hp} (s : Mono ρ H ρ' H') {a : Addr} {vs : List V} (h : SqT K H a vs) : SqT K H' a vs := by
  rcases h with h | h
  · exact .inl (s.tups _ _ h)
  · exact .inr h
mutual
theorem RelD.mono {K : PySem.W.Frag} {ρ ρ' : Rho} {H H' : Hp} (s : Mono ρ H ρ' H') : ∀ (d : D) (v : V), RelD K ρ H d v → RelD K ρ' H' d v
  | .non, _, h => h
  | .bl _, _, h => h
  | .int _, _, h => h
  | .str _, _, h => h
  | .tup xs, v, h => by
    obtain ⟨a, vs, e, hs, hr⟩ := h
    exact ⟨a, vs, e, s.tupx _ _ hs, RelDs.mono s xs vs hr⟩
  | .ref n, v, h => by
    obtain ⟨a, e, hn, hk⟩ := h
    exact ⟨a, e, s.le n a hn, s.knd a 1 (by decide) hk⟩
  | .dct t n, v, h => by
    obtain ⟨a, e, hn, hk⟩ := h
    exact ⟨a, e, s.le n a hn, s.knd a _ (by cases t <;> decide) hk⟩
  | .fzl xs, v, h => by
    obtain ⟨a, vs, e, hs, hr⟩ := h
    refine ⟨a, vs, e, ?_, RelDs.mono s xs vs hr⟩
    rcases hs with ⟨u, hs⟩ | hs
    · exact .inl ⟨u, s.frzs _ _ _ hs⟩
    · exact .inr hs
theorem RelDs.mono {K : PySem.W.Frag} {ρ ρ' : Rho} {H H' : Hp} (s : Mono ρ H ρ' H') : ∀ (ds : List D) (vs : List V), RelDs K ρ H ds vs → RelDs K ρ' H' ds vs
  | [], _, h => h
  | d :: ds, vs, h => by
    obtain ⟨v, r, e, h1, h2⟩ := h
    exact ⟨v, r, e, RelD.mono s d v h1, RelDs.mono s ds r h2⟩
end
theorem RelDs.length {K : PySem.W.Frag} {ρ : Rho} {H : Hp} : ∀ {ds : List D} {vs : List V}, RelDs K ρ H ds vs → ds.length = vs.length
  | [], _, h => by rw [show _ = [] from h]; rfl
  | d :: ds, vs, h => by
    obtain ⟨v, r, e, _, h2⟩ := h
    rw [e, List.length_cons, List.length_cons, RelDs.length h2]
theorem RelDs.get {K : PySem.W.Frag} {ρ : Rho} {H : Hp} : ∀ {ds : List D} {vs : List V} {i : Nat} {d : D}, RelDs K ρ H ds vs → ds[i]? = some d → ∃ v, vs[i]? = some v ∧ RelD K ρ H d v
  | [], _, _, _, _, e => by simp at e
  | x :: ds, vs, 0, d, h, e => by
    obtain ⟨v, r, rfl, h1, h2⟩ := h
    simp at e
    subst e
    exact ⟨v, rfl, h1⟩
  | x :: ds, vs, i + 1, d, h, e => by
    obtain ⟨v, r, rfl, h1, h2⟩ := h
    obtain ⟨w, e1, e2⟩ := RelDs.get (i := i) h2 (by simpa using e)
    exact ⟨w, by simpa using e1, e2⟩
theorem RelDs.append {K : PySem.W.Frag} {ρ : Rho} {H : Hp} : ∀ {ds es : List D} {vs ws : List V}, RelDs K ρ H ds vs → RelDs K ρ H es ws → RelDs K ρ H (ds ++ es) (vs ++ ws)
  | [], _, _, _, h, g => by rw [show _ = [] from h]; exact g
  | d :: ds, es, vs, ws, h, g => by
    obtain ⟨v, r, rfl, h1, h2⟩ := h
    exact ⟨v, r ++ ws, rfl, h1, RelDs.append h2 g⟩
theorem RelDs.one {K : PySem.W.Frag} {ρ : Rho} {H : Hp} {d : D} {v : V} (h : RelD K ρ H d v) : RelDs K ρ H [d] [v] := ⟨v, [], rfl, h, rfl⟩
theorem RelDs.take {K : PySem.W.Frag} {ρ : Rho} {H : Hp} : ∀ {ds : List D} {vs : List V} (n : Nat), RelDs K ρ H ds vs → RelDs K ρ H (ds.take n) (vs.take n)
  | _, _, 0, _ => by simp [RelDs]
  | [], _, n + 1, h => by rw [show _ = [] from h]; simp [RelDs]
  | d :: ds, vs, n + 1, h => by
    obtain ⟨v, r, rfl, h1, h2⟩ := h
    exact ⟨v, r.take n, rfl, h1, RelDs.take n h2⟩
theorem RelDs.drop {K : PySem.W.Frag} {ρ : Rho} {H : Hp} : ∀ {ds : List D} {vs : List V} (n : Nat), RelDs K ρ H ds vs → RelDs K ρ H (ds.drop n) (vs.drop n)
  | _, _, 0, h => by simpa using h
  | [], _, n + 1, h => by rw [show _ = [] from h]; simp [RelDs]
  | d :: ds, vs, n + 1, h => by
    obtain ⟨v, r, rfl, h1, h2⟩ := h
    exact RelDs.drop n h2
theorem RelDs.set {K : PySem.W.Frag} {ρ : Rho} {H : Hp} {d : D} {v : V} (q : RelD K ρ H d v) : ∀ {ds : List D} {vs : List V} (n : Nat), RelDs K ρ H ds vs → RelDs K ρ H (ds.set n d) (vs.set n v)
  | [], _, n, h => by rw [show _ = [] from h]; simp [RelDs]
  | x :: ds, vs, 0, h => by
    obtain ⟨w, r, rfl, h1, h2⟩ := h
    exact ⟨v, r, rfl, q, h2⟩
  | x :: ds, vs, n + 1, h => by
    obtain ⟨w, r, rfl, h1, h2⟩ := h
    exact ⟨w, r.set n v, rfl, h1, RelDs.set q n h2⟩
theorem RelDs.dropLast {K : PySem.W.Frag} {ρ : Rho} {H : Hp} {ds : List D} {vs : List V} (h : RelDs K ρ H ds vs) : RelDs K ρ H ds.dropLast vs.dropLast := by
  rw [List.dropLast_eq_take, List.dropLast_eq_take, h.length]
  exact h.take _
theorem RelDs.eraseIdx {K : PySem.W.Frag} {ρ : Rho} {H : Hp} : ∀ {ds : List D} {vs : List V} (n : Nat), RelDs K ρ H ds vs → RelDs K ρ H (ds.eraseIdx n) (vs.eraseIdx n)
  | [], _, n, h => by rw [show _ = [] from h]; simp [RelDs]
  | x :: ds, vs, 0, h => by
    obtain ⟨w, r, rfl, h1, h2⟩ := h
    exact h2
  | x :: ds, vs, n + 1, h => by
    obtain ⟨w, r, rfl, h1, h2⟩ := h
    exact ⟨w, r.eraseIdx n, rfl, h1, RelDs.eraseIdx n h2⟩
theorem RelDs.reverse {K : PySem.W.Frag} {ρ : Rho} {H : Hp} : ∀ {ds : List D} {vs : List V}, RelDs K ρ H ds vs → RelDs K ρ H ds.reverse vs.reverse
  | [], _, h => by
    cases h
    rfl
  | d :: ds, _, ⟨v, vs, rfl, h1, h2⟩ => by
    rw [List.reverse_cons, List.reverse_cons]
    exact h2.reverse.append (RelDs.one h1)
theorem RelDs.replicate {K : PySem.W.Frag} {ρ : Rho} {H : Hp} {d : D} {v : V} (q : RelD K ρ H d v) : ∀ n, RelDs K ρ H (List.replicate n d) (List.replicate n v)
  | 0 => rfl
  | n + 1 => ⟨v, List.replicate n v, rfl, q, RelDs.replicate q n⟩

/-! ### the store changes -/
theorem Rd.upd_ne {H : Hp} {a p : Addr} {u o : HO} (h : Rd H a u) (ne : a ≠ p) : Rd (upd H p o) a u := by
  rcases h with h | ⟨x, h⟩
  · exact .inl (by rw [L2.upd_ne ne]; exact h)
  · exact .inr ⟨x, by rw [L2.upd_ne ne]; exact h⟩
theorem Rd.some {H : Hp} {a : Addr} {u : HO} (h : Rd H a u) : ∃ o, H a = some o := by
  rcases h with h | ⟨x, h⟩
  · exact ⟨_, h⟩
  · exact ⟨_, h⟩
/-- a new object at p, that the store does not know (a tuple) -/
theorem Step.laid {ρ : Rho} {H : Hp} {p : Addr} {o : HO} (hp : H p = none) : Step ρ H ρ (upd H p o) where
  le := fun _ _ h => h
  new := fun _ _ h => .inl h
  frame := fun a u h _ => by rw [upd_ne (ne_of_none h hp)]; exact h
  tups := fun a vs h => Rd.upd_ne h (by obtain ⟨x, e⟩ := Rd.some h; exact ne_of_none e hp)
  frzs := fun a x u h => by rw [L2.upd_ne (ne_of_none h hp)]; exact h
  there := fun a h => by
    by_cases e : a = p
    · rw [e]; exact hp
    · rw [upd_ne e] at h; exact h
  knd := Knd.new hp
  tupx := fun a vs h => by rw [upd_ne (ne_of_none h hp)]; exact h
theorem ObjR.laid {K : PySem.W.Frag} {ρ ρ' : Rho} {H : Hp} {p a : Addr} {u : HO} {o : MO} (hp : H p = none) (st : Mono ρ H ρ' (upd H p u)) (h : ObjR K ρ H o a) : ObjR K ρ' (upd H p u) o a := by
  cases o with
  | lst xs =>
    rcases h with ⟨ws, e1, e2⟩ | ⟨ws, ds, e1, e3, e2⟩ | ⟨ws, ds, e1, e3, e2⟩
    · exact .inl ⟨ws, by rw [upd_ne (ne_of_none e1 hp)]; exact e1, RelDs.mono st _ _ e2⟩
    · exact .inr (.inl ⟨ws, ds, by rw [upd_ne (ne_of_none e1 hp)]; exact e1, e3, RelDs.mono st _ _ e2⟩)
    · exact .inr (.inr ⟨ws, ds, by rw [upd_ne (ne_of_none e1 hp)]; exact e1, e3, RelDs.mono st _ _ e2⟩)
theorem ObjR.ren {K : PySem.W.Frag} {ρ ρ' : Rho} {H : Hp} {a : Addr} {o : MO} (st : Mono ρ H ρ' H) (h : ObjR K ρ H o a) : ObjR K ρ' H o a := by
  cases o with
  | lst xs =>
    rcases h with ⟨ws, e1, e2⟩ | ⟨ws, ds, e1, e3, e2⟩ | ⟨ws, ds, e1, e3, e2⟩
    · exact .inl ⟨ws, e1, RelDs.mono st _ _ e2⟩
    · exact .inr (.inl ⟨ws, ds, e1, e3, RelDs.mono st _ _ e2⟩)
    · exact .inr (.inr ⟨ws, ds, e1, e3, RelDs.mono st _ _ e2⟩)
/-- an object that is not written, when another one is -/
theorem ObjR.away {K : PySem.W.Frag} {ρ ρ' : Rho} {H : Hp} {p a : Addr} {u : HO} {o : MO} (hp : a ≠ p) (st : Mono ρ H ρ' (upd H p u)) (h : ObjR K ρ H o a) : ObjR K ρ' (upd H p u) o a := by
  cases o with
  | lst xs =>
    rcases h with ⟨ws, e1, e2⟩ | ⟨ws, ds, e1, e3, e2⟩ | ⟨ws, ds, e1, e3, e2⟩
    · exact .inl ⟨ws, by rw [upd_ne hp]; exact e1, RelDs.mono st _ _ e2⟩
    · exact .inr (.inl ⟨ws, ds, by rw [upd_ne hp]; exact e1, e3, RelDs.mono st _ _ e2⟩)
    · exact .inr (.inr ⟨ws, ds, by rw [upd_ne hp]; exact e1, e3, RelDs.mono st _ _ e2⟩)
/-- a new object that the store does not know -/
theorem Conc.laid {K : PySem.W.Frag} {ρ : Rho} {M : Store} {H : Hp} {p : Addr} {u : HO} (c : Conc K ρ M H) (hp : H p = none) : Conc K ρ M (upd H p u) where
  obj := fun n o e => by
    obtain ⟨a, h1, h2⟩ := c.obj n o e
    exact ⟨a, h1, h2.laid hp (Step.laid hp).mono⟩
  dom := c.dom
  inj := c.inj
/-- a name for a list that stands at p -/
def ext (ρ : Rho) (n : Nat) (p : Addr) : Rho := fun m => if m = n then some p else ρ m
theorem ext_same {ρ : Rho} {n : Nat} {p : Addr} : ext ρ n p n = some p := by unfold ext; rw [if_pos rfl]
theorem ext_ne {ρ : Rho} {n m : Nat} {p : Addr} (h : m ≠ n) : ext ρ n p m = ρ m := by unfold ext; rw [if_neg h]
theorem ext_le {ρ : Rho} {n : Nat} {p : Addr} (hn : ρ n = none) : ∀ m a, ρ m = some a → ext ρ n p m = some a := fun m a h => by
  rw [ext_ne (fun e => by rw [e, hn] at h; cases h)]; exact h
theorem Conc.trk {K : PySem.W.Frag} {ρ : Rho} {M : Store} {H : Hp} (c : Conc K ρ M H) {n : Nat} {a : Addr} (h : ρ n = some a) : ∃ o, H a = some o := by
  have lt := c.dom n a h
  obtain ⟨b, h1, h2⟩ := c.obj n M[n] (List.getElem?_eq_getElem lt)
  rw [h] at h1
  cases h1
  generalize M[n] = o at h2
  cases o with
  | lst xs =>
    rcases h2 with ⟨vs, e, _⟩ | ⟨vs, _, e, _⟩ | ⟨vs, _, e, _⟩
    · exact ⟨_, e⟩
    · exact ⟨_, e⟩
    · exact ⟨_, e⟩
theorem Conc.notin {K : PySem.W.Frag} {ρ : Rho} {M : Store} {H : Hp} (c : Conc K ρ M H) {p : Addr} (h : H p = none) : ∀ n, ρ n ≠ some p := fun n e => by
  obtain ⟨o, q⟩ := c.trk e
  rw [h] at q; cases q
theorem Conc.free {K : PySem.W.Frag} {ρ : Rho} {M : Store} {H : Hp} (c : Conc K ρ M H) : ρ M.length = none := by
  cases e : ρ M.length with
  | none => rfl
  | some a => exact absurd (c.dom _ _ e) (Nat.lt_irrefl _)
/-- .. named at the end: it was new since H -/
theorem Step.named {ρ ρ1 : Rho} {H H1 : Hp} {n : Nat} {p : Addr} (s : Step ρ H ρ1 H1) (hn : ρ1 n = none) (hp : H p = none) : Step ρ H (ext ρ1 n p) H1 where
  le := fun m a h => ext_le hn _ _ (s.le m a h)
  new := fun m a h => by
    by_cases e : m = n
    · rw [e, ext_same] at h; cases h; exact .inr hp
    · rw [ext_ne e] at h; exact s.new m a h
  frame := s.frame
  tups := s.tups
  frzs := s.frzs
  there := s.there
  knd := s.knd
  tupx := s.tupx
/-- the list at p, which the store does not know, gets a number -/
theorem Conc.namedO {K : PySem.W.Frag} {ρ : Rho} {M : Store} {H : Hp} {p : Addr} {o' : MO} (c : Conc K ρ M H) (hn : ∀ n, ρ n ≠ some p) (r : ObjR K ρ H o' p) : Conc K (ext ρ M.length p) (M ++ [o']) H := by
  have st : Mono ρ H (ext ρ M.length p) H := ⟨ext_le c.free, fun _ _ h => h, fun _ _ _ h => h, Knd.refl H, fun _ _ h => h⟩
  refine ⟨fun n o e => ?_, fun n a e => ?_, fun m n a e1 e2 => ?_⟩
  · by_cases hl : n < M.length
    · rw [List.getElem?_append_left hl] at e
      obtain ⟨a, h1, h2⟩ := c.obj n o e
      exact ⟨a, st.le _ _ h1, h2.ren st⟩
    · have hn : n = M.length := by
        have := (List.getElem?_eq_some_iff.mp e).1
        rw [List.length_append, List.length_singleton] at this
        omega
      subst hn
      rw [List.getElem?_append_right (Nat.le_refl _), Nat.sub_self] at e
      cases Option.some.inj e
      exact ⟨p, ext_same, r.ren st⟩
  · rw [List.length_append, List.length_singleton]
    by_cases z : n = M.length
    · omega
    · rw [ext_ne z] at e
      have := c.dom n a e
      omega
  · by_cases z1 : m = M.length
    · by_cases z2 : n = M.length
      · omega
      · rw [z1, ext_same] at e1
        rw [ext_ne z2] at e2
        cases e1
        exact absurd e2 (hn n)
    · by_cases z2 : n = M.length
      · rw [z2, ext_same] at e2
        rw [ext_ne z1] at e1
        cases e2
        exact absurd e1 (hn m)
      · rw [ext_ne z1] at e1
        rw [ext_ne z2] at e2
        exact c.inj m n a e1 e2
theorem Conc.named {K : PySem.W.Frag} {ρ : Rho} {M : Store} {H : Hp} {p : Addr} {xs : List D} {vs : List V} (c : Conc K ρ M H) (hp : H p = some (.lst vs)) (hn : ∀ n, ρ n ≠ some p) (r : RelDs K ρ H xs vs) : Conc K (ext ρ M.length p) (M ++ [.lst xs]) H :=
  c.namedO hn (.inl ⟨vs, hp, r⟩)
/-- the list number n is written -/
theorem Step.wr {ρ : Rho} {H : Hp} {n : Nat} {a : Addr} {vs ws : List V} (hn : ρ n = some a) (ha : H a = some (.lst vs)) : Step ρ H ρ (upd H a (.lst ws)) where
  le := fun _ _ h => h
  new := fun _ _ h => .inl h
  frame := fun b o h hb => by rw [upd_ne (fun e => hb n (by rw [hn, e]))]; exact h
  tups := fun b us h => Rd.upd_ne h fun e => by
    subst e
    rcases h with h | ⟨x, h⟩ <;> (rw [ha] at h; cases h)
  frzs := fun b x u h => by rw [L2.upd_ne (fun e => by rw [e, ha] at h; cases h)]; exact h
  there := fun b h => by
    by_cases e : b = a
    · rw [e, upd_same] at h; cases h
    · rw [upd_ne e] at h; exact h
  knd := Knd.wr ha rfl
  tupx := fun b vs h => by rw [upd_ne (fun e => by rw [e, ha] at h; cases h)]; exact h
theorem Conc.wr {K : PySem.W.Frag} {ρ : Rho} {M : Store} {H : Hp} {n : Nat} {a : Addr} {xs ys : List D} {vs ws : List V} (c : Conc K ρ M H) (hM : M[n]? = some (.lst xs)) (hn : ρ n = some a) (ha : H a = some (.lst vs)) (r : RelDs K ρ H ys ws) :
    Conc K ρ (M.set n (.lst ys)) (upd H a (.lst ws)) := by
  have st := Step.wr (ws := ws) hn ha
  have lt : n < M.length := (List.getElem?_eq_some_iff.mp hM).1
  refine ⟨fun m o e => ?_, fun m b e => by rw [List.length_set]; exact c.dom m b e, c.inj⟩
  · by_cases z : m = n
    · subst z
      rw [List.getElem?_set_self lt] at e
      cases Option.some.inj e
      exact ⟨a, hn, .inl ⟨ws, upd_same, RelDs.mono st.mono _ _ r⟩⟩
    · rw [List.getElem?_set_ne (Ne.symm z)] at e
      obtain ⟨b, h1, h2⟩ := c.obj m o e
      exact ⟨b, h1, h2.away (fun eb => z (c.inj m n b h1 (by rw [hn, eb]))) st.mono⟩
/-- a new list, known to the store -/
theorem Conc.alloc {K : PySem.W.Frag} {ρ : Rho} {M : Store} {H : Hp} {p : Addr} {xs : List D} {vs : List V} (c : Conc K ρ M H) (hp : H p = none) (r : RelDs K ρ H xs vs) : Conc K (ext ρ M.length p) (M ++ [.lst xs]) (upd H p (.lst vs)) :=
  (c.laid hp).named upd_same (c.notin hp) (RelDs.mono (Step.laid hp).mono _ _ r)

/-! ### slots -/
def Slots (K : PySem.W.Frag) (ρ : Rho) (H : Hp) (τ : Sl) (σ : L2.St) : Prop := τ.length = σ.length ∧ ∀ (i : Nat) (d : D), τ[i]? = some (some d) → ∃ v, σ[i]? = some (some v) ∧ RelD K ρ H d v
theorem Slots.mono {K : PySem.W.Frag} {ρ ρ' : Rho} {H H' : Hp} {τ : Sl} {σ : L2.St} (s : Mono ρ H ρ' H') (h : Slots K ρ H τ σ) : Slots K ρ' H' τ σ :=
  ⟨h.1, fun i d e => let ⟨v, e1, e2⟩ := h.2 i d e; ⟨v, e1, RelD.mono s _ _ e2⟩⟩
theorem Slots.set {K : PySem.W.Frag} {ρ : Rho} {H : Hp} {τ : Sl} {σ : L2.St} {d : D} {v : V} (h : Slots K ρ H τ σ) (i : Nat) (r : RelD K ρ H d v) : Slots K ρ H (τ.set i (some d)) (σ.set i (some v)) := by
  refine ⟨by rw [List.length_set, List.length_set]; exact h.1, fun j x e => ?_⟩
  by_cases z : j = i
  · subst z
    have lt : j < τ.length := by
      have := (List.getElem?_eq_some_iff.mp e).1
      rwa [List.length_set] at this
    rw [List.getElem?_set_self lt] at e
    cases e
    exact ⟨v, List.getElem?_set_self (by rw [← h.1]; exact lt), r⟩
  · rw [List.getElem?_set_ne (Ne.symm z)] at e
    rw [List.getElem?_set_ne (Ne.symm z)]
    exact h.2 j x e
def wipeD (τ : Sl) : List Nat → Sl
  | [] => τ
  | i :: r => (wipeD τ r).set i none
end Tri

set_option Elab.async false
set_option linter.all false
set_option maxRecDepth 100000
namespace Tri
open PySem PySem.Spec PyProof.Rows L2

/-! ### built-ins that walk a tuple, as they walk a list -/
section
variable {prog : Program} {w : World} {A : Around} {E : Value → Shared → Prop} {s : Shared} {t : Addr} {vs : Array Value}
def ti (t : Addr) : Obj := { cls := .type "tuple_iterator", data := .fields #[.ref t, .int 0 0] }
theorem go_tup {R : Value → Shared → Prop} (ht : s.heap.IsTuple t vs) (h : t ≠ s.heap.objs.size → ({ s with heap := s.heap.push (ti t) } : Shared).heap.IsTupleIter s.heap.objs.size t 0 → (s.heap.push (ti t)).IsTuple t vs →
    (∀ b ∈ [s.heap.objs.size, t], b < (s.heap.push (ti t)).objs.size) → R (.ref s.heap.objs.size) { s with heap := s.heap.push (ti t) }) : wpAny (model prog w) A (pyIter (.ref t)) R E s := by
  have lt : t < s.heap.objs.size := by obtain ⟨_, e, _⟩ := ht; exact Heap.lt_size e
  refine wpAny_pyIter_tuple ht (h (Nat.ne_of_lt lt) ⟨_, Heap.get?_push_size _ rfl, rfl, rfl⟩ (ht.push _) fun b hb => ?_)
  rw [Heap.size_push]
  simp only [List.mem_cons, List.not_mem_nil, or_false] at hb
  rcases hb with rfl | rfl
  · exact Nat.lt_succ_self _
  · exact Nat.lt_succ_of_lt lt
theorem kept_ti {h' : Heap} (k : ∀ b o, b ∉ [s.heap.objs.size] → (s.heap.push (ti t)).get? b = some o → h'.get? b = some o) (b : Addr) (o : Obj) (e : s.heap.get? b = some o) : h'.get? b = some o :=
  k b o (fun m => by
    simp only [List.mem_cons, List.not_mem_nil, or_false] at m
    exact absurd (m ▸ Heap.lt_size e) (Nat.lt_irrefl _)) (Heap.get?_push_of_some _ e)
end
section
variable {X : Cx}
def Sq (K : PySem.W.Frag) (H : Hp) (a : Addr) (xs : List V) : Prop := SqL K H a xs ∨ SqT K H a xs
def rSum' (K : PySem.W.Frag) : List V → Hp → VK → Prop := fun xs H Q => ∃ (a : Addr) (ns : List Int), xs = [.ref a] ∧ Sq K H a (ns.map V.int) ∧ Q (.int ns.sum) H
def rMax' (K : PySem.W.Frag) : List V → Hp → VK → Prop := fun xs H Q => ∃ (a : Addr) (ns : List Int), xs = [.ref a] ∧ Sq K H a (ns.map V.int) ∧ 0 < ns.length ∧ ∀ m, m ∈ ns → (∀ y, y ∈ ns → y ≤ m) → Q (.int m) H
def rMin' (K : PySem.W.Frag) : List V → Hp → VK → Prop := fun xs H Q => ∃ (a : Addr) (ns : List Int), xs = [.ref a] ∧ Sq K H a (ns.map V.int) ∧ 0 < ns.length ∧ ∀ m, m ∈ ns → (∀ y, y ∈ ns → m ≤ y) → Q (.int m) H
def rAny' (K : PySem.W.Frag) : List V → Hp → VK → Prop := fun xs H Q => ∃ (a : Addr) (bs : List Bool), xs = [.ref a] ∧ Sq K H a (bs.map V.bl) ∧ Q (.bl (bs.any id)) H
def rAll' (K : PySem.W.Frag) : List V → Hp → VK → Prop := fun xs H Q => ∃ (a : Addr) (bs : List Bool), xs = [.ref a] ∧ Sq K H a (bs.map V.bl) ∧ Q (.bl (bs.all id)) H
def rSorted' (K : PySem.W.Frag) : List V → Hp → VK → Prop := fun xs H Q => ∃ (a : Addr) (ns : List Int), xs = [.ref a] ∧ Sq K H a (ns.map V.int) ∧
  ∀ (ns' : List Int) (p : Addr), ns'.Perm ns → ns'.Pairwise (· ≤ ·) → H p = none → Q (.ref p) (upd H p (.lst (ns'.map V.int)))
theorem any_t (hc : X.calm = true) : CallR X (.builtin "any") (rAny' X.K) := by
  intro pins s σ H xs us Q I r h
  obtain ⟨a, bs, rfl, hs | hs, q⟩ := h
  · exact cr_any hc pins s σ H _ us Q I r ⟨a, bs, rfl, hs, q⟩
  · obtain ⟨its, rv, ht, _⟩ := I.tuple hs
    rw [Vals.ref1 r]
    refine call_any_walk (go_tup ht fun ne it tt _ => ⟨_, _, _, _, _, _, _, rfl, Walks.tuple (A := X.A.in1) (I.ok.hd hc) _ a ne its.toArray, ⟨it, tt⟩, truth_bools rv.bls, fun h' tk k => ?_⟩)
    refine ⟨.bl _, H, I.kept (kept_ti k), ?_, q⟩
    show Value.bool _ = Value.bool _
    rw [← L2.any_range, rv.bls, List.size_toArray, List.length_map]
theorem all_t (hc : X.calm = true) : CallR X (.builtin "all") (rAll' X.K) := by
  intro pins s σ H xs us Q I r h
  obtain ⟨a, bs, rfl, hs | hs, q⟩ := h
  · exact cr_all hc pins s σ H _ us Q I r ⟨a, bs, rfl, hs, q⟩
  · obtain ⟨its, rv, ht, _⟩ := I.tuple hs
    rw [Vals.ref1 r]
    refine call_all_walk (go_tup ht fun ne it tt _ => ⟨_, _, _, _, _, _, _, rfl, Walks.tuple (A := X.A.in1) (I.ok.hd hc) _ a ne its.toArray, ⟨it, tt⟩, truth_bools rv.bls, fun h' tk k => ?_⟩)
    refine ⟨.bl _, H, I.kept (kept_ti k), ?_, q⟩
    show Value.bool _ = Value.bool _
    rw [← L2.all_range, rv.bls, List.size_toArray, List.length_map]
theorem sum_t (hc : X.calm = true) : CallR X (.builtin "sum") (rSum' X.K) := by
  intro pins s σ H xs us Q I r h
  obtain ⟨a, ns, rfl, hs | hs, q⟩ := h
  · exact cr_sum hc pins s σ H _ us Q I r ⟨a, ns, rfl, hs, q⟩
  · obtain ⟨its, rv, ht, _⟩ := I.tuple hs
    rw [Vals.ref1 r]
    obtain ⟨zs, e⟩ := rv.ints.allInts.items
    have hn : numsOf (intItems zs).toList = ns := by rw [← e]; exact rv.ints.numsOf
    rw [nums_intItems] at hn
    rw [e] at ht
    refine call_sum_walkG (go_tup ht fun ne it tt fp => ⟨_, _, _, _, _, _, numAt zs, rfl, Walks.tuple (A := X.A.in1) (I.ok.hd hc) _ a ne (intItems zs), ⟨it, tt⟩, fp, (fun _ _ => intItems_at), fun h' tk t' k => ?_⟩)
    refine ⟨.int _, H, I.kept (kept_ti k), ⟨t', ?_⟩, q⟩
    rw [preSum_eq, List.take_of_length_le (by simp [intItems]), hn]
theorem max_t (hc : X.calm = true) : CallR X (.builtin "max") (rMax' X.K) := by
  intro pins s σ H xs us Q I r h
  obtain ⟨a, ns, rfl, hs | hs, hne, q⟩ := h
  · exact cr_max hc pins s σ H _ us Q I r ⟨a, ns, rfl, hs, hne, q⟩
  · obtain ⟨its, rv, ht, _⟩ := I.tuple hs
    rw [Vals.ref1 r]
    obtain ⟨zs, e⟩ := rv.ints.allInts.items
    have hn : numsOf (intItems zs).toList = ns := by rw [← e]; exact rv.ints.numsOf
    rw [nums_intItems] at hn
    subst hn
    rw [e] at ht
    have hsz : 0 < zs.size := by simpa using hne
    refine call_max_walk (go_tup ht fun ne it tt fp => ⟨_, _, _, _, _, _, _, rfl, Walks.tuple (A := X.A.in1) (I.ok.hd hc) _ a ne (intItems zs), ⟨it, tt⟩, fp, by simpa [intItems] using hsz, CmpOf.ints_gt (numAt zs) (fun _ _ => intItems_at), fun v h' tk hv k => ?_⟩)
    obtain ⟨t, rfl⟩ := intItems_at hv
    obtain ⟨h1, h2⟩ := argBest_gt (numAt zs) ((intItems zs).size - 1)
    have z : (intItems zs).size = zs.size := by simp [intItems]
    rw [z] at h1 h2
    refine ⟨.int _, H, I.kept (kept_ti k), ⟨t, rfl⟩, q _ ?_ fun b hb => ?_⟩
    · rw [z, numAt_eq]; exact PySem.getD_mem (by rw [List.length_map, Array.length_toList]; omega)
    · obtain ⟨j, hj, rfl⟩ := mem_getD hb
      rw [List.length_map, Array.length_toList] at hj
      rw [z, ← numAt_eq]; exact h2 j (by omega)
theorem min_t (hc : X.calm = true) : CallR X (.builtin "min") (rMin' X.K) := by
  intro pins s σ H xs us Q I r h
  obtain ⟨a, ns, rfl, hs | hs, hne, q⟩ := h
  · exact cr_min hc pins s σ H _ us Q I r ⟨a, ns, rfl, hs, hne, q⟩
  · obtain ⟨its, rv, ht, _⟩ := I.tuple hs
    rw [Vals.ref1 r]
    obtain ⟨zs, e⟩ := rv.ints.allInts.items
    have hn : numsOf (intItems zs).toList = ns := by rw [← e]; exact rv.ints.numsOf
    rw [nums_intItems] at hn
    subst hn
    rw [e] at ht
    have hsz : 0 < zs.size := by simpa using hne
    refine call_min_walk (go_tup ht fun ne it tt fp => ⟨_, _, _, _, _, _, _, rfl, Walks.tuple (A := X.A.in1) (I.ok.hd hc) _ a ne (intItems zs), ⟨it, tt⟩, fp, by simpa [intItems] using hsz, CmpOf.ints_lt (numAt zs) (fun _ _ => intItems_at), fun v h' tk hv k => ?_⟩)
    obtain ⟨t, rfl⟩ := intItems_at hv
    obtain ⟨h1, h2⟩ := argBest_lt (numAt zs) ((intItems zs).size - 1)
    have z : (intItems zs).size = zs.size := by simp [intItems]
    rw [z] at h1 h2
    refine ⟨.int _, H, I.kept (kept_ti k), ⟨t, rfl⟩, q _ ?_ fun b hb => ?_⟩
    · rw [z, numAt_eq]; exact PySem.getD_mem (by rw [List.length_map, Array.length_toList]; omega)
    · obtain ⟨j, hj, rfl⟩ := mem_getD hb
      rw [List.length_map, Array.length_toList] at hj
      rw [z, ← numAt_eq]; exact h2 j (by omega)
open PyProof.Rows Srt in
theorem sorted_t : CallR X (.builtin "sorted") (rSorted' X.K) := by
  intro pins s σ H xs us Q I r h
  obtain ⟨a, ns, rfl, hs | hs, q⟩ := h
  · exact cr_sortedI pins s σ H _ us Q I r ⟨a, ns, rfl, hs, q⟩
  · obtain ⟨its, rv, ht, hz⟩ := I.tuple hs
    rw [Vals.ref1 r]
    obtain ⟨o, ho, hcl, n, hd⟩ := id ht
    have hzl : its.length ≤ sizeLine := by rw [← rv.length]; exact hz
    refine Calls.call_function_entry kind_sorted plain_sorted entry_sorted (args_sorted1 _) ?_
    unfold Builtin.«sorted»
    refine wpAny_bind (m := checkCount "sorted" 1 1 _) (wpAny_pure (wpAny_bind (wpAny_collect_seq a (.inr rfl) ho hcl hd (fun h1 k => wpAny_bind (wpAny_newList ?_ hzl)) (by simpa using hzl))))
    have hob : (h1.push (seqObj "list" its.toArray 0)).get? h1.objs.size = some (seqObj "list" its.toArray 0) := Heap.get?_push_size _ rfl
    refine wpAny_bind (wpAny_holding (wpAny_call_entry slot_list_sort ⟨_, hob, rfl⟩ entry_list_sort (SrtO.list_sort_ord SrtO.swo_int hob hzl (fun h2 => SrtO.ints_sortable rv.ints h2) fun out g1 g2 => ⟨_, rfl, wpAny_pure ⟨_, rfl, ?_⟩⟩) (args_list_sort _)))
    obtain ⟨k1, k2, k3⟩ := SrtO.ints_out rv.ints g1 g2
    obtain ⟨ep, he⟩ := PyProof.Rows.sortedHeap_at (vs := its) (out := out.toArray) hob
    have hlen : ((out.map SrtO.iv).map V.int).length ≤ sizeLine := by
      rw [List.length_map, k2.length_eq, ← List.length_map (f := V.int)]
      exact hz
    have I1 : Inv X pins σ H { s with heap := h1 } := I.kept (t' := s.toks) k
    exact ⟨.ref _, upd H h1.objs.size (.lst ((out.map SrtO.iv).map V.int)), I1.laid (t' := s.toks) (fun b u e => (PyProof.Rows.sortedHeap_old (Nat.ne_of_lt (Heap.lt_size e)) (Heap.lt_size (Heap.get?_push_of_some _ e))).trans (Heap.get?_push_of_some _ e)) (Nat.le_refl _) ⟨hlen, out, ep, vals_of_ints k1, he⟩, rfl, q _ _ k2 k3 (I1.hok.fresh (Nat.le_refl _))⟩
end
end Tri

set_option Elab.async false
set_option linter.all false
set_option maxRecDepth 100000
namespace Tri
open PySem PySem.Spec PyProof.Rows L2

inductive Ty where
  | int | bool | str | tuple | list | none
  deriving DecidableEq
/-- built-ins of one argument, of two -/
inductive B1 where
  | len | int | abs | str | sum | all | any | sorted | tuple | list | max | min
  deriving DecidableEq
inductive B2 where
  | max | min
  deriving DecidableEq
/-- methods of lists and texts -/
inductive M0 where
  | pop
  deriving DecidableEq
inductive M1 where
  | append | extend | pop
  deriving DecidableEq
inductive Tg where
  | name (i : Nat)
  | tup (is : List Nat)
  | nst (ts : List Tg)
mutual
inductive E where
  | non | bl (b : Bool) | int (i : Int) | str (x : Str)
  | var (i : Nat)
  | con (x : Str) (i : Int)
  | bin (op : Operator) (a b : E)
  | neg (a : E) | not (a : E)
  | and (a b : E) | or (a b : E)
  | ife (t a b : E)
  | cmp (op : CmpOp) (a b : E)
  | cmp2 (o1 o2 : CmpOp) (a b c : E)
  | isN (a : E) | notN (a : E)
  | isi (a : E) (t : Ty)
  | tup (es : Es) | lst (es : Es)
  | ix (a i : E)
  | sl (a : E) (lo hi : Eo)
  | call (f : Nat) (es : Es)
  | callK (f : Nat) (es ws : Es) (ks : List Str) (perm : List Nat)
  | lrg1 (a : E) | lrg2 (a b : E)
  | b1 (f : B1) (a : E)
  | b2 (f : B2) (a b : E)
  | m0 (m : M0) (o : E)
  | m1 (m : M1) (o a : E)
  | rev (a : E)
  | dnew (t : Bool) | dget (d k : E) | din (neg : Bool) (k d : E)
  | disp (ks : List Key) (es : Es)
  | lc (elt : E) (tg : Tg) (it : It) (cond : Eo) (own : List Nat)
inductive Es where
  | nil | cons (e : E) (es : Es)
inductive Eo where
  | no | so (e : E)
inductive It where
  | seq (e : E) | rg1 (a : E) | rg2 (a b : E) | en (a : E) | zip (a b : E) | zip3 (a b c : E)
end
/-- what an except suite asks: the caught error's class; and says: its fields, what stands around -/
inductive XT where
  | isx (c : Xc) | isxs (cs : List Xc)
  | not (a : XT) | and (a b : XT) | or (a b : XT)
mutual
inductive XE where
  | non | bl (b : Bool) | int (i : Int) | str (x : Str)
  | var (i : Nat)
  | fld (f : Fd)
  | ife (t : XT) (a b : XE)
  | tup (es : XEs) | lst (es : XEs)
inductive XEs where
  | nil | cons (e : XE) (es : XEs)
end
inductive XS where
  | ret (e : XE) | pass
  | ife (c : XT) (a b : List XS)
structure Hd where
  cls : Xc
  slot : Option Nat
  body : List XS
inductive S where
  | expr (e : E) | ret (e : E) | retN | pass | brk | cont
  | set (i : Nat) (e : E)
  | asg (t : Tg) (e : E)
  | par (i j : Nat) (a b : E)
  | setIx (o i e : E)
  | aug (i : Nat) (op : Operator) (e : E)
  | ife (c : E) (a b : List S)
  | whl (c : E) (b : List S)
  | for_ (t : Tg) (it : It) (b : List S)
  | dset (d k e : E)
  | rais (c : Xc) (es : Es)
  | tryX (b : List S) (hs : List Hd)

/-! ### values -/
inductive Q where
  | v (d : D) | tmp (xs : List D)
def Q.items (M : Store) : Q → Option (List D)
  | .tmp xs => some xs
  | .v (.tup xs) => some xs
  | .v (.fzl xs) => some xs
  | .v (.ref n) => match M[n]? with
    | some (.lst xs) => some xs
    | none => none
  | _ => none
def mat : Q → Store → R D
  | .v d, M => .ok d M
  | .tmp xs, M => .ok (.ref M.length) (M ++ [.lst xs])
def okv (d : D) (M : Store) : R Q := .ok (.v d) M
mutual
def pyD : D → Option PyData
  | .non => some .none
  | .bl b => some (.bool b)
  | .int i => some (.int i)
  | .str x => some (.str x)
  | .tup xs => (pyDs xs).map .tuple
  | .fzl xs => none
  | .ref _ => none
  | .dct _ _ => none
def pyDs : List D → Option (List PyData)
  | [] => some []
  | x :: xs => match pyD x, pyDs xs with
    | some d, some ds => some (d :: ds)
    | _, _ => none
end
def pyQ (M : Store) : Q → Option PyData
  | .v (.ref n) => match M[n]? with
    | some (.lst xs) => (pyDs xs).map .list
    | none => none
  | .tmp xs => (pyDs xs).map .list
  | .v d => pyD d
def eqQ (x y : Q) (M : Store) : Option Bool := match pyQ M x, pyQ M y with
  | some a, some b => if SeqAt.shaped a && SeqAt.shaped b then some (PyData.eqv a b) else none
  | _, _ => none
def mulOk (i j : Int) : Bool := decide (i.natAbs < 2 ^ 64) || decide (j.natAbs < 2 ^ 64) || decide (i.natAbs.log2 + j.natAbs.log2 < 1000000)
def powOk (i j : Int) : Bool := decide (0 ≤ j) && decide (j ≤ 1000000) && decide (i.natAbs < 2 ^ 64)
def lim : Nat := 1000000
def intR (o : Option Int) (M : Store) : R Q := match o with
  | some i => .ok (.v (.int i)) M
  | none => .no
def binI (op : Operator) (i j : Int) : Option Int := match op with
  | .Sub => some (i - j)
  | .FloorDiv => if decide (0 < j) && (decide (j < 1073741824) || decide (j.natAbs.log2 < 9000)) then some (i / j) else none
  | .Mod => if decide (0 < j) then some (i % j) else none
  | .Pow => if powOk i j then some (i ^ j.toNat) else none
  | .LShift => if powOk i j then some (i * 2 ^ j.toNat) else none
  | _ => none
def Q.lst? (M : Store) : Q → Option (List D)
  | .tmp xs => some xs
  | .v (.ref n) => match M[n]? with
    | some (.lst xs) => some xs
    | none => none
  | _ => none
def addQ (x y : Q) (M : Store) : R Q := match x, y with
  | .v (.int i), .v (.int j) => okv (.int (i + j)) M
  | .v (.str s), .v (.str t) => if s.length + t.length ≤ lim then okv (.str (s ++ t)) M else .no
  | .v (.tup xs), .v (.tup ys) => if xs.length + ys.length ≤ lim then okv (.tup (xs ++ ys)) M else .no
  | a, b => match a.lst? M, b.lst? M with
    | some xs, some ys => if xs.length + ys.length ≤ lim then .ok (.tmp (xs ++ ys)) M else .no
    | _, _ => .no
def mulQ (x y : Q) (M : Store) : R Q := match x, y with
  | .v (.int i), .v (.int j) => if mulOk i j then okv (.int (i * j)) M else .no
  | .v (.str s), .v (.int n) => if decide (n ≤ 1000000) && decide (-1000000 ≤ n) && decide (s.length ≤ lim) && decide (s.length * n.toNat ≤ lim) then okv (.str (Txt.mul s n)) M else .no
  | _, _ => .no
def intsQ (op : Operator) (x y : Q) (M : Store) : R Q := match x, y with
  | .v (.int i), .v (.int j) => intR (binI op i j) M
  | _, _ => .no
def binQ (op : Operator) (x y : Q) (M : Store) : R Q := match op with
  | .Add => addQ x y M
  | .Mult => mulQ x y M
  | o => intsQ o x y M
def cmpI (op : CmpOp) (i j : Int) : Option Bool := match op with
  | .Lt => some (decide (i < j))
  | .LtE => some (decide (i ≤ j))
  | .Gt => some (decide (j < i))
  | .GtE => some (decide (j ≤ i))
  | .Eq => some (decide (i = j))
  | .NotEq => some (!decide (i = j))
  | _ => none
def inB (d : PyData) (ds : List PyData) : Option Bool := if SeqAt.shaped d && (decide (d.depth ≤ 63) && SeqAt.shaped (.list ds)) then some (ds.any fun z => PyData.eqv z d) else none
/-- x in y: a text in a text, data in a list or a tuple of data -/
def inQ (x y : Q) (M : Store) : Option Bool := match x, y with
  | .v (.str s), .v (.str t) => some (!(Builtin.Str.occurrences t s 0 t.length 1).isEmpty)
  | _, _ => match pyQ M x, pyQ M y with
    | some d, some (.list ds) => inB d ds
    | some d, some (.tuple ds) => inB d ds
    | _, _ => none
def cmpQ (op : CmpOp) (x y : Q) (M : Store) : Option Bool := match x, y with
  | .v (.int i), .v (.int j) => cmpI op i j
  | _, _ => match op with
    | .Eq => eqQ x y M
    | .NotEq => (eqQ x y M).map not
    | .In => inQ x y M
    | .NotIn => (inQ x y M).map not
    | _ => none
def ofB (o : Option Bool) (M : Store) : R Q := match o with
  | some b => okv (.bl b) M
  | none => .no
def tyOf : Q → Ty
  | .v (.int _) => .int
  | .v (.bl _) => .bool
  | .v (.str _) => .str
  | .v (.tup _) => .tuple
  | .v (.ref _) => .list
  | .v (.fzl _) => .list
  | .v (.dct _ _) => .list
  | .tmp _ => .list
  | .v .non => .none
def isiQ (t : Ty) (x : Q) : Bool := tyOf x == t || (tyOf x == .bool && t == .int)
def isiR (t : Ty) (x : Q) (M : Store) : R Q := match x with
  | .v (.fzl _) => .no
  | .v (.dct _ _) => .no
  | _ => okv (.bl (isiQ t x)) M
def ixNat (n : Nat) (i : Int) : Option Nat := if 0 ≤ i then (if i < n then some i.toNat else none) else if -(n : Int) ≤ i then some (i + n).toNat else none
def ixQ (x y : Q) (M : Store) : R Q := match y with
  | .v (.int i) => match x with
    | .v (.str s) => match ixNat s.cps.toList.length i with
      | some k => match s.cps.toList[k]? with
        | some c => if s.length ≤ lim then okv (.str ⟨#[c]⟩) M else .no
        | none => .no
      | none => .no
    | _ => match x.items M with
      | some xs => match ixNat xs.length i with
        | some k => match xs[k]? with
          | some d => okv d M
          | none => .no
        | none => .no
      | none => .no
  | _ => .no
def sIx (n d : Nat) : Option Int → Nat
  | none => d
  | some v => if v < 0 then (v + (n : Int)).toNat else min v.toNat n
def cut {α : Type} (xs : List α) (lo hi : Option Int) : List α := (xs.drop (sIx xs.length 0 lo)).take (sIx xs.length xs.length hi - sIx xs.length 0 lo)
def slQ (x : Q) (lo hi : Option Int) (M : Store) : R Q := match x with
  | .v (.str s) => if s.length ≤ lim then okv (.str ⟨(cut s.cps.toList lo hi).toArray⟩) M else .no
  | .v (.tup xs) => okv (.tup (cut xs lo hi)) M
  | _ => match x.items M with
    | some xs => .ok (.tmp (cut xs lo hi)) M
    | none => .no
def intsOf : List D → Option (List Int)
  | [] => some []
  | .int i :: r => (intsOf r).map (i :: ·)
  | _ :: _ => none
def blsOf : List D → Option (List Bool)
  | [] => some []
  | .bl i :: r => (blsOf r).map (i :: ·)
  | _ :: _ => none
def b1Q (f : B1) (x : Q) (M : Store) : R Q := match f with
  | .len => match x with
    | .v (.str s) => if s.length ≤ lim then okv (.int s.length) M else .no
    | _ => match x.items M with
      | some xs => okv (.int xs.length) M
      | none => .no
  | .int => match x with
    | .v (.int i) => okv (.int i) M
    | .v (.bl b) => okv (.int (if b then 1 else 0)) M
    | _ => .no
  | .abs => match x with
    | .v (.int i) => okv (.int (if i < 0 then -i else i)) M
    | _ => .no
  | .str => match x with
    | .v (.int i) => if i.natAbs < 10 ^ 18 then okv (.str (toString i)) M else .no
    | _ => .no
  | .tuple => match x.items M with
    | some xs => okv (.tup xs) M
    | none => .no
  | .list => match x.items M with
    | some xs => .ok (.tmp xs) M
    | none => .no
  | .sum => match (x.items M).bind intsOf with
    | some ns => okv (.int ns.sum) M
    | none => .no
  | .all => match (x.items M).bind blsOf with
    | some bs => okv (.bl (bs.all id)) M
    | none => .no
  | .any => match (x.items M).bind blsOf with
    | some bs => okv (.bl (bs.any id)) M
    | none => .no
  | .sorted => match (x.items M).bind intsOf with
    | some ns => .ok (.tmp ((ns.mergeSort (fun a b => decide (a ≤ b))).map .int)) M
    | none => .no
  | .max => match (x.items M).bind intsOf with
    | some (n :: ns) => okv (.int (ns.foldl max n)) M
    | _ => .no
  | .min => match (x.items M).bind intsOf with
    | some (n :: ns) => okv (.int (ns.foldl min n)) M
    | _ => .no
def b2Q (f : B2) (x y : Q) (M : Store) : R Q := match f, x, y with
  | .max, .v (.int i), .v (.int j) => okv (.int (if j > i then j else i)) M
  | .min, .v (.int i), .v (.int j) => okv (.int (if j < i then j else i)) M
  | _, _, _ => .no
def m0Q (m : M0) (o : Q) (M : Store) : R Q := match m, o with
  | .pop, .v (.ref n) => match M[n]? with
    | some (.lst xs) => match xs[xs.length - 1]? with
      | some d => okv d (M.set n (.lst xs.dropLast))
      | none => .no
    | none => .no
  | _, _ => .no
def m1Q (m : M1) (o a : Q) (M : Store) : R Q := match o with
  | .v (.ref n) => match M[n]? with
    | some (.lst xs) => match m with
      | .append => match a with
        | .v d => if xs.length < lim then okv .non (M.set n (.lst (xs ++ [d]))) else .no
        | .tmp _ => .no
      | .extend => match a.lst? M with
        | some ys => if xs.length + ys.length ≤ lim then okv .non (M.set n (.lst (xs ++ ys))) else .no
        | none => .no
      | .pop => match a with
        | .v (.int i) => match ixNat xs.length i with
          | some k => match xs[k]? with
            | some d => if xs.length ≤ lim then okv d (M.set n (.lst (xs.eraseIdx k))) else .no
            | none => .no
          | none => .no
        | _ => .no
    | none => .no
  | _ => .no
/-! ### loops -/
/-- the items that are walked; the list that must stand still -/
structure Src where
  live : Option Nat
  xs : List D
/-- the i-th item as it stands now (x: as it stood) -/
def pick (live : Option Nat) (tot i : Nat) (x : D) (M : Store) : Option D := match live with
  | none => some x
  | some n => match M[n]? with
    | some (.lst ys) => if ys.length == tot then ys[i]? else none
    | none => none
def endOk (live : Option Nat) (tot : Nat) (M : Store) : Bool := match live with
  | none => true
  | some n => match M[n]? with
    | some (.lst ys) => ys.length == tot
    | none => false
def setAll : List Nat → List D → Sl → Option Sl
  | [], [], τ => some τ
  | i :: is, d :: ds, τ => setAll is ds (τ.set i (some d))
  | _, _, _ => none
mutual
def asgT : Tg → D → Sl → Option Sl
  | .name i, d, τ => some (τ.set i (some d))
  | .tup is, .tup ds, τ => setAll is ds τ
  | .nst ts, .tup ds, τ => asgTs ts ds τ
  | _, _, _ => none
/-- targets that hold targets -/
def asgTs : List Tg → List D → Sl → Option Sl
  | [], [], τ => some τ
  | t :: ts, d :: ds, τ => (asgT t d τ).bind fun τ1 => asgTs ts ds τ1
  | _, _, _ => none
end
mutual
def Tg.ns : Tg → List Nat
  | .name i => [i]
  | .tup is => is
  | .nst ts => tgNs ts
def tgNs : List Tg → List Nat
  | [] => []
  | t :: ts => t.ns ++ tgNs ts
end
def isBl : D → Option Bool
  | .bl b => some b
  | _ => none
def tst (r : R Q) : R Bool := r.bind fun q M => match q with
  | .v (.bl b) => .ok b M
  | _ => .no
def evD (r : R Q) : R D := r.bind mat
/-- a comprehension's turns: i how many lie behind -/
def lcLoop (live : Option Nat) (tot : Nat) (tg : Tg) (τ : Sl) (cond : Sl → Store → R Bool) (elt : Sl → Store → R D) : Nat → List D → Store → R (List D)
  | _, [], M => if endOk live tot M then .ok [] M else .no
  | i, x :: xs, M => match (pick live tot i x M).bind fun y => asgT tg y τ with
    | none => .no
    | some τ1 => (cond τ1 M).bind fun b M1 => if b then (elt τ1 M1).bind fun d M2 => (lcLoop live tot tg τ cond elt (i + 1) xs M2).bind fun ds M3 => .ok (d :: ds) M3
      else lcLoop live tot tg τ cond elt (i + 1) xs M1
/-- what comes of a statement -/
inductive RS where
  | nx (τ : Sl) (M : Store) | rt (d : D) (M : Store) | bk (τ : Sl) (M : Store) | ct (τ : Sl) (M : Store) | ex (c : Xc) (fs : List D) (τ : Sl) (M : Store) | no
/-- a statement that begins with an expression -/
def R.st {α : Type} (r : R α) (τ : Sl) (f : α → Store → RS) : RS := match r with
  | .ok a M => f a M
  | .ex c fs M => .ex c fs τ M
  | .no => .no
def RS.then (r : RS) (f : Sl → Store → RS) : RS := match r with
  | .nx τ M => f τ M
  | o => o
def forLoop (live : Option Nat) (tot : Nat) (tg : Tg) (body : Sl → Store → RS) : Nat → List D → Sl → Store → RS
  | _, [], τ, M => if endOk live tot M then .nx τ M else .no
  | i, x :: xs, τ, M => match (pick live tot i x M).bind fun y => asgT tg y τ with
    | none => .no
    | some τ1 => match body τ1 M with
      | .nx τ2 M2 => forLoop live tot tg body (i + 1) xs τ2 M2
      | .ct τ2 M2 => forLoop live tot tg body (i + 1) xs τ2 M2
      | .bk τ2 M2 => .nx τ2 M2
      | o => o
/-- a while, by its turns' lid -/
def whileN (c : Sl → Store → R Bool) (body : Sl → Store → RS) : Nat → Sl → Store → RS
  | 0, _, _ => .no
  | n + 1, τ, M => (c τ M).st τ fun b M1 => if b then match body τ M1 with
      | .nx τ2 M2 => whileN c body n τ2 M2
      | .ct τ2 M2 => whileN c body n τ2 M2
      | .bk τ2 M2 => .nx τ2 M2
      | o => o
    else .nx τ M1
open Classical in
/-- a while: what it comes to, if it comes to something -/
noncomputable def while_ (c : Sl → Store → R Bool) (body : Sl → Store → RS) (τ : Sl) (M : Store) : RS := if h : ∃ n, whileN c body n τ M ≠ .no then whileN c body (Classical.choose h) τ M else .no
theorem whileN_mono {c : Sl → Store → R Bool} {body : Sl → Store → RS} : ∀ {n k : Nat} {τ : Sl} {M : Store}, whileN c body n τ M ≠ .no → n ≤ k → whileN c body k τ M = whileN c body n τ M
  | 0, _, _, _, h, _ => absurd rfl h
  | n + 1, 0, _, _, _, hk => absurd hk (by omega)
  | n + 1, k + 1, τ, M, h, hk => by
    unfold whileN at h ⊢
    cases hc : c τ M with
    | ex cl fs M1 => rfl
    | no => rfl
    | ok b M1 =>
      rw [hc] at h
      simp only [R.st] at h ⊢
      cases b with
      | false => rfl
      | true =>
        simp only [if_true] at h ⊢
        cases hb : body τ M1 with
        | nx τ2 M2 =>
          rw [hb] at h
          exact whileN_mono h (by omega)
        | ct τ2 M2 =>
          rw [hb] at h
          exact whileN_mono h (by omega)
        | bk τ2 M2 => rfl
        | rt d M2 => rfl
        | ex cl fs τ2 M2 => rfl
        | no => rfl
theorem while_of {c : Sl → Store → R Bool} {body : Sl → Store → RS} {n : Nat} {τ : Sl} {M : Store} (h : whileN c body n τ M ≠ .no) : while_ c body τ M = whileN c body n τ M := by
  unfold while_
  rw [dif_pos ⟨n, h⟩]
  have hs : whileN c body (Classical.choose (⟨n, h⟩ : ∃ n, whileN c body n τ M ≠ .no)) τ M ≠ .no := Classical.choose_spec (⟨n, h⟩ : ∃ n, whileN c body n τ M ≠ .no)
  rcases Nat.le_total n (Classical.choose (⟨n, h⟩ : ∃ n, whileN c body n τ M ≠ .no)) with z | z
  · exact whileN_mono h z
  · exact (whileN_mono hs z).symm
theorem of_while {c : Sl → Store → R Bool} {body : Sl → Store → RS} {τ : Sl} {M : Store} (h : while_ c body τ M ≠ .no) : ∃ n, while_ c body τ M = whileN c body n τ M := by
  unfold while_ at h ⊢
  by_cases q : ∃ n, whileN c body n τ M ≠ .no
  · rw [dif_pos q]
    exact ⟨_, rfl⟩
  · rw [dif_neg q] at h
    exact absurd rfl h
/-- one turn -/
theorem while_eq {c : Sl → Store → R Bool} {body : Sl → Store → RS} {τ : Sl} {M : Store} : while_ c body τ M = (c τ M).st τ fun b M1 => if b then match body τ M1 with
      | .nx τ2 M2 => while_ c body τ2 M2
      | .ct τ2 M2 => while_ c body τ2 M2
      | .bk τ2 M2 => .nx τ2 M2
      | o => o
    else .nx τ M1 := by
  have one : ∀ n, whileN c body (n + 1) τ M = (c τ M).st τ fun b M1 => if b then match body τ M1 with
      | .nx τ2 M2 => whileN c body n τ2 M2
      | .ct τ2 M2 => whileN c body n τ2 M2
      | .bk τ2 M2 => .nx τ2 M2
      | o => o
    else .nx τ M1 := fun n => rfl
  have nothing : (∀ n, whileN c body n τ M = .no) → while_ c body τ M = .no := fun h => by
    unfold while_
    rw [dif_neg (fun ⟨n, e⟩ => e (h n))]
  cases hc : c τ M with
  | ex cl fs M1 =>
    have e : whileN c body 1 τ M = .ex cl fs τ M1 := by rw [one, hc]; rfl
    rw [while_of (n := 1) (by rw [e]; intro z; cases z), e]; rfl
  | no =>
    rw [nothing fun n => by cases n with
      | zero => rfl
      | succ n => rw [one, hc]; rfl]
    rfl
  | ok b M1 =>
    cases b with
    | false =>
      have e : whileN c body 1 τ M = .nx τ M1 := by rw [one, hc]; rfl
      rw [while_of (n := 1) (by rw [e]; intro z; cases z), e]; rfl
    | true =>
      have e : ∀ n, whileN c body (n + 1) τ M = match body τ M1 with
        | .nx τ2 M2 => whileN c body n τ2 M2
        | .ct τ2 M2 => whileN c body n τ2 M2
        | .bk τ2 M2 => .nx τ2 M2
        | o => o := fun n => by rw [one, hc]; rfl
      show _ = match body τ M1 with
        | .nx τ2 M2 => while_ c body τ2 M2
        | .ct τ2 M2 => while_ c body τ2 M2
        | .bk τ2 M2 => .nx τ2 M2
        | o => o
      have again : ∀ τ2 M2, (∀ n, whileN c body (n + 1) τ M = whileN c body n τ2 M2) → while_ c body τ M = while_ c body τ2 M2 := fun τ2 M2 z => by
        by_cases q : ∃ n, whileN c body n τ2 M2 ≠ .no
        · obtain ⟨n, q⟩ := q
          rw [while_of q, while_of (n := n + 1) (by rw [z]; exact q), z]
        · have q' : ∀ n, whileN c body n τ2 M2 = .no := fun n => Classical.byContradiction fun x => q ⟨n, x⟩
          rw [nothing fun n => by cases n with
            | zero => rfl
            | succ n => rw [z, q']]
          unfold while_
          rw [dif_neg q]
      cases hb : body τ M1 with
      | nx τ2 M2 => exact again τ2 M2 fun n => by rw [e, hb]
      | ct τ2 M2 => exact again τ2 M2 fun n => by rw [e, hb]
      | bk τ2 M2 =>
        have e1 := e 0
        rw [hb] at e1
        rw [while_of (n := 1) (by rw [e1]; intro z; cases z), e1]
      | rt d M2 =>
        have e1 := e 0
        rw [hb] at e1
        rw [while_of (n := 1) (by rw [e1]; intro z; cases z), e1]
      | ex cl fs τ2 M2 =>
        have e1 := e 0
        rw [hb] at e1
        rw [while_of (n := 1) (by rw [e1]; intro z; cases z), e1]
      | no =>
        rw [nothing fun n => by cases n with
          | zero => rfl
          | succ n => rw [e, hb]]
def Q.src (M : Store) (q : Q) : Option Src := (q.items M).map fun xs => ⟨match q with
  | .v (.ref n) => some n
  | _ => none, xs⟩
def rng (lo hi : Int) : List D := (List.range (hi - lo).toNat).map fun i : Nat => .int (lo + (i : Int))
def rngOk (lo hi : Int) : Bool := decide (-(2 ^ 62) ≤ lo) && decide (lo < 2 ^ 62) && decide (-(2 ^ 62) ≤ hi) && decide (hi < 2 ^ 62)
def enumD (i : Nat) : List D → List D
  | [] => []
  | x :: xs => .tup [.int i, x] :: enumD (i + 1) xs
def zipD : List D → List D → List D
  | x :: xs, y :: ys => .tup [x, y] :: zipD xs ys
  | _, _ => []
def zip3D : List D → List D → List D → List D
  | x :: xs, y :: ys, z :: zs => .tup [x, y, z] :: zip3D xs ys zs
  | _, _, _ => []
def srcR (o : Option Src) (M : Store) : R Src := match o with
  | some s => .ok s M
  | none => .no

/-! ### the interpreter -/
/-- arguments in the parameters' order -/
def permD {α : Type} [Inhabited α] (perm : List Nat) (l : List α) : List α := perm.map fun i => l.getD i default
def isNon : Q → Bool
  | .v .non => true
  | _ => false
def isRef : Q → Bool
  | .v (.ref _) => true
  | _ => false
/-- what is appended is kept -/
def argQ (m : M1) (r : R Q) : R Q := match m with
  | .append => (evD r).bind fun d M => .ok (.v d) M
  | _ => r
/-- no exception may leave a comprehension -/
def noex {α : Type} (r : R α) : R α := match r with
  | .ex _ _ _ => .no
  | o => o
def xt (c : Xc) : XT → Bool
  | .isx d => c.isA d
  | .isxs ds => ds.any fun d => c.isA d
  | .not a => !(xt c a)
  | .and a b => xt c a && xt c b
  | .or a b => xt c a || xt c b
mutual
/-- an except suite's expression, the error of the class c with the fields fs -/
def xev (c : Xc) (fs : List D) (τ : Sl) : XE → Option Q
  | .non => some (.v .non)
  | .bl b => some (.v (.bl b))
  | .int i => some (.v (.int i))
  | .str x => some (.v (.str x))
  | .var i => match τ[i]? with
    | some (some d) => some (.v d)
    | _ => none
  | .fld f => ((c.fds.zip fs).lookup f).map .v
  | .ife t a b => if xt c t then xev c fs τ a else xev c fs τ b
  | .tup es => match xevs c fs τ es with
    | some ds => if ds.length ≤ 1000 then some (.v (.tup ds)) else none
    | none => none
  | .lst es => match xevs c fs τ es with
    | some ds => if ds.length ≤ 1000 then some (.tmp ds) else none
    | none => none
def xevs (c : Xc) (fs : List D) (τ : Sl) : XEs → Option (List D)
  | .nil => some []
  | .cons e es => match xev c fs τ e with
    | some (.v d) => (match xevs c fs τ es with
      | some ds => some (d :: ds)
      | none => none)
    | _ => none
end
/-- what comes of a suite: it is left, it hands back, neither -/
inductive XR where
  | nx | rt (q : Q) | no
mutual
def xrun (c : Xc) (fs : List D) (τ : Sl) : XS → XR
  | .ret e => match xev c fs τ e with
    | some q => .rt q
    | none => .no
  | .pass => .nx
  | .ife t a b => if xt c t then xruns c fs τ a else xruns c fs τ b
def xruns (c : Xc) (fs : List D) (τ : Sl) : List XS → XR
  | [] => .nx
  | s :: r => match xrun c fs τ s with
    | .nx => xruns c fs τ r
    | o => o
end
/-- the slots within a clause -/
def wipeO : Option Nat → Sl → Sl
  | none, τ => τ
  | some i, τ => τ.set i none
def slotOk : Option Nat → Sl → Bool
  | none, _ => true
  | some i, τ => decide (i < τ.length)
def xend (τ : Sl) (M : Store) : XR → RS
  | .nx => .nx τ M
  | .rt q => (mat q M).st τ fun d M1 => .rt d M1
  | .no => .no
def hands (c : Xc) (fs : List D) (τ : Sl) (M : Store) : List Hd → RS
  | [] => .ex c fs τ M
  | h :: r => if c.isA h.cls then (if slotOk h.slot τ then xend (wipeO h.slot τ) M (xruns c fs (wipeO h.slot τ) h.body) else .no) else hands c fs τ M r
def tryR (hs : List Hd) (r : RS) : RS := match r with
  | .ex c fs τ M => hands c fs τ M hs
  | o => o
def revQ (x : Q) (M : Store) : R Q := match x with
  | .v (.tup _) => .no
  | .v (.str _) => .no
  | q => match q.items M with
    | some xs => .ok (.tmp xs.reverse) M
    | none => .no
/-! ### dicts: pairs, in their order; t: keys are tuples -/
noncomputable instance : DecidableEq D := Classical.typeDecidableEq D
def keyA : D → Bool
  | .int _ => true
  | .str _ => true
  | _ => false
def keyOk : Bool → D → Bool
  | false, k => keyA k
  | true, .tup ks => ks.all keyA
  | true, _ => false
noncomputable def dlook (k : D) : List D → Option D
  | [] => none
  | .tup [a, v] :: r => if a = k then some v else dlook k r
  | _ :: r => dlook k r
noncomputable def dsubs (k v : D) : List D → List D
  | [] => []
  | .tup [a, w] :: r => (if a = k then .tup [a, v] else .tup [a, w]) :: dsubs k v r
  | x :: r => x :: dsubs k v r
noncomputable def dput (k v : D) (ps : List D) : List D := if (dlook k ps).isSome then dsubs k v ps else ps ++ [.tup [k, v]]
noncomputable def dgetQ (x y : Q) (M : Store) : R Q := match x, y with
  | .v (.dct t n), .v k => if keyOk t k then (match M[n]? with
    | some (.lst ps) => (match dlook k ps with
      | some v => okv v M
      | none => .no)
    | none => .no) else .no
  | _, _ => .no
noncomputable def dinQ (neg : Bool) (y x : Q) (M : Store) : R Q := match x, y with
  | .v (.dct t n), .v k => if keyOk t k then (match M[n]? with
    | some (.lst ps) => okv (.bl (neg ^^ (dlook k ps).isSome)) M
    | none => .no) else .no
  | _, _ => .no
noncomputable def dsetQ (x y : Q) (v : D) (M : Store) : Option Store := match x, y with
  | .v (.dct t n), .v k => if keyOk t k then (match M[n]? with
    | some (.lst ps) => if ps.length < lim then some (M.set n (.lst (dput k v ps))) else none
    | none => none) else none
  | _, _ => none
noncomputable def dfill : List Key → List D → List D → List D
  | k :: ks, d :: ds, acc => dfill ks ds (dput (keyD k) d acc)
  | _, _, acc => acc
def dispOk (ks : List Key) : Bool := decide (ks.length ≤ 15) && !ks.isEmpty
abbrev Gam := List (List D → Store → R D)
mutual
noncomputable def evq (G : Gam) : E → Sl → Store → R Q
  | .non, _, M => okv .non M
  | .bl b, _, M => okv (.bl b) M
  | .int i, _, M => okv (.int i) M
  | .str x, _, M => okv (.str x) M
  | .var i, τ, M => match τ[i]? with
    | some (some d) => okv d M
    | _ => .no
  | .con _ i, _, M => okv (.int i) M
  | .bin op a b, τ, M => (evq G a τ M).bind fun x M1 => (evq G b τ M1).bind fun y M2 => binQ op x y M2
  | .neg a, τ, M => (evq G a τ M).bind fun x M1 => match x with
    | .v (.int i) => okv (.int (-i)) M1
    | _ => .no
  | .not a, τ, M => (tst (evq G a τ M)).bind fun b M1 => okv (.bl (!b)) M1
  | .and a b, τ, M => (tst (evq G a τ M)).bind fun c M1 => if c then (tst (evq G b τ M1)).bind fun d M2 => okv (.bl d) M2 else okv (.bl false) M1
  | .or a b, τ, M => (tst (evq G a τ M)).bind fun c M1 => if c then okv (.bl true) M1 else (tst (evq G b τ M1)).bind fun d M2 => okv (.bl d) M2
  | .ife t a b, τ, M => (tst (evq G t τ M)).bind fun c M1 => if c then evq G a τ M1 else evq G b τ M1
  | .cmp op a b, τ, M => (evq G a τ M).bind fun x M1 => (evq G b τ M1).bind fun y M2 => ofB (cmpQ op x y M2) M2
  | .cmp2 o1 o2 a b c, τ, M => (evq G a τ M).bind fun x M1 => (evq G b τ M1).bind fun y M2 => match x, y with
    | .v (.int i), .v (.int j) => match cmpI o1 i j with
      | some true => (evq G c τ M2).bind fun z M3 => match z with
        | .v (.int k) => ofB (cmpI o2 j k) M3
        | _ => .no
      | some false => okv (.bl false) M2
      | none => .no
    | _, _ => .no
  | .isN a, τ, M => (evq G a τ M).bind fun x M1 => okv (.bl (isNon x)) M1
  | .notN a, τ, M => (evq G a τ M).bind fun x M1 => okv (.bl (!isNon x)) M1
  | .isi a t, τ, M => (evq G a τ M).bind fun x M1 => isiR t x M1
  | .tup es, τ, M => (evs G es τ M).bind fun ds M1 => if ds.length ≤ 1000 then okv (.tup ds) M1 else .no
  | .lst es, τ, M => (evs G es τ M).bind fun ds M1 => if ds.length ≤ 1000 then .ok (.tmp ds) M1 else .no
  | .ix a i, τ, M => (evq G a τ M).bind fun x M1 => (evq G i τ M1).bind fun y M2 => ixQ x y M2
  | .sl a lo hi, τ, M => (evq G a τ M).bind fun x M1 => (evo G lo τ M1).bind fun l M2 => (evo G hi τ M2).bind fun h M3 => slQ x l h M3
  | .call f es, τ, M => (evs G es τ M).bind fun ds M1 => match G[f]? with
    | some g => (g ds M1).bind fun d M2 => okv d M2
    | none => .no
  | .callK f es ws _ perm, τ, M => (evs G es τ M).bind fun ds M1 => (evs G ws τ M1).bind fun zs M2 => match G[f]? with
    | some g => (g (permD perm (ds ++ zs)) M2).bind fun d M3 => okv d M3
    | none => .no
  | .lrg1 a, τ, M => (evq G a τ M).bind fun x M1 => match x with
    | .v (.int n) => if rngOk 0 n && decide (n.toNat ≤ lim) then .ok (.tmp (rng 0 n)) M1 else .no
    | _ => .no
  | .lrg2 a b, τ, M => (evq G a τ M).bind fun x M1 => (evq G b τ M1).bind fun y M2 => match x, y with
    | .v (.int lo), .v (.int hi) => if rngOk lo hi && decide ((hi - lo).toNat ≤ lim) then .ok (.tmp (rng lo hi)) M2 else .no
    | _, _ => .no
  | .b1 f a, τ, M => (evq G a τ M).bind fun x M1 => b1Q f x M1
  | .b2 f a b, τ, M => (evq G a τ M).bind fun x M1 => (evq G b τ M1).bind fun y M2 => b2Q f x y M2
  | .m0 m o, τ, M => (evq G o τ M).bind fun x M1 => m0Q m x M1
  | .m1 m o a, τ, M => (evq G o τ M).bind fun x M1 => if isRef x then (argQ m (evq G a τ M1)).bind fun y M2 => m1Q m x y M2 else .no
  | .rev a, τ, M => (evq G a τ M).bind fun x M1 => revQ x M1
  | .dnew t, _, M => okv (.dct t M.length) (M ++ [.lst []])
  | .disp ks es, τ, M => if dispOk ks then (evs G es τ M).bind fun ds M1 => if ds.length = ks.length then okv (.dct false M1.length) (M1 ++ [.lst (dfill ks ds [])]) else .no else .no
  | .dget d k, τ, M => (evq G d τ M).bind fun x M1 => (evq G k τ M1).bind fun y M2 => dgetQ x y M2
  | .din neg k d, τ, M => (evq G k τ M).bind fun y M1 => (evq G d τ M1).bind fun x M2 => dinQ neg y x M2
  | .lc elt tg it cond own, τ, M => (evi G it τ M).bind fun s M1 => if s.xs.length ≤ lim then (noex (lcLoop s.live s.xs.length tg (wipeD τ own) (fun τ M => evc G cond τ M) (fun τ M => evD (evq G elt τ M)) 0 s.xs M1)).bind fun ds M2 => .ok (.tmp ds) M2 else .no
noncomputable def evs (G : Gam) : Es → Sl → Store → R (List D)
  | .nil, _, M => .ok [] M
  | .cons e es, τ, M => (evD (evq G e τ M)).bind fun d M1 => (evs G es τ M1).bind fun ds M2 => .ok (d :: ds) M2
noncomputable def evo (G : Gam) : Eo → Sl → Store → R (Option Int)
  | .no, _, M => .ok none M
  | .so e, τ, M => (evq G e τ M).bind fun x M1 => match x with
    | .v (.int i) => .ok (some i) M1
    | _ => .no
/-- a comprehension's test, if it has one -/
noncomputable def evc (G : Gam) : Eo → Sl → Store → R Bool
  | .no, _, M => .ok true M
  | .so e, τ, M => tst (evq G e τ M)
noncomputable def evi (G : Gam) : It → Sl → Store → R Src
  | .seq e, τ, M => (evq G e τ M).bind fun q M1 => srcR (q.src M1) M1
  | .rg1 a, τ, M => (evq G a τ M).bind fun x M1 => match x with
    | .v (.int n) => if rngOk 0 n then .ok ⟨none, rng 0 n⟩ M1 else .no
    | _ => .no
  | .rg2 a b, τ, M => (evq G a τ M).bind fun x M1 => (evq G b τ M1).bind fun y M2 => match x, y with
    | .v (.int lo), .v (.int hi) => if rngOk lo hi then .ok ⟨none, rng lo hi⟩ M2 else .no
    | _, _ => .no
  | .en a, τ, M => (evq G a τ M).bind fun q M1 => match q with
    | .tmp xs => .ok ⟨none, enumD 0 xs⟩ M1
    | .v (.tup xs) => .ok ⟨none, enumD 0 xs⟩ M1
    | _ => .no
  | .zip a b, τ, M => (evq G a τ M).bind fun x M1 => (evq G b τ M1).bind fun y M2 => match x, y with
    | .v (.tup xs), .v (.tup ys) => .ok ⟨none, zipD xs ys⟩ M2
    | _, _ => .no
  | .zip3 a b c, τ, M => (evq G a τ M).bind fun x M1 => (evq G b τ M1).bind fun y M2 => (evq G c τ M2).bind fun z M3 => match x, y, z with
    | .v (.tup xs), .v (.tup ys), .v (.tup zs) => .ok ⟨none, zip3D xs ys zs⟩ M3
    | _, _, _ => .no
end
def augQ (op : Operator) (x y : Q) (M : Store) : R D := match x, y with
  | .v (.int i), .v (.int j) => match op with
    | .Add => .ok (.int (i + j)) M
    | .Sub => .ok (.int (i - j)) M
    | _ => .no
  | _, _ => .no
def setIxQ (o i : Q) (d : D) (M : Store) : Option Store := match o, i with
  | .v (.ref n), .v (.int k) => match M[n]? with
    | some (.lst xs) => (ixNat xs.length k).map fun j => M.set n (.lst (xs.set j d))
    | none => none
  | _, _ => none
mutual
noncomputable def run (G : Gam) : S → Sl → Store → RS
  | .expr e, τ, M => (evq G e τ M).st τ fun _ M1 => .nx τ M1
  | .ret e, τ, M => (evD (evq G e τ M)).st τ fun d M1 => .rt d M1
  | .retN, τ, M => .rt .non M
  | .pass, τ, M => .nx τ M
  | .brk, τ, M => .bk τ M
  | .cont, τ, M => .ct τ M
  | .set i e, τ, M => (evD (evq G e τ M)).st τ fun d M1 => .nx (τ.set i (some d)) M1
  | .asg t e, τ, M => (evD (evq G e τ M)).st τ fun d M1 => match asgT t d τ with
    | some τ1 => .nx τ1 M1
    | none => .no
  | .par i j a b, τ, M => (evD (evq G a τ M)).st τ fun x M1 => (evD (evq G b τ M1)).st τ fun y M2 => .nx ((τ.set i (some x)).set j (some y)) M2
  | .setIx o i e, τ, M => (evD (evq G e τ M)).st τ fun d M1 => (evq G o τ M1).st τ fun x M2 => (evq G i τ M2).st τ fun y M3 => match setIxQ x y d M3 with
    | some M4 => .nx τ M4
    | none => .no
  | .aug i op e, τ, M => match τ[i]? with
    | some (some x) => (evq G e τ M).st τ fun y M1 => (augQ op (.v x) y M1).st τ fun d M2 => .nx (τ.set i (some d)) M2
    | _ => .no
  | .ife c a b, τ, M => (tst (evq G c τ M)).st τ fun t M1 => if t then runs G a τ M1 else runs G b τ M1
  | .whl c b, τ, M => while_ (fun τ M => tst (evq G c τ M)) (fun τ M => runs G b τ M) τ M
  | .for_ t it b, τ, M => (evi G it τ M).st τ fun s M1 => forLoop s.live s.xs.length t (fun τ M => runs G b τ M) 0 s.xs τ M1
  | .dset d k e, τ, M => (evD (evq G e τ M)).st τ fun v M1 => (evq G d τ M1).st τ fun x M2 => (evq G k τ M2).st τ fun y M3 => match dsetQ x y v M3 with
    | some M4 => .nx τ M4
    | none => .no
  | .rais c es, τ, M => (evs G es τ M).st τ fun ds M1 => if ds.length = c.fds.length then .ex c ds τ M1 else .no
  | .tryX b hs, τ, M => tryR hs (runs G b τ M)
noncomputable def runs (G : Gam) : List S → Sl → Store → RS
  | [], τ, M => .nx τ M
  | s :: r, τ, M => (run G s τ M).then fun τ1 M1 => runs G r τ1 M1
end
/-- a def, called -/
noncomputable def fnR (G : Gam) (n : Nat) (body : List S) : List D → Store → R D := fun ds M => match runs G body (ds.map some ++ List.replicate (n - ds.length) none) M with
  | .nx _ M1 => .ok .non M1
  | .rt d M1 => .ok d M1
  | .ex c fs _ M1 => .ex c fs M1
  | _ => .no
end Tri

set_option Elab.async false
set_option linter.all false
set_option maxRecDepth 100000
namespace Tri
open PySem PySem.Spec PyProof.Rows L2

def RelQ (K : PySem.W.Frag) (H0 : Hp) (ρ : Rho) (H : Hp) : Q → V → Prop
  | .v d, v => RelD K ρ H d v
  | .tmp xs, v => ∃ a vs, v = .ref a ∧ H0 a = none ∧ H a = some (.lst vs) ∧ (∀ n, ρ n ≠ some a) ∧ RelDs K ρ H xs vs
theorem RelQ.step {K : PySem.W.Frag} {H0 : Hp} {ρ ρ' : Rho} {H H' : Hp} (s : Step ρ H ρ' H') {q : Q} {v : V} (h : RelQ K H0 ρ H q v) : RelQ K H0 ρ' H' q v := by
  cases q with
  | v d => exact RelD.mono s.mono _ _ h
  | tmp xs =>
    obtain ⟨a, vs, e, h0, ha, hn, r⟩ := h
    refine ⟨a, vs, e, h0, s.frame a _ ha hn, fun n z => ?_, RelDs.mono s.mono _ _ r⟩
    rcases s.new n a z with z | z
    · exact hn n z
    · rw [ha] at z; cases z
theorem RelQ.back {K : PySem.W.Frag} {ρ ρ1 ρ2 : Rho} {H H1 H2 : Hp} (s : Step ρ H ρ1 H1) {q : Q} {v : V} (h : RelQ K H1 ρ2 H2 q v) : RelQ K H ρ2 H2 q v := by
  cases q with
  | v d => exact h
  | tmp xs =>
    obtain ⟨a, vs, e, h0, r⟩ := h
    exact ⟨a, vs, e, s.there a h0, r⟩
/-- exceptions: what a raised one of the class c with the fields fs is -/
abbrev XRel := Xc → List D → Rho → Hp → Value → Option Addr → Prop
structure Ct where
  K : PySem.W.Frag
  xr : XRel
def Post (K : PySem.W.Frag) (ρ : Rho) (H : Hp) (P : VK) : Q → Store → Prop := fun q M => ∀ ρ' H' v, Step ρ H ρ' H' → Conc K ρ' M H' → RelQ K H ρ' H' q v → P v H'
theorem Post.step {K : PySem.W.Frag} {ρ ρ1 : Rho} {H H1 : Hp} {P : VK} (s : Step ρ H ρ1 H1) {q : Q} {M : Store} (h : Post K ρ H P q M) : Post K ρ1 H1 P q M := fun ρ' H' v st c r => h ρ' H' v (s.trans st) c (r.back s)
def XW (C : Ct) (W : WX) (ρ : Rho) (H : Hp) (σ : L2.St) : Xc → List D → Store → Prop := fun c fs M => ∀ ρ' H' cls d, Step ρ H ρ' H' → Conc C.K ρ' M H' → C.xr c fs ρ' H' cls d → W cls d σ H'
theorem XW.step {C : Ct} {W : WX} {ρ ρ1 : Rho} {H H1 : Hp} {σ : L2.St} (s : Step ρ H ρ1 H1) {c : Xc} {fs : List D} {M : Store} (h : XW C W ρ H σ c fs M) : XW C W ρ1 H1 σ c fs M := fun ρ' H' cls d st cc r => h ρ' H' cls d (s.trans st) cc r
/-- what is wanted of an expression's outcome, at (ρ, H) -/
def Wh (C : Ct) (W : WX) (σ : L2.St) (ρ : Rho) (H : Hp) (P : VK) (r : R Q) : Prop := r.sat (Post C.K ρ H P) (XW C W ρ H σ)
theorem Wh.step {C : Ct} {W : WX} {σ : L2.St} {ρ ρ1 : Rho} {H H1 : Hp} {P : VK} (s : Step ρ H ρ1 H1) {r : R Q} (h : Wh C W σ ρ H P r) : Wh C W σ ρ1 H1 P r := sat_mono h (fun _ _ x => x.step s) fun _ _ _ x => x.step s
def tQ (C : Ct) (W : WX) (f : Sl → Store → R Q) : TE := fun σ H P => ∃ ρ τ M, Conc C.K ρ M H ∧ Slots C.K ρ H τ σ ∧ Wh C W σ ρ H P (f τ M)
/-- of any outcome, as it goes on -/
def WhA {α : Type} (C : Ct) (W : WX) (σ : L2.St) (ρ : Rho) (H : Hp) (P : α → Store → Prop) (r : R α) : Prop := r.sat P (XW C W ρ H σ)
theorem tQ_seq {β : Type} {C : Ct} {W : WX} {f : Sl → Store → R Q} {k : Q → Store → R β} {σ : L2.St} {ρ : Rho} {H : Hp} {τ : Sl} {M : Store} {Pf : β → Store → Prop} {P : VK} (hc : Conc C.K ρ M H) (hs : Slots C.K ρ H τ σ)
    (h : ((f τ M).bind k).sat Pf (XW C W ρ H σ))
    (hk : ∀ q M1 ρ1 H1 v, Step ρ H ρ1 H1 → Conc C.K ρ1 M1 H1 → Slots C.K ρ1 H1 τ σ → RelQ C.K H ρ1 H1 q v → (k q M1).sat Pf (XW C W ρ1 H1 σ) → P v H1) : tQ C W f σ H P :=
  ⟨ρ, τ, M, hc, hs, sat_mono (sat_bind h) (fun q M1 hq ρ1 H1 v st c1 r => hk q M1 ρ1 H1 v st c1 (hs.mono st.mono) r (sat_mono hq (fun _ _ x => x) fun _ _ _ x => x.step st)) fun _ _ _ x => x⟩
/-- the continuation's wish moves on, too -/
theorem tQ_next {C : Ct} {W : WX} {f : Sl → Store → R Q} {k : Q → Store → R Q} {σ : L2.St} {ρ : Rho} {H : Hp} {τ : Sl} {M : Store} {P P' : VK} (hc : Conc C.K ρ M H) (hs : Slots C.K ρ H τ σ)
    (h : Wh C W σ ρ H P ((f τ M).bind k))
    (hk : ∀ q M1 ρ1 H1 v, Step ρ H ρ1 H1 → Conc C.K ρ1 M1 H1 → Slots C.K ρ1 H1 τ σ → RelQ C.K H ρ1 H1 q v → Wh C W σ ρ1 H1 P (k q M1) → P' v H1) : tQ C W f σ H P' :=
  tQ_seq hc hs h fun q M1 ρ1 H1 v st c1 s1 r h1 => hk q M1 ρ1 H1 v st c1 s1 r (sat_mono h1 (fun _ _ x => x.step st) fun _ _ _ x => x)
/-! ### ends of an expression -/
section
variable {C : Ct} {W : WX} {σ : L2.St} {ρ : Rho} {H : Hp} {P : VK} {M : Store}
theorem wh_v {d : D} {v : V} (c : Conc C.K ρ M H) (h : Wh C W σ ρ H P (okv d M)) (r : RelD C.K ρ H d v) : P v H := h ρ H v (Step.refl _ _) c r
theorem wh_tup {xs : List D} {vs : List V} (c : Conc C.K ρ M H) (h : Wh C W σ ρ H P (okv (.tup xs) M)) (r : RelDs C.K ρ H xs vs) : ∀ p, H p = none → P (.ref p) (upd H p (.tup vs)) := fun p hp =>
  h ρ _ _ (Step.laid hp) (c.laid hp) ⟨p, vs, rfl, upd_same, RelDs.mono (Step.laid hp).mono _ _ r⟩
theorem wh_tmp {xs : List D} {vs : List V} (c : Conc C.K ρ M H) (h : Wh C W σ ρ H P (.ok (.tmp xs) M)) (r : RelDs C.K ρ H xs vs) : ∀ p, H p = none → P (.ref p) (upd H p (.lst vs)) := fun p hp =>
  h ρ _ _ (Step.laid hp) (c.laid hp) ⟨p, vs, rfl, hp, upd_same, c.notin hp, RelDs.mono (Step.laid hp).mono _ _ r⟩
end
/-- what the items of a value are, in the heap -/
theorem items_ok {K : PySem.W.Frag} {H0 : Hp} {ρ : Rho} {M : Store} {H : Hp} {q : Q} {v : V} {xs : List D} (c : Conc K ρ M H) (r : RelQ K H0 ρ H q v) (e : q.items M = some xs) :
    ∃ a vs, v = .ref a ∧ (SqL K H a vs ∨ SqT K H a vs) ∧ RelDs K ρ H xs vs ∧ ((∃ ys, q = .v (.tup ys)) → SqT K H a vs) ∧ ((∀ ys, q ≠ .v (.tup ys)) → SqL K H a vs) := by
  cases q with
  | tmp ys =>
    obtain ⟨a, vs, e1, h0, ha, hn, r⟩ := r
    cases Option.some.inj e
    exact ⟨a, vs, e1, .inl (SqL.of ha), r, (by rintro ⟨_, z⟩; cases z), fun _ => SqL.of ha⟩
  | v d =>
    cases d with
    | tup ys =>
      obtain ⟨a, vs, e1, ha, r⟩ := r
      cases Option.some.inj e
      exact ⟨a, vs, e1, .inr (SqT.of ha), r, fun _ => SqT.of ha, fun z => absurd rfl (z _)⟩
    | fzl ys =>
      obtain ⟨a, vs, e1, ha, r⟩ := r
      cases Option.some.inj e
      have hl : SqL K H a vs := by
        rcases ha with ⟨u, ha⟩ | ha
        · exact .inl (.inr ⟨u, ha⟩)
        · exact ha H
      exact ⟨a, vs, e1, .inl hl, r, (by rintro ⟨_, z⟩; cases z), fun _ => hl⟩
    | ref n =>
      obtain ⟨a, e1, hn, hk⟩ := r
      simp only [Q.items] at e
      cases hm : M[n]? with
      | none => rw [hm] at e; cases e
      | some o =>
        cases o with
        | lst ys =>
          rw [hm] at e
          cases Option.some.inj e
          obtain ⟨b, h1, ho⟩ := c.obj n _ hm
          rw [hn] at h1
          cases h1
          obtain ⟨vs, h2, h3⟩ := ho.lst hk
          exact ⟨a, vs, e1, .inl (SqL.of h2), h3, (by rintro ⟨_, z⟩; cases z), fun _ => SqL.of h2⟩
    | non => cases e
    | bl b => cases e
    | int i => cases e
    | str x => cases e
    | dct t n => cases e
theorem PE.imp {X : Cx} {e : Expr} {t t' : TE} (h : PE X e t) (w : ∀ σ H P, t' σ H P → t σ H P) : PE X e t' := ⟨fun pins s σ H P I q => h.run pins s σ H P I (w σ H P q)⟩
theorem PT.imp {X : Cx} {e : Expr} {t t' : TT} (h : PT X e t) (w : ∀ σ H P, t' σ H P → t σ H P) : PT X e t' := ⟨fun pins s σ H P I q => h.run pins s σ H P I (w σ H P q)⟩
theorem PA.imp {X : Cx} {es : List Expr} {t t' : TA} (h : PA X es t) (w : ∀ σ H P, t' σ H P → t σ H P) : PA X es t' := ⟨fun pos pins s σ H P I q => h.run pos pins s σ H P I (w σ H P q)⟩
theorem PS.imp {X : Cx} {st : Stmt} {t t' : TS} (h : PS X st t) (w : ∀ D σ H, t' D σ H → t D σ H) : PS X st t' := ⟨fun pins s σ H D I q => h.run pins s σ H D I (w D σ H q)⟩
theorem PSs.imp {X : Cx} {st : List Stmt} {t t' : TS} (h : PSs X st t) (w : ∀ D σ H, t' D σ H → t D σ H) : PSs X st t' := ⟨fun pins s σ H D I q => h.run pins s σ H D I (w D σ H q)⟩
/-! ### a value that is kept: a temporary list gets its number -/
def PostD (K : PySem.W.Frag) (ρ : Rho) (H : Hp) (P : VK) : D → Store → Prop := fun d M => ∀ ρ' H' v, Step ρ H ρ' H' → Conc K ρ' M H' → RelD K ρ' H' d v → P v H'
def tD (C : Ct) (W : WX) (f : Sl → Store → R D) : TE := fun σ H P => ∃ ρ τ M, Conc C.K ρ M H ∧ Slots C.K ρ H τ σ ∧ (f τ M).sat (PostD C.K ρ H P) (XW C W ρ H σ)
theorem tD_tQ {C : Ct} {W : WX} {f : Sl → Store → R Q} (σ : L2.St) (H : Hp) (P : VK) (h : tD C W (fun τ M => evD (f τ M)) σ H P) : tQ C W f σ H P := by
  obtain ⟨ρ, τ, M, hc, hs, h⟩ := h
  refine ⟨ρ, τ, M, hc, hs, sat_mono (sat_bind h) (fun q M1 hq ρ1 H1 v st c1 r => ?_) fun _ _ _ x => x⟩
  cases q with
  | v d => exact hq ρ1 H1 v st c1 r
  | tmp xs =>
    obtain ⟨a, vs, e, h0, ha, hn, r⟩ := r
    exact hq (ext ρ1 M1.length a) H1 v (st.named c1.free h0) (c1.named ha hn r) ⟨a, e, ext_same, _, ha, rfl⟩
theorem tD_seq {β : Type} {C : Ct} {W : WX} {f : Sl → Store → R D} {k : D → Store → R β} {σ : L2.St} {ρ : Rho} {H : Hp} {τ : Sl} {M : Store} {Pf : β → Store → Prop} {P : VK} (hc : Conc C.K ρ M H) (hs : Slots C.K ρ H τ σ)
    (h : ((f τ M).bind k).sat Pf (XW C W ρ H σ))
    (hk : ∀ d M1 ρ1 H1 v, Step ρ H ρ1 H1 → Conc C.K ρ1 M1 H1 → Slots C.K ρ1 H1 τ σ → RelD C.K ρ1 H1 d v → (k d M1).sat Pf (XW C W ρ1 H1 σ) → P v H1) : tD C W f σ H P :=
  ⟨ρ, τ, M, hc, hs, sat_mono (sat_bind h) (fun q M1 hq ρ1 H1 v st c1 r => hk q M1 ρ1 H1 v st c1 (hs.mono st.mono) r (sat_mono hq (fun _ _ x => x) fun _ _ _ x => x.step st)) fun _ _ _ x => x⟩
/-! ### argument lists -/
def PostL (K : PySem.W.Frag) (n : Nat) (ρ : Rho) (H : Hp) (P : List V → Hp → Prop) : List D → Store → Prop := fun ds M => ∀ ρ' H' vs, Step ρ H ρ' H' → Conc K ρ' M H' → RelDs K ρ' H' ds vs → ds.length = n → P vs H'
def tL (C : Ct) (W : WX) (n : Nat) (f : Sl → Store → R (List D)) : TA := fun σ H P => ∃ ρ τ M, Conc C.K ρ M H ∧ Slots C.K ρ H τ σ ∧ (f τ M).sat (PostL C.K n ρ H P) (XW C W ρ H σ)
theorem tL_seq {β : Type} {C : Ct} {W : WX} {n : Nat} {f : Sl → Store → R (List D)} {k : List D → Store → R β} {σ : L2.St} {ρ : Rho} {H : Hp} {τ : Sl} {M : Store} {Pf : β → Store → Prop} {P : List V → Hp → Prop} (hc : Conc C.K ρ M H) (hs : Slots C.K ρ H τ σ)
    (h : ((f τ M).bind k).sat Pf (XW C W ρ H σ))
    (hk : ∀ ds M1 ρ1 H1 vs, Step ρ H ρ1 H1 → Conc C.K ρ1 M1 H1 → Slots C.K ρ1 H1 τ σ → RelDs C.K ρ1 H1 ds vs → ds.length = n → (k ds M1).sat Pf (XW C W ρ1 H1 σ) → P vs H1) : tL C W n f σ H P :=
  ⟨ρ, τ, M, hc, hs, sat_mono (sat_bind h) (fun q M1 hq ρ1 H1 v st c1 r hl => hk q M1 ρ1 H1 v st c1 (hs.mono st.mono) r hl (sat_mono hq (fun _ _ x => x) fun _ _ _ x => x.step st)) fun _ _ _ x => x⟩
/-! ### tests -/
def tTe (C : Ct) (W : WX) (f : Sl → Store → R Bool) : TT := fun σ H P => ∃ ρ τ M, Conc C.K ρ M H ∧ Slots C.K ρ H τ σ ∧ (f τ M).sat (fun b M1 => ∀ ρ1 H1, Step ρ H ρ1 H1 → Conc C.K ρ1 M1 H1 → P b H1) (XW C W ρ H σ)
theorem tTe_seq {β : Type} {C : Ct} {W : WX} {f : Sl → Store → R Bool} {k : Bool → Store → R β} {σ : L2.St} {ρ : Rho} {H : Hp} {τ : Sl} {M : Store} {Pf : β → Store → Prop} {P : Bool → Hp → Prop} (hc : Conc C.K ρ M H) (hs : Slots C.K ρ H τ σ)
    (h : ((f τ M).bind k).sat Pf (XW C W ρ H σ))
    (hk : ∀ b M1 ρ1 H1, Step ρ H ρ1 H1 → Conc C.K ρ1 M1 H1 → Slots C.K ρ1 H1 τ σ → (k b M1).sat Pf (XW C W ρ1 H1 σ) → P b H1) : tTe C W f σ H P :=
  ⟨ρ, τ, M, hc, hs, sat_mono (sat_bind h) (fun q M1 hq ρ1 H1 st c1 => hk q M1 ρ1 H1 st c1 (hs.mono st.mono) (sat_mono hq (fun _ _ x => x) fun _ _ _ x => x.step st)) fun _ _ _ x => x⟩
theorem bind_assoc {α β γ : Type} (r : R α) (f : α → Store → R β) (g : β → Store → R γ) : (r.bind f).bind g = r.bind fun a M => (f a M).bind g := by
  cases r <;> rfl
/-- a bool's reading, from the value's -/
theorem tTe_tQ {C : Ct} {W : WX} {f : Sl → Store → R Q} (σ : L2.St) (H : Hp) (P : Bool → Hp → Prop) (h : tTe C W (fun τ M => tst (f τ M)) σ H P) : tQ C W f σ H fun x H1 => ∃ k, x = .bl k ∧ P k H1 := by
  obtain ⟨ρ, τ, M, hc, hs, h⟩ := h
  refine ⟨ρ, τ, M, hc, hs, sat_mono (sat_bind h) (fun q M1 hq ρ1 H1 v st c1 r => ?_) fun _ _ _ x => x⟩
  cases q with
  | tmp xs => exact hq.elim
  | v d =>
    cases d with
    | bl b => exact ⟨b, r, hq ρ1 H1 st c1⟩
    | non => exact hq.elim
    | int i => exact hq.elim
    | str x => exact hq.elim
    | tup x => exact hq.elim
    | ref x => exact hq.elim
    | fzl x => exact hq.elim
    | dct t x => exact hq.elim
/-- a bool handed on is the bool itself -/
theorem tst_okv {C : Ct} {W : WX} {σ : L2.St} {ρ : Rho} {H : Hp} {P : VK} {r : R Q} (h : Wh C W σ ρ H P ((tst r).bind fun d M2 => okv (.bl d) M2)) : Wh C W σ ρ H P r := by
  cases r with
  | no => exact h
  | ex c fs M => exact h
  | ok q M =>
    cases q with
    | tmp xs => exact h.elim
    | v d =>
      cases d with
      | bl b => exact h
      | non => exact h.elim
      | int i => exact h.elim
      | str x => exact h.elim
      | tup x => exact h.elim
      | ref x => exact h.elim
      | fzl x => exact h.elim
      | dct t x => exact h.elim
theorem whs {C : Ct} {W : WX} {σ : L2.St} {ρ ρ1 : Rho} {H H1 : Hp} {P : VK} {r : R Q} (s : Step ρ H ρ1 H1) (h : r.sat (Post C.K ρ H P) (XW C W ρ1 H1 σ)) : Wh C W σ ρ1 H1 P r := sat_mono h (fun _ _ x => x.step s) fun _ _ _ x => x
/-- parts of a slice -/
def tO (C : Ct) (W : WX) (f : Sl → Store → R (Option Int)) : TO := fun σ H P => ∃ ρ τ M, Conc C.K ρ M H ∧ Slots C.K ρ H τ σ ∧ (f τ M).sat (fun o M1 => ∀ ρ1 H1, Step ρ H ρ1 H1 → Conc C.K ρ1 M1 H1 → P o H1) (XW C W ρ H σ)
theorem tO_seq {β : Type} {C : Ct} {W : WX} {f : Sl → Store → R (Option Int)} {k : Option Int → Store → R β} {σ : L2.St} {ρ : Rho} {H : Hp} {τ : Sl} {M : Store} {Pf : β → Store → Prop} {P : Option Int → Hp → Prop} (hc : Conc C.K ρ M H) (hs : Slots C.K ρ H τ σ)
    (h : ((f τ M).bind k).sat Pf (XW C W ρ H σ))
    (hk : ∀ b M1 ρ1 H1, Step ρ H ρ1 H1 → Conc C.K ρ1 M1 H1 → Slots C.K ρ1 H1 τ σ → (k b M1).sat Pf (XW C W ρ1 H1 σ) → P b H1) : tO C W f σ H P :=
  ⟨ρ, τ, M, hc, hs, sat_mono (sat_bind h) (fun q M1 hq ρ1 H1 st c1 => hk q M1 ρ1 H1 st c1 (hs.mono st.mono) (sat_mono hq (fun _ _ x => x) fun _ _ _ x => x.step st)) fun _ _ _ x => x⟩
/-- a temporary list is written: Step and Conc -/
theorem Mono.tmp {ρ : Rho} {H : Hp} {p : Addr} {u o : HO} (h : H p = some u) (hu : kndO u ≠ 0) (hk : kndO o = kndO u) : Mono ρ H ρ (upd H p o) :=
  ⟨fun _ _ h => h, fun a us q => Rd.upd_ne q (fun e => by
    subst e
    rcases q with q | ⟨x, q⟩ <;> (rw [h] at q; cases q; exact hu rfl)), fun a x z q => by rw [upd_ne (fun e => by rw [e, h] at q; cases q; exact hu rfl)]; exact q, Knd.wr h hk, fun a us q => by rw [upd_ne (fun e => by rw [e, h] at q; cases q; exact hu rfl)]; exact q⟩
theorem Step.tmp {ρ ρ' : Rho} {H H' : Hp} {p : Addr} {u o : HO} (s : Step ρ H ρ' H') (hp : H p = none) (h : H' p = some u) (hu : kndO u ≠ 0) (hk : kndO o = kndO u) : Step ρ H ρ' (upd H' p o) where
  le := s.le
  new := s.new
  frame := fun a u q hn => by rw [upd_ne (ne_of_none q hp)]; exact s.frame a u q hn
  tups := fun a us q => (Mono.tmp (ρ := ρ) h hu hk).tups a us (s.tups a us q)
  frzs := fun a x u q => (Mono.tmp (ρ := ρ) h hu hk).frzs a x u (s.frzs a x u q)
  there := fun a q => by
    by_cases e : a = p
    · rw [e]; exact hp
    · rw [upd_ne e] at q; exact s.there a q
  knd := s.knd.trans (Knd.wr h hk)
  tupx := fun a us q => (Mono.tmp (ρ := ρ) h hu hk).tupx a us (s.tupx a us q)
theorem Conc.tmp {K : PySem.W.Frag} {ρ : Rho} {M : Store} {H : Hp} {p : Addr} {u o : HO} (c : Conc K ρ M H) (h : H p = some u) (hn : ∀ n, ρ n ≠ some p) (hu : kndO u ≠ 0) (hk : kndO o = kndO u) : Conc K ρ M (upd H p o) where
  obj := fun n u e => by
    obtain ⟨a, h1, h2⟩ := c.obj n u e
    have ne : a ≠ p := fun z => hn n (by rw [h1, z])
    exact ⟨a, h1, h2.away ne (Mono.tmp h hu hk)⟩
  dom := c.dom
  inj := c.inj
theorem Slots.wipe {K : PySem.W.Frag} {ρ : Rho} {H : Hp} {τ : Sl} {σ : L2.St} (h : Slots K ρ H τ σ) : ∀ own : List Nat, Slots K ρ H (wipeD τ own) (wipe σ own)
  | [] => h
  | i :: own => by
    obtain ⟨h1, h2⟩ := Slots.wipe h own
    refine ⟨by simp only [wipeD, L2.wipe, List.length_set]; exact h1, fun j d e => ?_⟩
    simp only [wipeD] at e
    by_cases z : j = i
    · subst z
      have lt := (List.getElem?_eq_some_iff.mp e).1
      rw [List.length_set] at lt
      rw [List.getElem?_set_self lt] at e
      cases e
    · rw [List.getElem?_set_ne (Ne.symm z)] at e
      obtain ⟨v, e1, r⟩ := h2 j d e
      exact ⟨v, by simp only [L2.wipe]; rw [List.getElem?_set_ne (Ne.symm z)]; exact e1, r⟩
end Tri

set_option Elab.async false
set_option linter.all false
set_option maxRecDepth 100000
namespace Tri
open PySem PySem.Spec PyProof.Rows L2

theorem lim_le {n : Nat} (h : n ≤ lim) : n ≤ sizeLine := by rw [sizeLine_eq]; unfold lim at h; omega
theorem lim_lt {n : Nat} (h : n < lim) : n < sizeLine := by rw [sizeLine_eq]; unfold lim at h; omega
theorem sIx_eq (n d : Nat) (o : Option Int) : HT.sIx n d o = sIx n d o := by cases o <;> rfl
theorem and4 {a b c d : Bool} (h : (a && b && c && d) = true) : a = true ∧ b = true ∧ c = true ∧ d = true := by
  cases a <;> cases b <;> cases c <;> cases d <;> simp_all
/-! ### operators by values -/
section
variable {X : Cx}
theorem mulOk_small {x : Str} {n : Int} (h1 : n ≤ 1000000) (h2 : -1000000 ≤ n) (h3 : x.length ≤ lim) (h4 : x.length * n.toNat ≤ lim) : MulOk x n := by
  refine ⟨?_, fun h0 _ => ?_, fun _ _ => ?_⟩
  · have a : ¬ n < -(2 ^ 63 : Int) := by omega
    have b : ¬ n ≥ 2 ^ 63 := by omega
    rw [decide_eq_false a, decide_eq_false b]; rfl
  · unfold lim at h3
    have h5 : (1000000 : Int) ≤ (2 ^ 63 - 1) / n := Int.le_ediv_of_mul_le (by omega) (by omega)
    omega
  · unfold Builtin.Str.tooLong
    have := lim_le h4
    exact decide_eq_false (by omega)
def rMulS : R2 := fun x y H P => ∃ s n, x = .str s ∧ y = .int n ∧ MulOk s n ∧ P (.str (Txt.mul s n)) H
theorem op_mulS : OpR X (binaryOp .Mult) rMulS := by
  intro pins s σ H x y v u P I rx ry h
  obtain ⟨z, n, rfl, rfl, h1, q⟩ := h
  obtain ⟨t, rfl⟩ := rx
  obtain ⟨t', rfl⟩ := ry
  exact SB.mul h1 fun t' k => ⟨.str _, H, I.tok _, ⟨_, rfl⟩, q⟩
def rNo : R2 := fun _ _ _ _ => False
theorem op_no {f : Value → Value → Sem Value} : OpR X f rNo := by intro _ _ _ _ _ _ _ _ _ _ _ _ h; exact h.elim
def rOr (r r' : R2) : R2 := fun x y H P => r x y H P ∨ r' x y H P
def rAddS : R2 := fun x y H Q => ∃ i j, x = .str i ∧ y = .str j ∧ i.length + j.length ≤ sizeLine ∧ Q (.str (i ++ j)) H
def rBin (K : PySem.W.Frag) : Operator → R2
  | .Add => rOr (rI0 fun i j => .int (i + j)) (rOr rAddS (rOr (rCatA K) rCat))
  | .Sub => rI0 fun i j => .int (i - j)
  | .Mult => rOr (rI CMul fun i j => .int (i * j)) (rOr (rI CMulW fun i j => .int (i * j)) rMulS)
  | .FloorDiv => rOr (rI CDiv fun i j => .int (i / j)) (rI CDivW fun i j => .int (i / j))
  | .Mod => rI (fun _ j => 0 < j) fun i j => .int (i % j)
  | .Pow => rI CPow fun i j => .int (i ^ j.toNat)
  | .LShift => rI CPow fun i j => .int (i * 2 ^ j.toNat)
  | _ => rNo
theorem op_bin : ∀ op : Operator, OpR X (binaryOp op) (rBin X.K op)
  | .Add => OpR.or op_add (OpR.or op_add_str (OpR.or op_catA op_cat))
  | .Sub => op_sub
  | .Mult => OpR.or op_mul (OpR.or op_mulW op_mulS)
  | .FloorDiv => OpR.or op_fdiv op_fdivW
  | .Mod => op_mod
  | .Pow => op_pow
  | .LShift => op_shl
  | .MatMult => op_no | .Div => op_no | .RShift => op_no | .BitOr => op_no | .BitXor => op_no | .BitAnd => op_no
end
theorem lst_ok {K : PySem.W.Frag} {H0 : Hp} {ρ : Rho} {M : Store} {H : Hp} {q : Q} {v : V} {xs : List D} (c : Conc K ρ M H) (r : RelQ K H0 ρ H q v) (e : q.lst? M = some xs) : ∃ a vs, v = .ref a ∧ H a = some (.lst vs) ∧ RelDs K ρ H xs vs := by
  cases q with
  | tmp ys =>
    obtain ⟨a, vs, e1, h0, ha, hn, r⟩ := r
    cases Option.some.inj e
    exact ⟨a, vs, e1, ha, r⟩
  | v d =>
    cases d with
    | ref n =>
      obtain ⟨a, e1, hn, hk⟩ := r
      simp only [Q.lst?] at e
      cases hm : M[n]? with
      | none => rw [hm] at e; cases e
      | some o =>
        cases o with
        | lst ys =>
          rw [hm] at e
          cases Option.some.inj e
          obtain ⟨b, h1, ho⟩ := c.obj n _ hm
          rw [hn] at h1
          cases h1
          obtain ⟨vs, h2, h3⟩ := ho.lst hk
          exact ⟨a, vs, e1, h2, h3⟩
    | _ => cases e
section
variable {C : Ct} {W : WX} {σ : L2.St} {H0 : Hp} {ρ : Rho} {M : Store} {H : Hp} {P : VK}
theorem add_ok {q1 q2 : Q} {v w : V} (hc : Conc C.K ρ M H) (r1 : RelQ C.K H0 ρ H q1 v) (r2 : RelQ C.K H0 ρ H q2 w) (h : Wh C W σ ρ H P (addQ q1 q2 M)) : rBin C.K .Add v w H P := by
  unfold addQ at h
  split at h
  · exact .inl ⟨_, _, r1, r2, wh_v hc h rfl⟩
  · split at h
    · rename_i hl
      exact .inr (.inl ⟨_, _, r1, r2, lim_le hl, wh_v hc h rfl⟩)
    · exact h.elim
  · split at h
    · rename_i xs ys hl
      obtain ⟨a, vs, rfl, ha, ra⟩ := r1
      obtain ⟨b, ws, rfl, hb, rb⟩ := r2
      refine .inr (.inr (.inl ⟨a, b, vs, ws, rfl, rfl, SqT.of ha, SqT.of hb, by rw [← ra.length, ← rb.length]; exact lim_le hl, fun e => ?_, fun e1 e2 => ?_, fun _ _ => wh_tup hc h (ra.append rb)⟩))
      · refine wh_v hc h ⟨b, ws, rfl, hb, ?_⟩
        have := ra.append rb
        rw [e] at this
        exact this
      · refine wh_v hc h ⟨a, vs, rfl, ha, ?_⟩
        have := ra.append rb
        rw [e2, List.append_nil] at this
        exact this
    · exact h.elim
  · split at h
    · rename_i xs ys e1 e2
      split at h
      · rename_i hl
        obtain ⟨a, vs, rfl, ha, ra⟩ := lst_ok hc r1 e1
        obtain ⟨b, ws, rfl, hb, rb⟩ := lst_ok hc r2 e2
        exact .inr (.inr (.inr ⟨a, b, vs, ws, rfl, rfl, ha, hb, by rw [← ra.length, ← rb.length]; exact lim_le hl, wh_tmp hc h (ra.append rb)⟩))
      · exact h.elim
    · exact h.elim
theorem mul_ok {q1 q2 : Q} {v w : V} (hc : Conc C.K ρ M H) (r1 : RelQ C.K H0 ρ H q1 v) (r2 : RelQ C.K H0 ρ H q2 w) (h : Wh C W σ ρ H P (mulQ q1 q2 M)) : rBin C.K .Mult v w H P := by
  unfold mulQ at h
  split at h
  · rename_i i j
    split at h
    · rename_i hl
      unfold mulOk at hl
      rw [Bool.or_eq_true, Bool.or_eq_true] at hl
      have q : P (.int (i * j)) H := wh_v hc h rfl
      rcases hl with (hl | hl) | hl
      · have := of_decide_eq_true hl
        exact .inl ⟨i, j, r1, r2, .inl (by omega), q⟩
      · have := of_decide_eq_true hl
        exact .inl ⟨i, j, r1, r2, .inr (by omega), q⟩
      · exact .inr (.inl ⟨i, j, r1, r2, show i.natAbs.log2 + j.natAbs.log2 < 1000000 from of_decide_eq_true hl, q⟩)
    · exact h.elim
  · split at h
    · rename_i hl
      obtain ⟨h1, h2, h3, h4⟩ := and4 hl
      exact .inr (.inr ⟨_, _, r1, r2, mulOk_small (of_decide_eq_true h1) (of_decide_eq_true h2) (of_decide_eq_true h3) (of_decide_eq_true h4), wh_v hc h rfl⟩)
    · exact h.elim
  · exact h.elim
/-- the interpreter's operator meets the rule -/
theorem bin_ok {op : Operator} {q1 q2 : Q} {v w : V} (hc : Conc C.K ρ M H) (r1 : RelQ C.K H0 ρ H q1 v) (r2 : RelQ C.K H0 ρ H q2 w) (h : Wh C W σ ρ H P (binQ op q1 q2 M)) : rBin C.K op v w H P := by
  have intz : (∀ i j, q1 = .v (.int i) → q2 = .v (.int j) → Wh C W σ ρ H P (intR (binI op i j) M) → rBin C.K op v w H P) → Wh C W σ ρ H P (intsQ op q1 q2 M) → rBin C.K op v w H P := by
    intro k h
    unfold intsQ at h
    split at h
    · exact k _ _ rfl rfl h
    · exact h.elim
  cases op with
  | Add => exact add_ok hc r1 r2 h
  | Mult => exact mul_ok hc r1 r2 h
  | Sub =>
    refine intz (fun i j e1 e2 g => ?_) h
    subst e1; subst e2
    exact ⟨i, j, r1, r2, wh_v hc g rfl⟩
  | Mod =>
    refine intz (fun i j e1 e2 g => ?_) h
    subst e1; subst e2
    dsimp only [binI] at g
    split at g
    · rename_i hl
      exact ⟨i, j, r1, r2, of_decide_eq_true hl, wh_v hc g rfl⟩
    · exact g.elim
  | FloorDiv =>
    refine intz (fun i j e1 e2 g => ?_) h
    subst e1; subst e2
    dsimp only [binI] at g
    split at g
    · rename_i hl
      rw [Bool.and_eq_true, Bool.or_eq_true] at hl
      obtain ⟨h1, h2⟩ := hl
      rcases h2 with h2 | h2
      · exact .inl ⟨i, j, r1, r2, ⟨of_decide_eq_true h1, of_decide_eq_true h2⟩, wh_v hc g rfl⟩
      · exact .inr ⟨i, j, r1, r2, ⟨of_decide_eq_true h1, of_decide_eq_true h2⟩, wh_v hc g rfl⟩
    · exact g.elim
  | Pow =>
    refine intz (fun i j e1 e2 g => ?_) h
    subst e1; subst e2
    dsimp only [binI] at g
    split at g
    · rename_i hl
      unfold powOk at hl
      simp only [Bool.and_eq_true, decide_eq_true_eq] at hl
      exact ⟨i, j, r1, r2, ⟨hl.1.1, hl.1.2, hl.2⟩, wh_v hc g rfl⟩
    · exact g.elim
  | LShift =>
    refine intz (fun i j e1 e2 g => ?_) h
    subst e1; subst e2
    dsimp only [binI] at g
    split at g
    · rename_i hl
      unfold powOk at hl
      simp only [Bool.and_eq_true, decide_eq_true_eq] at hl
      exact ⟨i, j, r1, r2, ⟨hl.1.1, hl.1.2, hl.2⟩, wh_v hc g rfl⟩
    · exact g.elim
  | _ => exact (intz (fun i j e1 e2 g => g.elim) h)
end
/-! ### comparisons -/
mutual
theorem pyD_ok {K : PySem.W.Frag} {ρ : Rho} {H : Hp} : ∀ (d : D) (v : V) (y : PyData), RelD K ρ H d v → pyD d = some y → Dp K H v y
  | .non, v, y, r, e => by rw [show v = _ from r]; cases e; exact .non
  | .bl b, v, y, r, e => by rw [show v = _ from r]; cases e; exact .bl b
  | .int i, v, y, r, e => by rw [show v = _ from r]; cases e; exact .int i
  | .str x, v, y, r, e => by rw [show v = _ from r]; cases e; exact .str x
  | .tup xs, v, y, r, e => by
    obtain ⟨a, vs, rfl, ha, hr⟩ := r
    simp only [pyD] at e
    cases q : pyDs xs with
    | none => rw [q] at e; cases e
    | some ys =>
      rw [q] at e
      cases e
      exact .tup (SqT.of ha) (pyDs_ok xs vs ys hr q)
  | .fzl xs, v, y, r, e => by cases e
  | .ref n, v, y, r, e => by cases e
theorem pyDs_ok {K : PySem.W.Frag} {ρ : Rho} {H : Hp} : ∀ (ds : List D) (vs : List V) (ys : List PyData), RelDs K ρ H ds vs → pyDs ds = some ys → DpAll K H vs ys
  | [], vs, ys, r, e => by rw [show vs = _ from r]; cases e; exact .nil
  | d :: ds, vs, ys, r, e => by
    obtain ⟨v, rest, rfl, h1, h2⟩ := r
    simp only [pyDs] at e
    cases q1 : pyD d with
    | none => rw [q1] at e; cases e
    | some y1 =>
      cases q2 : pyDs ds with
      | none => rw [q1, q2] at e; cases e
      | some y2 =>
        rw [q1, q2] at e
        cases e
        exact .cons (pyD_ok d v y1 h1 q1) (pyDs_ok ds rest y2 h2 q2)
end
theorem pyQ_ok {K : PySem.W.Frag} {H0 : Hp} {ρ : Rho} {M : Store} {H : Hp} {q : Q} {v : V} {y : PyData} (c : Conc K ρ M H) (r : RelQ K H0 ρ H q v) (e : pyQ M q = some y) : Dp K H v y := by
  have lists : ∀ {xs : List D}, q.lst? M = some xs → (pyDs xs).map PyData.list = some y → Dp K H v y := fun {xs} e1 e2 => by
    obtain ⟨a, vs, rfl, ha, ra⟩ := lst_ok c r e1
    cases q2 : pyDs xs with
    | none => rw [q2] at e2; cases e2
    | some ys =>
      rw [q2] at e2
      cases e2
      exact .lst (SqL.of ha) (pyDs_ok xs vs ys ra q2)
  cases q with
  | tmp xs => exact lists (xs := xs) rfl e
  | v d =>
    cases d with
    | ref n =>
      simp only [pyQ] at e
      cases hm : M[n]? with
      | none => rw [hm] at e; cases e
      | some o =>
        cases o with
        | lst ys =>
          rw [hm] at e
          exact lists (xs := ys) (by simp only [Q.lst?, hm]) e
    | non => exact pyD_ok _ _ _ r e
    | bl b => exact pyD_ok _ _ _ r e
    | int i => exact pyD_ok _ _ _ r e
    | str x => exact pyD_ok _ _ _ r e
    | tup x => exact pyD_ok _ _ _ r e
    | fzl x => exact pyD_ok _ _ _ r e
    | dct t x => exact pyD_ok _ _ _ r e
section
variable {X : Cx}
/-- in, not in -/
def rInX (K : PySem.W.Frag) (neg : Bool) : R2 := fun x y H Q => (∃ i j, x = .str i ∧ y = .str j ∧ Q (.bl (neg ^^ !(Builtin.Str.occurrences j i 0 j.length 1).isEmpty)) H) ∨
  ∃ d ds, Dp K H x d ∧ (Dp K H y (.list ds) ∨ Dp K H y (.tuple ds)) ∧ SeqAt.shaped d = true ∧ d.depth ≤ 63 ∧ SeqAt.shaped (.list ds) = true ∧ Q (.bl (neg ^^ ds.any fun z => PyData.eqv z d)) H
theorem op_inX (hu : X.A.units + 64 < cLine) : OpR X (compareOp .In) (rInX X.K false) := by
  intro pins s σ H x y v u Q I rx ry h
  rcases h with ⟨i, j, rfl, rfl, q⟩ | ⟨d, ds, hd, he, sd, dd, se, q⟩
  · exact op_in_str pins s σ H _ _ v u Q I rx ry ⟨i, j, rfl, rfl, by rw [Bool.false_xor] at q; exact q⟩
  · rw [Bool.false_xor] at q
    have room : X.A.units + 1 + min (PyData.depthAll ds) d.depth < cLine := by have := Nat.min_le_right (PyData.depthAll ds) d.depth; omega
    obtain ⟨as, r1⟩ := Dp.reads I d x v hd rx
    rcases he with he | he
    · obtain ⟨bs, r2⟩ := Dp.reads I (.list ds) y u he ry
      exact SeqAt.in_list_reads r2 r1 (SeqAt.canLay_of_shaped se) (SeqAt.canLay_of_shaped sd) room ⟨.bl _, H, I, rfl, q⟩
    · obtain ⟨bs, r2⟩ := Dp.reads I (.tuple ds) y u he ry
      exact SeqAt.in_tuple_reads r2 r1 (SeqAt.canLay_of_shaped se) (SeqAt.canLay_of_shaped sd) room ⟨.bl _, H, I, rfl, q⟩
theorem op_notInX (hu : X.A.units + 64 < cLine) : OpR X (compareOp .NotIn) (rInX X.K true) := by
  intro pins s σ H x y v u Q I rx ry h
  rcases h with ⟨i, j, rfl, rfl, q⟩ | ⟨d, ds, hd, he, sd, dd, se, q⟩
  · exact op_notIn_str pins s σ H _ _ v u Q I rx ry ⟨i, j, rfl, rfl, by rw [Bool.true_xor] at q; exact q⟩
  · rw [Bool.true_xor] at q
    have room : X.A.units + 1 + min (PyData.depthAll ds) d.depth < cLine := by have := Nat.min_le_right (PyData.depthAll ds) d.depth; omega
    obtain ⟨as, r1⟩ := Dp.reads I d x v hd rx
    rcases he with he | he
    · obtain ⟨bs, r2⟩ := Dp.reads I (.list ds) y u he ry
      exact SeqAt.notIn_list_reads r2 r1 (SeqAt.canLay_of_shaped se) (SeqAt.canLay_of_shaped sd) room ⟨.bl _, H, I, rfl, q⟩
    · obtain ⟨bs, r2⟩ := Dp.reads I (.tuple ds) y u he ry
      exact SeqAt.notIn_tuple_reads r2 r1 (SeqAt.canLay_of_shaped se) (SeqAt.canLay_of_shaped sd) room ⟨.bl _, H, I, rfl, q⟩
def rCmp (K : PySem.W.Frag) : CmpOp → R2
  | .Lt => rI0 fun i j => .bl (decide (i < j))
  | .LtE => rI0 fun i j => .bl (decide (i ≤ j))
  | .Gt => rI0 fun i j => .bl (decide (j < i))
  | .GtE => rI0 fun i j => .bl (decide (j ≤ i))
  | .Eq => rOr rEq (rEqD K)
  | .NotEq => rOr rNe (rNeD K)
  | .In => rInX K false
  | .NotIn => rInX K true
  | _ => rNo
theorem op_cmp (hu : X.A.units + 64 < cLine) : ∀ op : CmpOp, OpR X (compareOp op) (rCmp X.K op)
  | .Lt => op_lt
  | .LtE => op_le
  | .Gt => op_gt
  | .GtE => op_ge
  | .Eq => OpR.or op_eq (op_eqD hu)
  | .NotEq => OpR.or op_ne (op_neD hu)
  | .Is => op_no | .IsNot => op_no | .In => op_inX hu | .NotIn => op_notInX hu
end
section
variable {C : Ct} {W : WX} {σ : L2.St} {H0 : Hp} {ρ : Rho} {M : Store} {H : Hp} {P : VK}
theorem cmpI_ok {op : CmpOp} {i j : Int} {b : Bool} (h : cmpI op i j = some b) (q : P (.bl b) H) : rCmp C.K op (.int i) (.int j) H P := by
  have dec : decide (V.int i = V.int j) = decide (i = j) := by
    by_cases e : i = j
    · subst e; rw [decide_eq_true rfl, decide_eq_true rfl]
    · rw [decide_eq_false e, decide_eq_false (fun z => e (V.int.inj z))]
  cases op with
  | Lt => cases h; exact ⟨i, j, rfl, rfl, q⟩
  | LtE => cases h; exact ⟨i, j, rfl, rfl, q⟩
  | Gt => cases h; exact ⟨i, j, rfl, rfl, q⟩
  | GtE => cases h; exact ⟨i, j, rfl, rfl, q⟩
  | Eq => cases h; exact .inl ⟨rfl, by rw [dec]; exact q⟩
  | NotEq => cases h; exact .inl ⟨rfl, by rw [dec]; exact q⟩
  | _ => cases h
theorem cmp_ok {op : CmpOp} {q1 q2 : Q} {v w : V} (hc : Conc C.K ρ M H) (r1 : RelQ C.K H0 ρ H q1 v) (r2 : RelQ C.K H0 ρ H q2 w) (h : Wh C W σ ρ H P (ofB (cmpQ op q1 q2 M) M)) : rCmp C.K op v w H P := by
  have eqs : ∀ {b : Bool}, eqQ q1 q2 M = some b → ∃ d e, Dp C.K H v d ∧ Dp C.K H w e ∧ SeqAt.shaped d = true ∧ SeqAt.shaped e = true ∧ b = PyData.eqv d e := by
    intro b e
    unfold eqQ at e
    cases e1 : pyQ M q1 with
    | none => rw [e1] at e; cases e
    | some d1 =>
      cases e2 : pyQ M q2 with
      | none => rw [e1, e2] at e; cases e
      | some d2 =>
        rw [e1, e2] at e
        dsimp only at e
        split at e
        · rename_i hs
          obtain ⟨s1, s2⟩ := Bool.and_eq_true_iff.mp hs
          exact ⟨d1, d2, pyQ_ok hc r1 e1, pyQ_ok hc r2 e2, s1, s2, (Option.some.inj e).symm⟩
        · cases e
  have ins : ∀ {b : Bool} (neg : Bool), inQ q1 q2 M = some b → P (.bl (neg ^^ b)) H → rInX C.K neg v w H P := by
    intro b neg e q
    unfold inQ at e
    split at e
    · cases e
      rw [show v = _ from r1, show w = _ from r2]
      exact .inl ⟨_, _, rfl, rfl, q⟩
    · have fin : ∀ d ds, pyQ M q1 = some d → (pyQ M q2 = some (.list ds) ∨ pyQ M q2 = some (.tuple ds)) → inB d ds = some b → rInX C.K neg v w H P := fun d ds e1 e2 e3 => by
        unfold inB at e3
        split at e3
        · rename_i hs
          simp only [Bool.and_eq_true, decide_eq_true_eq] at hs
          cases e3
          exact .inr ⟨d, ds, pyQ_ok hc r1 e1, e2.imp (pyQ_ok hc r2) (pyQ_ok hc r2), hs.1, hs.2.1, hs.2.2, q⟩
        · cases e3
      split at e
      · rename_i e1 e2
        exact fin _ _ e1 (.inl e2) e
      · rename_i e1 e2
        exact fin _ _ e1 (.inr e2) e
      · cases e
  unfold cmpQ at h
  split at h
  · rename_i i j
    cases e : cmpI op i j with
    | none => rw [e] at h; exact h.elim
    | some b =>
      rw [e] at h
      rw [show v = _ from r1, show w = _ from r2]
      exact cmpI_ok e (wh_v hc h rfl)
  · cases op with
    | Eq =>
      cases e : eqQ q1 q2 M with
      | none => rw [e] at h; exact h.elim
      | some b =>
        rw [e] at h
        obtain ⟨d, d', h1, h2, h3, h4, h5⟩ := eqs e
        subst h5
        exact .inr ⟨d, d', h1, h2, h3, h4, wh_v hc h rfl⟩
    | NotEq =>
      cases e : eqQ q1 q2 M with
      | none => rw [e] at h; exact h.elim
      | some b =>
        rw [e] at h
        obtain ⟨d, d', h1, h2, h3, h4, h5⟩ := eqs e
        subst h5
        exact .inr ⟨d, d', h1, h2, h3, h4, wh_v hc h rfl⟩
    | In =>
      cases e : inQ q1 q2 M with
      | none => rw [e] at h; exact h.elim
      | some b =>
        rw [e] at h
        exact ins false e (by rw [Bool.false_xor]; exact wh_v hc h rfl)
    | NotIn =>
      cases e : inQ q1 q2 M with
      | none => rw [e] at h; exact h.elim
      | some b =>
        rw [e] at h
        exact ins true e (by rw [Bool.true_xor]; exact wh_v hc h rfl)
    | _ => exact h.elim
end
end Tri

set_option Elab.async false
set_option linter.all false
set_option maxRecDepth 100000
namespace Tri
open PySem PySem.Spec PyProof.Rows L2

/-- a way in which a def is called with keywords: how many by place, the names, which of all goes to each parameter -/
abbrev KwSig := Nat × List Str × List Nat
structure Cfg where
  N : List Str
  sc : Scope
  free : List Str
  fns : List (Str × List Str)
  cons : List (Str × Int)
  kws : List (List KwSig)
  st : Option Scope := none
  xcs : List Xc := []
  xall : List Xc := []
def Cfg.gl (c : Cfg) (x : Str) : Bool := c.sc.names.lookup x == some .globalImplicit
def Cfg.bi (c : Cfg) (x : Str) : Bool := c.gl x && c.free.contains x
def Cfg.vis (c : Cfg) (i : Nat) (x : Str) : Bool := c.N[i]? == some x && (c.sc.names.lookup x == some .local || c.sc.names.lookup x == some .cell || c.sc.names.lookup x == some .free) && !(x == ("__debug__" : Str)) && !(x == ("__classdict__" : Str))
/-- may a cell of this name be stored here: in a def each, in a comprehension its own -/
def Cfg.wc (c : Cfg) (x : Str) : Bool := match c.st with
  | none => true
  | some s => s.names.lookup x == some .cell
def Cfg.loc (c : Cfg) (i : Nat) (x : Str) : Bool := c.N[i]? == some x && (c.sc.names.lookup x == some .local || (c.sc.names.lookup x == some .cell && c.wc x))
/-- within a comprehension -/
def Cfg.at_ (c : Cfg) (s : Scope) : Cfg := { c with sc := relS s c.sc, st := some s }
def Cfg.own (c : Cfg) (l : List Nat) : List (Str × Nat) := l.map fun i => (c.N.getD i "", i)
def tyName : Ty → Str
  | .int => "int" | .bool => "bool" | .str => "str" | .tuple => "tuple" | .list => "list" | .none => "None"
def b1Name : B1 → Str
  | .len => "len" | .int => "int" | .abs => "abs" | .str => "str" | .sum => "sum" | .all => "all" | .any => "any" | .sorted => "sorted" | .tuple => "tuple" | .list => "list" | .max => "max" | .min => "min"
def b2Name : B2 → Str
  | .max => "max" | .min => "min"
def m0Name : M0 → Str
  | .pop => "pop"
def m1Name : M1 → Str
  | .append => "append" | .extend => "extend" | .pop => "pop"
def chkNames (c : Cfg) : List Nat → List Expr → Bool
  | [], [] => true
  | i :: is, .Name x _ :: es => c.loc i x && chkNames c is es
  | _, _ => false
mutual
def chkTg (c : Cfg) : Tg → Expr → Bool
  | .name i, .Name x _ => c.loc i x
  | .tup is, .Tuple es _ _ => chkNames c is es
  | .nst ts, .Tuple es _ _ => chkTgs c ts es
  | _, _ => false
def chkTgs (c : Cfg) : List Tg → List Expr → Bool
  | [], [] => true
  | t :: ts, e :: es => chkTg c t e && chkTgs c ts es
  | _, _ => false
end
def tgIn (t : Tg) (own : List Nat) : Bool := t.ns.all fun i => own.contains i
def isTup : Expr → Bool
  | .Tuple .. => true
  | _ => false
/-- a display's key -/
def isKey : Key → Expr → Bool
  | .inl i, .Constant (.int j) _ _ => i == j
  | .inr x, .Constant (.str y) _ _ => x == y
  | _, _ => false
/-- a method's receiver -/
def recv : Expr → Bool
  | .Name .. => true
  | .Subscript .. => true
  | _ => false
mutual
def chk (c : Cfg) : E → Expr → Bool
  | .non, e' => match e' with
    | .Constant .none _ _ => true
    | _ => false
  | .bl b, e' => match e' with
    | .Constant (.bool b') _ _ => b == b'
    | _ => false
  | .int i, e' => match e' with
    | .Constant (.int j) _ _ => i == j
    | _ => false
  | .str x, e' => match e' with
    | .Constant (.str y) _ _ => x == y
    | _ => false
  | .var i, e' => match e' with
    | .Name x _ => c.vis i x
    | _ => false
  | .con x i, e' => match e' with
    | .Name y _ => x == y && c.gl y && c.cons.contains (x, i) && !(x == ("__debug__" : Str))
    | _ => false
  | .bin op a b, e' => match e' with
    | .BinOp a' op' b' _ => op == op' && chk c a a' && chk c b b'
    | _ => false
  | .neg a, e' => match e' with
    | .UnaryOp .USub a' _ => chk c a a'
    | _ => false
  | .not a, e' => match e' with
    | .UnaryOp .Not a' _ => chk c a a'
    | _ => false
  | .and a b, e' => match e' with
    | .BoolOp .And (x :: y :: []) _ => chk c a x && chk c b y
    | .BoolOp .And (x :: y :: z :: r) p => chk c a x && chk c b (.BoolOp .And (y :: z :: r) p)
    | _ => false
  | .or a b, e' => match e' with
    | .BoolOp .Or (x :: y :: []) _ => chk c a x && chk c b y
    | .BoolOp .Or (x :: y :: z :: r) p => chk c a x && chk c b (.BoolOp .Or (y :: z :: r) p)
    | _ => false
  | .ife t a b, e' => match e' with
    | .IfExp t' a' b' _ => chk c t t' && chk c a a' && chk c b b'
    | _ => false
  | .cmp op a b, e' => match e' with
    | .Compare a' [op'] [b'] _ => op == op' && chk c a a' && chk c b b'
    | _ => false
  | .cmp2 o1 o2 a b d, e' => match e' with
    | .Compare a' [p1, p2] [b', d'] _ => o1 == p1 && o2 == p2 && chk c a a' && chk c b b' && chk c d d'
    | _ => false
  | .isN a, e' => match e' with
    | .Compare a' [.Is] [.Constant .none _ _] _ => chk c a a'
    | _ => false
  | .notN a, e' => match e' with
    | .Compare a' [.IsNot] [.Constant .none _ _] _ => chk c a a'
    | _ => false
  | .isi a t, e' => match e' with
    | .Call (.Name x _) [a', .Name y _] [] _ => x == ("isinstance" : Str) && c.bi x && t != .none && y == tyName t && c.bi y && chk c a a'
    | _ => false
  | .tup es, e' => match e' with
    | .Tuple es' _ _ => chks c es es'
    | _ => false
  | .lst es, e' => match e' with
    | .List es' _ => chks c es es'
    | _ => false
  | .ix a i, e' => match e' with
    | .Subscript a' i' _ => chk c a a' && chk c i i'
    | _ => false
  | .sl a lo hi, e' => match e' with
    | .Subscript a' (.Slice lo' hi' none _) _ => chk c a a' && chko c lo lo' && chko c hi hi'
    | _ => false
  | .call f es, e' => match e' with
    | .Call (.Name x _) (a' :: es') [] _ => c.gl x && !(x == ("__debug__" : Str)) && (match c.fns[f]? with
      | some (y, ps) => x == y && ps.length == (a' :: es').length
      | none => false) && chks c es (a' :: es')
    | _ => false
  | .callK f es ws ks perm, e' => match e' with
    | .Call (.Name x _) es' kws' _ => c.gl x && !(x == ("__debug__" : Str)) && (match c.fns[f]? with
      | some (y, ps) => x == y && ps.length == perm.length
      | none => false) && (match c.kws[f]? with
      | some l => l.contains (es'.length, ks, perm)
      | none => false) && chks c es es' && chkk c ws ks kws' && !kws'.isEmpty
    | _ => false
  | .lrg1 a, e' => match e' with
    | .Call (.Name x _) [.Call (.Name y _) [a'] [] _] [] _ => x == ("list" : Str) && c.bi x && y == ("range" : Str) && c.bi y && chk c a a'
    | _ => false
  | .lrg2 a b, e' => match e' with
    | .Call (.Name x _) [.Call (.Name y _) [a', b'] [] _] [] _ => x == ("list" : Str) && c.bi x && y == ("range" : Str) && c.bi y && chk c a a' && chk c b b'
    | _ => false
  | .b1 f a, e' => match e' with
    | .Call (.Name x _) [a'] [] _ => x == b1Name f && c.bi x && chk c a a'
    | _ => false
  | .b2 f a b, e' => match e' with
    | .Call (.Name x _) [a', b'] [] _ => x == b2Name f && c.bi x && chk c a a' && chk c b b'
    | _ => false
  | .m0 m o, e' => match e' with
    | .Call (.Attribute o' x ap) [] [] cp => x == m0Name m && recv o' && ap.endLine == cp.line && chk c o o'
    | _ => false
  | .m1 m o a, e' => match e' with
    | .Call (.Attribute o' x ap) [a'] [] cp => x == m1Name m && recv o' && ap.endLine == cp.line && chk c o o' && chk c a a'
    | _ => false
  | .rev a, e' => match e' with
    | .Subscript a' (.Slice none none (some (.UnaryOp .USub (.Constant (.int 1) _ _) _)) _) _ => chk c a a'
    | _ => false
  | .dnew _, e' => match e' with
    | .Dict [] [] _ => true
    | _ => false
  | .disp ks es, e' => match e' with
    | .Dict ks' vs' _ => chkp c ks es ks' vs'
    | _ => false
  | .dget d k, e' => match e' with
    | .Subscript d' k' _ => chk c d d' && chk c k k'
    | _ => false
  | .din neg k d, e' => match e' with
    | .Compare k' [op'] [d'] _ => (if neg then op' == .NotIn else op' == .In) && chk c k k' && chk c d d'
    | _ => false
  | .lc elt tg it cond own, e' => match e' with
    | .ListComp elt' [⟨tg', it', ifs, as⟩] scope _ => as == 0 && tgIn tg own && blkC c.N c.sc scope (c.own own) && chki c it tg' it' && chkTg (c.at_ scope) tg tg' && chkc (c.at_ scope) cond ifs && chk (c.at_ scope) elt elt'
    | _ => false
def chks (c : Cfg) : Es → List Expr → Bool
  | .nil, es' => match es' with
    | [] => true
    | _ => false
  | .cons e es, es' => match es' with
    | e' :: r => chk c e e' && chks c es r
    | _ => false
def chkp (c : Cfg) : List Key → Es → List (Option Expr) → List Expr → Bool
  | ks, .nil, ks', vs' => ks.isEmpty && ks'.isEmpty && vs'.isEmpty
  | ks, .cons e es, ks', vs' => match ks, ks', vs' with
    | k :: ks, some k' :: ks', v' :: vs' => isKey k k' && chk c e v' && chkp c ks es ks' vs'
    | _, _, _ => false
def chkk (c : Cfg) : Es → List Str → List Keyword → Bool
  | .nil, ks, l => ks.isEmpty && l.isEmpty
  | .cons e es, ks, l => match ks, l with
    | k :: ks, ⟨some x, e', _⟩ :: r => k == x && chk c e e' && chkk c es ks r
    | _, _ => false
def chko (c : Cfg) : Eo → Option Expr → Bool
  | .no, e' => e'.isNone
  | .so e, e' => match e' with
    | some x => chk c e x
    | none => false
def chkc (c : Cfg) : Eo → List Expr → Bool
  | .no, es' => es'.isEmpty
  | .so e, es' => match es' with
    | [x] => chk c e x
    | _ => false
def chki (c : Cfg) : It → Expr → Expr → Bool
  | .seq e, _, e' => chk c e e'
  | .rg1 a, _, e' => match e' with
    | .Call (.Name x _) [a'] [] _ => x == ("range" : Str) && c.bi x && chk c a a'
    | _ => false
  | .rg2 a b, _, e' => match e' with
    | .Call (.Name x _) [a', b'] [] _ => x == ("range" : Str) && c.bi x && chk c a a' && chk c b b'
    | _ => false
  | .en a, tg, e' => match e' with
    | .Call (.Name x _) [a'] [] _ => isTup tg && x == ("enumerate" : Str) && c.bi x && chk c a a'
    | _ => false
  | .zip a b, tg, e' => match e' with
    | .Call (.Name x _) [a', b'] [] _ => isTup tg && x == ("zip" : Str) && c.bi x && chk c a a' && chk c b b'
    | _ => false
  | .zip3 a b d, tg, e' => match e' with
    | .Call (.Name x _) [a', b', d'] [] _ => isTup tg && x == ("zip" : Str) && c.bi x && chk c a a' && chk c b b' && chk c d d'
    | _ => false
end
/-! ### an except suite; en: the name of the caught error -/
def chkCs (c : Cfg) : List Xc → List Expr → Bool
  | [], [] => true
  | d :: ds, .Name z _ :: es => z == d.str && c.gl z && c.xall.contains d && chkCs c ds es
  | _, _ => false
def chkT (c : Cfg) (en : Option Str) : XT → Expr → Bool
  | .isx d, e' => match e' with
    | .Call (.Name x _) [.Name y _, .Name z _] [] _ => x == ("isinstance" : Str) && c.bi x && en == some y && z == d.str && c.gl z && c.xall.contains d
    | _ => false
  | .isxs ds, e' => match e' with
    | .Call (.Name x _) [.Name y _, .Tuple es _ _] [] _ => x == ("isinstance" : Str) && c.bi x && en == some y && decide (es.length ≤ 1000) && chkCs c ds es
    | _ => false
  | .not a, e' => match e' with
    | .UnaryOp .Not a' _ => chkT c en a a'
    | _ => false
  | .and a b, e' => match e' with
    | .BoolOp .And (x :: y :: []) _ => chkT c en a x && chkT c en b y
    | .BoolOp .And (x :: y :: z :: r) p => chkT c en a x && chkT c en b (.BoolOp .And (y :: z :: r) p)
    | _ => false
  | .or a b, e' => match e' with
    | .BoolOp .Or (x :: y :: []) _ => chkT c en a x && chkT c en b y
    | .BoolOp .Or (x :: y :: z :: r) p => chkT c en a x && chkT c en b (.BoolOp .Or (y :: z :: r) p)
    | _ => false
mutual
def chkX (c : Cfg) (en : Option Str) : XE → Expr → Bool
  | .non, e' => match e' with
    | .Constant .none _ _ => true
    | _ => false
  | .bl b, e' => match e' with
    | .Constant (.bool b') _ _ => b == b'
    | _ => false
  | .int i, e' => match e' with
    | .Constant (.int j) _ _ => i == j
    | _ => false
  | .str x, e' => match e' with
    | .Constant (.str y) _ _ => x == y
    | _ => false
  | .var i, e' => match e' with
    | .Name x _ => c.vis i x && en != some x
    | _ => false
  | .fld f, e' => match e' with
    | .Attribute (.Name x _) g _ => en == some x && g == f.str
    | _ => false
  | .ife t a b, e' => match e' with
    | .IfExp t' a' b' _ => chkT c en t t' && chkX c en a a' && chkX c en b b'
    | _ => false
  | .tup es, e' => match e' with
    | .Tuple es' _ _ => chkXs c en es es'
    | _ => false
  | .lst es, e' => match e' with
    | .List es' _ => chkXs c en es es'
    | _ => false
def chkXs (c : Cfg) (en : Option Str) : XEs → List Expr → Bool
  | .nil, es' => es'.isEmpty
  | .cons e es, es' => match es' with
    | e' :: r => chkX c en e e' && chkXs c en es r
    | [] => false
end
mutual
def chkXS (c : Cfg) (en : Option Str) : XS → Stmt → Bool
  | .ret e, s' => match s' with
    | .Return (some e') _ => chkX c en e e'
    | _ => false
  | .pass, s' => match s' with
    | .Pass _ => true
    | _ => false
  | .ife t a b, s' => match s' with
    | .If t' a' b' _ => chkT c en t t' && chkXSs c en a a' && chkXSs c en b b'
    | _ => false
def chkXSs (c : Cfg) (en : Option Str) : List XS → List Stmt → Bool
  | [], l => l.isEmpty
  | s :: r, l => match l with
    | s' :: r' => chkXS c en s s' && chkXSs c en r r'
    | [] => false
end
def chkHs (c : Cfg) : List Hd → List ExceptHandler → Bool
  | [], l => l.isEmpty
  | h :: hs, l => match l with
    | .ExceptHandler (some (.Name y _)) n (st :: sts) _ :: r => c.xall.contains h.cls && y == h.cls.str && c.gl y && (match h.slot, n with
      | none, none => true
      | some i, some x => c.N[i]? == some x && c.sc.names.lookup x == some .local && !(x == ("__debug__" : Str)) && !(x == ("__classdict__" : Str))
      | _, _ => false) && chkXSs c n h.body (st :: sts) && chkHs c hs r
    | _ => false
def isLc : Expr → Bool
  | .ListComp .. => true
  | .DictComp .. => true
  | _ => false
/-- a comprehension given to a name: does the model store it within -/
def swB (c : Cfg) (e : Expr) (x : Str) (p : Pos) : Bool := match e with
  | .ListComp _ _ s q => c.sc.names.lookup x == some .local && p.line == q.line && !(s.names.any fun (n, k) => n == x && (k == .local || k == .cell))
  | .DictComp _ _ _ s q => c.sc.names.lookup x == some .local && p.line == q.line && !(s.names.any fun (n, k) => n == x && (k == .local || k == .cell))
  | _ => false
mutual
def chkS (c : Cfg) : S → Stmt → Bool
  | .expr e, s' => match s' with
    | .Expr e' _ => !isLc e' && chk c e e'
    | _ => false
  | .ret e, s' => match s' with
    | .Return (some e') _ => chk c e e'
    | _ => false
  | .retN, s' => match s' with
    | .Return none _ => true
    | _ => false
  | .pass, s' => match s' with
    | .Pass _ => true
    | _ => false
  | .brk, s' => match s' with
    | .Break _ => true
    | _ => false
  | .cont, s' => match s' with
    | .Continue _ => true
    | _ => false
  | .set i e, s' => match s' with
    | .Assign [.Name x p] e' sp => c.loc i x && chk c e e' && (!isLc e' || (swB c e' x p && p.line == sp.line) || !(swB c e' x p))
    | _ => false
  | .asg t e, s' => match s' with
    | .Assign [.Tuple ts k p] e' _ => chkTg c t (.Tuple ts k p) && chk c e e' && !isLc e' && !isTup e'
    | _ => false
  | .par _ _ _ _, _ => false
  | .setIx o i e, s' => match s' with
    | .Assign [.Subscript o' i' _] e' _ => chk c o o' && chk c i i' && chk c e e' && !isLc e'
    | _ => false
  | .aug i op e, s' => match s' with
    | .AugAssign (.Name x _) op' e' _ => c.loc i x && op == op' && (op == .Add || op == .Sub) && chk c e e'
    | _ => false
  | .ife e a b, s' => match s' with
    | .If e' a' b' _ => chk c e e' && chkSs c a a' && chkSs c b b'
    | _ => false
  | .whl e b, s' => match s' with
    | .While e' b' [] _ => chk c e e' && chkSs c b b'
    | _ => false
  | .for_ t it b, s' => match s' with
    | .For t' it' b' [] _ => chkTg c t t' && chki c it t' it' && chkSs c b b'
    | _ => false
  | .dset d k e, s' => match s' with
    | .Assign [.Subscript d' k' _] e' _ => chk c d d' && chk c k k' && chk c e e' && !isLc e'
    | _ => false
  | .rais x es, s' => match s' with
    | .Raise (some (.Call (.Name y _) (a' :: es') [] _)) none _ => c.xcs.contains x && y == x.str && c.gl y && chks c es (a' :: es')
    | _ => false
  | .tryX b hs, s' => match s' with
    | .Try b' (h' :: hs') [] [] _ => chkSs c b b' && chkHs c hs (h' :: hs')
    | _ => false
def chkSs (c : Cfg) : List S → List Stmt → Bool
  | [], l => l.isEmpty
  | s :: r, l => match l with
    | s' :: r' => chkS c s s' && chkSs c r r'
    | [] => false
end
end Tri

set_option Elab.async false
set_option linter.all false
set_option maxRecDepth 100000
namespace Tri
open PySem PySem.Spec PyProof.Rows L2

/-! ### by values: isinstance, built-ins, subscripts, slices, methods -/
def tyStr : Ty → String
  | .int => "int" | .bool => "bool" | .str => "str" | .tuple => "tuple" | .list => "list" | .none => "NoneType"
theorem kit_tys (K : PySem.W.Frag) (a b : Ty) (hb : b ≠ .none) : PySem.W.kitOne K (.type (tyStr a)) (.type (tyStr b)) = some (a == b || (a == .bool && b == .int)) := by
  refine kit_ty ?_
  cases b with
  | none => exact absurd rfl hb
  | _ => cases a <;> decide +kernel
section
variable {C : Ct} {W : WX} {σ : L2.St} {H0 : Hp} {ρ : Rho} {M : Store} {H : Hp} {P : VK}
theorem rdT {K : PySem.W.Frag} {H : Hp} {a : Addr} {vs : List V} (h : SqT K H a vs) : TyX K H (.ref a) (.type "tuple") := by
  rcases h with (h | ⟨o, h⟩) | ⟨o, its, n, h1, h2, _⟩
  · exact .base (.tup h)
  · exact .fTuple h
  · exact .kTuple h1 h2
theorem ty_ok {q : Q} {v : V} (hc : Conc C.K ρ M H) (r : RelQ C.K H0 ρ H q v) (nf : ∀ xs, q ≠ .v (.fzl xs)) (nd : ∀ t n, q ≠ .v (.dct t n)) : TyX C.K H v (.type (tyStr (tyOf q))) := by
  cases q with
  | tmp xs =>
    obtain ⟨a, vs, rfl, _, ha, _⟩ := r
    exact .base (.lst ha)
  | v d =>
    cases d with
    | non => rw [show v = _ from r]; exact .base .non
    | bl b => rw [show v = _ from r]; exact .base (.bl b)
    | int i => rw [show v = _ from r]; exact .base (.int i)
    | str x => rw [show v = _ from r]; exact .base (.str x)
    | tup xs =>
      obtain ⟨a, vs, rfl, ha, _⟩ := r
      exact rdT (SqT.of ha)
    | ref n =>
      obtain ⟨a, rfl, hn, hk⟩ := r
      have lt := hc.dom n a hn
      obtain ⟨b, h1, h2⟩ := hc.obj n M[n] (List.getElem?_eq_getElem lt)
      rw [hn] at h1
      cases h1
      generalize M[n] = o at h2
      cases o with
      | lst xs =>
        obtain ⟨vs, e, _⟩ := h2.lst hk
        exact .base (.lst e)
    | fzl xs => exact absurd rfl (nf xs)
    | dct t n => exact absurd rfl (nd t n)
theorem isi_ok {t : Ty} {q : Q} {v : V} (ht : t ≠ .none) (hc : Conc C.K ρ M H) (r : RelQ C.K H0 ρ H q v) (h : Wh C W σ ρ H P (isiR t q M)) : rIsi C.K [v, .ty (tyStr t)] H P := by
  by_cases nf : ∃ xs, q = .v (.fzl xs)
  · obtain ⟨xs, rfl⟩ := nf
    exact h.elim
  · by_cases nd : ∃ t n, q = .v (.dct t n)
    · obtain ⟨t, n, rfl⟩ := nd
      exact h.elim
    · have e : isiR t q M = okv (.bl (isiQ t q)) M := by
        unfold isiR
        split
        · exact absurd ⟨_, rfl⟩ nf
        · exact absurd ⟨_, _, rfl⟩ nd
        · rfl
      rw [e] at h
      exact ⟨v, .ty (tyStr t), _, _, _, rfl, .ty _, ty_ok hc r (fun xs e => nf ⟨xs, e⟩) (fun t n e => nd ⟨t, n, e⟩), kit_tys _ _ _ ht, wh_v hc h rfl⟩

/-! ### built-ins of one argument -/
theorem intz_ok {K : PySem.W.Frag} {ρ : Rho} {H : Hp} : ∀ {xs : List D} {vs : List V} {ns : List Int}, RelDs K ρ H xs vs → intsOf xs = some ns → vs = ns.map V.int
  | [], vs, ns, r, e => by cases e; exact r
  | .int i :: xs, vs, ns, r, e => by
    obtain ⟨v, rest, rfl, h1, h2⟩ := r
    simp only [intsOf] at e
    cases q : intsOf xs with
    | none => rw [q] at e; cases e
    | some ms =>
      rw [q] at e
      cases e
      rw [show v = _ from h1, intz_ok h2 q]; rfl
  | .non :: xs, vs, ns, r, e => by cases e
  | .bl _ :: xs, vs, ns, r, e => by cases e
  | .str _ :: xs, vs, ns, r, e => by cases e
  | .tup _ :: xs, vs, ns, r, e => by cases e
  | .ref _ :: xs, vs, ns, r, e => by cases e
  | .fzl _ :: xs, vs, ns, r, e => by cases e
theorem blz_ok {K : PySem.W.Frag} {ρ : Rho} {H : Hp} : ∀ {xs : List D} {vs : List V} {ns : List Bool}, RelDs K ρ H xs vs → blsOf xs = some ns → vs = ns.map V.bl
  | [], vs, ns, r, e => by cases e; exact r
  | .bl i :: xs, vs, ns, r, e => by
    obtain ⟨v, rest, rfl, h1, h2⟩ := r
    simp only [blsOf] at e
    cases q : blsOf xs with
    | none => rw [q] at e; cases e
    | some ms =>
      rw [q] at e
      cases e
      rw [show v = _ from h1, blz_ok h2 q]; rfl
  | .non :: xs, vs, ns, r, e => by cases e
  | .int _ :: xs, vs, ns, r, e => by cases e
  | .str _ :: xs, vs, ns, r, e => by cases e
  | .tup _ :: xs, vs, ns, r, e => by cases e
  | .ref _ :: xs, vs, ns, r, e => by cases e
  | .fzl _ :: xs, vs, ns, r, e => by cases e
theorem ints_rel {K : PySem.W.Frag} {ρ : Rho} {H : Hp} : ∀ ns : List Int, RelDs K ρ H (ns.map D.int) (ns.map V.int)
  | [] => rfl
  | n :: ns => ⟨_, _, rfl, rfl, ints_rel ns⟩
theorem max_fold {n m : Int} : ∀ {ns : List Int}, m ∈ n :: ns → (∀ y, y ∈ n :: ns → y ≤ m) → ns.foldl max n = m := by
  have key : ∀ (ns : List Int) (n : Int), (ns.foldl max n ∈ n :: ns) ∧ ∀ y, y ∈ n :: ns → y ≤ ns.foldl max n := by
    intro ns
    induction ns with
    | nil => intro n; exact ⟨by simp, by simp⟩
    | cons k ns ih =>
      intro n
      obtain ⟨h1, h2⟩ := ih (max n k)
      refine ⟨?_, fun y hy => ?_⟩
      · show ns.foldl max (max n k) ∈ _
        rcases List.mem_cons.mp h1 with e | e
        · rw [e]
          rcases Int.le_total n k with z | z
          · rw [Int.max_eq_right z]; simp
          · rw [Int.max_eq_left z]; simp
        · exact List.mem_cons_of_mem _ (List.mem_cons_of_mem _ e)
      · show y ≤ ns.foldl max (max n k)
        have hm := h2 (max n k) List.mem_cons_self
        rcases List.mem_cons.mp hy with e | e
        · rw [e]; exact Int.le_trans (Int.le_max_left _ _) hm
        · rcases List.mem_cons.mp e with e | e
          · rw [e]; exact Int.le_trans (Int.le_max_right _ _) hm
          · exact h2 y (List.mem_cons_of_mem _ e)
  intro ns h1 h2
  obtain ⟨k1, k2⟩ := key ns n
  have a := h2 _ k1
  have b := k2 _ h1
  omega
theorem min_fold {n m : Int} : ∀ {ns : List Int}, m ∈ n :: ns → (∀ y, y ∈ n :: ns → m ≤ y) → ns.foldl min n = m := by
  have key : ∀ (ns : List Int) (n : Int), (ns.foldl min n ∈ n :: ns) ∧ ∀ y, y ∈ n :: ns → ns.foldl min n ≤ y := by
    intro ns
    induction ns with
    | nil => intro n; exact ⟨by simp, by simp⟩
    | cons k ns ih =>
      intro n
      obtain ⟨h1, h2⟩ := ih (min n k)
      refine ⟨?_, fun y hy => ?_⟩
      · show ns.foldl min (min n k) ∈ _
        rcases List.mem_cons.mp h1 with e | e
        · rw [e]
          rcases Int.le_total n k with z | z
          · rw [Int.min_eq_left z]; simp
          · rw [Int.min_eq_right z]; simp
        · exact List.mem_cons_of_mem _ (List.mem_cons_of_mem _ e)
      · show ns.foldl min (min n k) ≤ y
        have hm := h2 (min n k) List.mem_cons_self
        rcases List.mem_cons.mp hy with e | e
        · rw [e]; exact Int.le_trans hm (Int.min_le_left _ _)
        · rcases List.mem_cons.mp e with e | e
          · rw [e]; exact Int.le_trans hm (Int.min_le_right _ _)
          · exact h2 y (List.mem_cons_of_mem _ e)
  intro ns h1 h2
  obtain ⟨k1, k2⟩ := key ns n
  have a := h2 _ k1
  have b := k2 _ h1
  omega
theorem sorted_one : ∀ {a b : List Int}, a.Perm b → a.Pairwise (· ≤ ·) → b.Pairwise (· ≤ ·) → a = b
  | [], b, p, _, _ => (List.nil_perm.mp p).symm
  | x :: a, [], p, _, _ => absurd (List.perm_nil.mp p) (by simp)
  | x :: a, y :: b, p, h1, h2 => by
    have e : x = y := by
      have m1 : x ∈ y :: b := p.mem_iff.mp List.mem_cons_self
      have m2 : y ∈ x :: a := p.mem_iff.mpr List.mem_cons_self
      have l1 : y ≤ x := by
        rcases List.mem_cons.mp m1 with e | e
        · omega
        · exact (List.pairwise_cons.mp h2).1 x e
      have l2 : x ≤ y := by
        rcases List.mem_cons.mp m2 with e | e
        · omega
        · exact (List.pairwise_cons.mp h1).1 y e
      omega
    subst e
    rw [sorted_one (List.Perm.cons_inv p) (List.pairwise_cons.mp h1).2 (List.pairwise_cons.mp h2).2]
theorem merge_sorted (ns : List Int) : (ns.mergeSort (fun a b => decide (a ≤ b))).Pairwise (· ≤ ·) := by
  have h := List.pairwise_mergeSort (le := fun a b : Int => decide (a ≤ b)) (fun a b c h1 h2 => by
    simp only [decide_eq_true_eq] at h1 h2 ⊢
    omega) (fun a b => by
    simp only [Bool.or_eq_true, decide_eq_true_eq]
    omega) ns
  exact h.imp fun h => by simpa using h
/-- the rule of a built-in of one argument -/
def rB1 (K : PySem.W.Frag) : B1 → List V → Hp → VK → Prop
  | .len => fun xs H P => (∃ z, xs = [.str z] ∧ z.length ≤ sizeLine ∧ P (.int z.length) H) ∨ (∃ p ys, xs = [.ref p] ∧ (SqL K H p ys ∨ SqT K H p ys) ∧ P (.int ys.length) H)
  | .int => fun xs H Q => (∃ i, xs = [.int i] ∧ Q (.int i) H) ∨ ∃ k, xs = [.bl k] ∧ Q (.int (if k then 1 else 0)) H
  | .abs => fun xs H Q => ∃ i, xs = [.int i] ∧ Q (.int (if i < 0 then -i else i)) H
  | .str => fun xs H Q => ∃ i, xs = [.int i] ∧ i.natAbs.log2 < 1920 ∧ Q (.str (toString i)) H
  | .tuple => fun xs H Q => ∃ p ys, xs = [.ref p] ∧ ((SqL K H p ys ∧ ∀ l, H l = none → Q (.ref l) (upd H l (.tup ys))) ∨ (SqT K H p ys ∧ Q (.ref p) H))
  | .list => fun xs H Q => ∃ p ys, xs = [.ref p] ∧ (SqL K H p ys ∨ SqT K H p ys) ∧ ∀ l, H l = none → Q (.ref l) (upd H l (.lst ys))
  | .sum => rSum' K
  | .all => rAll' K
  | .any => rAny' K
  | .sorted => rSorted' K
  | .max => rMax' K
  | .min => rMin' K
theorem b1_ok {f : B1} {q : Q} {v : V} (hc : Conc C.K ρ M H) (r : RelQ C.K H0 ρ H q v) (h : Wh C W σ ρ H P (b1Q f q M)) : rB1 C.K f [v] H P := by
  have seqI : ∀ {ns : List Int}, (q.items M).bind intsOf = some ns → ∃ a, v = .ref a ∧ Sq C.K H a (ns.map V.int) := fun {ns} e => by
    cases e1 : q.items M with
    | none => rw [e1] at e; cases e
    | some xs =>
      rw [e1] at e
      obtain ⟨a, vs, rfl, ha, ra, _, _⟩ := items_ok hc r e1
      rw [intz_ok ra e] at ha
      exact ⟨a, rfl, ha⟩
  have seqB : ∀ {ns : List Bool}, (q.items M).bind blsOf = some ns → ∃ a, v = .ref a ∧ Sq C.K H a (ns.map V.bl) := fun {ns} e => by
    cases e1 : q.items M with
    | none => rw [e1] at e; cases e
    | some xs =>
      rw [e1] at e
      obtain ⟨a, vs, rfl, ha, ra, _, _⟩ := items_ok hc r e1
      rw [blz_ok ra e] at ha
      exact ⟨a, rfl, ha⟩
  cases f with
  | len =>
    unfold b1Q at h
    dsimp only at h
    split at h
    · split at h
      · rename_i hl
        exact .inl ⟨_, congrArg (fun z => [z]) (show v = _ from r), lim_le hl, wh_v hc h rfl⟩
      · exact h.elim
    · split at h
      · rename_i e
        obtain ⟨a, vs, rfl, hs, ra, _, _⟩ := items_ok hc r e
        exact .inr ⟨a, vs, rfl, hs, wh_v hc h (by rw [ra.length]; rfl)⟩
      · exact h.elim
  | int =>
    unfold b1Q at h
    dsimp only at h
    split at h
    · exact .inl ⟨_, congrArg (fun z => [z]) (show v = _ from r), wh_v hc h rfl⟩
    · exact .inr ⟨_, congrArg (fun z => [z]) (show v = _ from r), wh_v hc h rfl⟩
    · exact h.elim
  | abs =>
    unfold b1Q at h
    dsimp only at h
    split at h
    · exact ⟨_, congrArg (fun z => [z]) (show v = _ from r), wh_v hc h rfl⟩
    · exact h.elim
  | str =>
    unfold b1Q at h
    dsimp only at h
    split at h
    · split at h
      · rename_i i hl
        refine ⟨_, congrArg (fun z => [z]) (show v = _ from r), ?_, wh_v hc h rfl⟩
        by_cases z : i.natAbs = 0
        · rw [z]; decide
        · exact (Nat.log2_lt z).mpr (Nat.lt_of_lt_of_le hl (Nat.le_trans (by decide : 10 ^ 18 ≤ 2 ^ 60) (Nat.pow_le_pow_right (by decide) (by decide))))
      · exact h.elim
    · exact h.elim
  | tuple =>
    unfold b1Q at h
    dsimp only at h
    split at h
    · rename_i xs e
      by_cases z : ∃ ys, q = .v (.tup ys)
      · obtain ⟨ys, rfl⟩ := z
        cases Option.some.inj e
        obtain ⟨a, vs, rfl, hs, ra⟩ := r
        exact ⟨a, vs, rfl, .inr ⟨SqT.of hs, wh_v hc h ⟨a, vs, rfl, hs, ra⟩⟩⟩
      · obtain ⟨a, vs, rfl, _, ra, _, hl⟩ := items_ok hc r e
        exact ⟨a, vs, rfl, .inl ⟨hl (fun ys e => z ⟨ys, e⟩), wh_tup hc h ra⟩⟩
    · exact h.elim
  | list =>
    unfold b1Q at h
    dsimp only at h
    split at h
    · rename_i xs e
      obtain ⟨a, vs, rfl, hs, ra, _, _⟩ := items_ok hc r e
      exact ⟨a, vs, rfl, hs, wh_tmp hc h ra⟩
    · exact h.elim
  | sum =>
    unfold b1Q at h
    dsimp only at h
    split at h
    · rename_i ns e
      obtain ⟨a, rfl, hs⟩ := seqI e
      exact ⟨a, ns, rfl, hs, wh_v hc h rfl⟩
    · exact h.elim
  | all =>
    unfold b1Q at h
    dsimp only at h
    split at h
    · rename_i ns e
      obtain ⟨a, rfl, hs⟩ := seqB e
      exact ⟨a, ns, rfl, hs, wh_v hc h rfl⟩
    · exact h.elim
  | any =>
    unfold b1Q at h
    dsimp only at h
    split at h
    · rename_i ns e
      obtain ⟨a, rfl, hs⟩ := seqB e
      exact ⟨a, ns, rfl, hs, wh_v hc h rfl⟩
    · exact h.elim
  | sorted =>
    unfold b1Q at h
    dsimp only at h
    split at h
    · rename_i ns e
      obtain ⟨a, rfl, hs⟩ := seqI e
      refine ⟨a, ns, rfl, hs, fun ns' p h1 h2 hp => ?_⟩
      have e : ns' = ns.mergeSort (fun a b => decide (a ≤ b)) := sorted_one (h1.trans (List.mergeSort_perm _ _).symm) h2 (merge_sorted ns)
      subst e
      exact wh_tmp hc h (ints_rel _) p hp
    · exact h.elim
  | max =>
    unfold b1Q at h
    dsimp only at h
    split at h
    · rename_i n ns e
      obtain ⟨a, rfl, hs⟩ := seqI e
      refine ⟨a, n :: ns, rfl, hs, by simp, fun m h1 h2 => ?_⟩
      rw [max_fold h1 h2] at h
      exact wh_v hc h rfl
    · exact h.elim
  | min =>
    unfold b1Q at h
    dsimp only at h
    split at h
    · rename_i n ns e
      obtain ⟨a, rfl, hs⟩ := seqI e
      refine ⟨a, n :: ns, rfl, hs, by simp, fun m h1 h2 => ?_⟩
      rw [min_fold h1 h2] at h
      exact wh_v hc h rfl
    · exact h.elim
end
end Tri
namespace Tri
open PySem PySem.Spec PyProof.Rows L2
section
variable {C : Ct} {W : WX} {σ : L2.St} {H0 : Hp} {ρ : Rho} {M : Store} {H : Hp} {P : VK}
def rB2 : B2 → List V → Hp → VK → Prop
  | .max => fun xs H Q => ∃ i j, xs = [.int i, .int j] ∧ Q (.int (if j > i then j else i)) H
  | .min => fun xs H Q => ∃ i j, xs = [.int i, .int j] ∧ Q (.int (if j < i then j else i)) H
theorem b2_ok {f : B2} {q1 q2 : Q} {v w : V} (hc : Conc C.K ρ M H) (r1 : RelQ C.K H0 ρ H q1 v) (r2 : RelQ C.K H0 ρ H q2 w) (h : Wh C W σ ρ H P (b2Q f q1 q2 M)) : rB2 f [v, w] H P := by
  unfold b2Q at h
  split at h
  · rw [show v = _ from r1, show w = _ from r2]
    exact ⟨_, _, rfl, wh_v hc h rfl⟩
  · rw [show v = _ from r1, show w = _ from r2]
    exact ⟨_, _, rfl, wh_v hc h rfl⟩
  · exact h.elim
/-- a list of the store is written and something is handed back -/
theorem wh_wr {n : Nat} {a : Addr} {xs ys : List D} {vs ws : List V} {d : D} {v : V} (hc : Conc C.K ρ M H) (hM : M[n]? = some (.lst xs)) (hn : ρ n = some a) (ha : H a = some (.lst vs)) (ry : RelDs C.K ρ H ys ws) (rd : RelD C.K ρ H d v)
    (h : Wh C W σ ρ H P (okv d (M.set n (.lst ys)))) : P v (upd H a (.lst ws)) :=
  h ρ _ v (Step.wr hn ha) (hc.wr hM hn ha ry) (RelD.mono (Step.wr hn ha).mono _ _ rd)
theorem ref_ok {n : Nat} {xs : List D} {v : V} (hc : Conc C.K ρ M H) (r : RelQ C.K H0 ρ H (.v (.ref n)) v) (hM : M[n]? = some (.lst xs)) : ∃ a vs, v = .ref a ∧ ρ n = some a ∧ H a = some (.lst vs) ∧ RelDs C.K ρ H xs vs := by
  obtain ⟨a, e1, hn, hk⟩ := r
  obtain ⟨b, h1, ho⟩ := hc.obj n _ hM
  rw [hn] at h1
  cases h1
  obtain ⟨vs, h2, h3⟩ := ho.lst hk
  exact ⟨a, vs, e1, hn, h2, h3⟩
def rM0 : M0 → V → List V → Hp → VK → Prop
  | .pop => rPop
theorem m0_ok {m : M0} {q : Q} {v : V} (hc : Conc C.K ρ M H) (r : RelQ C.K H0 ρ H q v) (h : Wh C W σ ρ H P (m0Q m q M)) : tyV C.K "list" v H ∧ rM0 m v [] H P := by
  unfold m0Q at h
  split at h
  · split at h
    · rename_i xs hM
      split at h
      · rename_i d hd
        obtain ⟨a, vs, rfl, hn, ha, ra⟩ := ref_ok hc r hM
        obtain ⟨y, h1, h2⟩ := ra.get hd
        exact ⟨.inl ⟨rfl, _, SqL.of ha⟩, a, vs, y, rfl, rfl, ha, by rw [← ra.length]; exact h1, wh_wr hc hM hn ha ra.dropLast h2 h⟩
      · exact h.elim
    · exact h.elim
  · exact h.elim
def rM1 : M1 → V → List V → Hp → VK → Prop
  | .append => rAppend
  | .extend => rExtend
  | .pop => rPopAt
theorem ixNat_lt {n : Nat} {i : Int} {k : Nat} (h : ixNat n i = some k) : k < n := by
  unfold ixNat at h
  split at h
  · split at h
    · cases h; omega
    · cases h
  · split at h
    · cases h; omega
    · cases h
theorem ixNat_eq (n : Nat) (i : Int) : ixN n i = ixNat n i := by
  unfold ixN ixNat
  split <;> (split <;> simp_all)
theorem m1_ty {m : M1} {q1 q2 : Q} {v : V} (hc : Conc C.K ρ M H) (r1 : RelQ C.K H0 ρ H q1 v) (h : Wh C W σ ρ H P (m1Q m q1 q2 M)) : tyV C.K "list" v H := by
  unfold m1Q at h
  split at h
  · split at h
    · rename_i xs hM
      obtain ⟨a, vs, rfl, hn, ha, ra⟩ := ref_ok hc r1 hM
      exact .inl ⟨rfl, _, SqL.of ha⟩
    · exact h.elim
  · exact h.elim
theorem m1_ok {m : M1} {q1 q2 : Q} {v w : V} (hc : Conc C.K ρ M H) (r1 : RelQ C.K H0 ρ H q1 v) (r2 : RelQ C.K H0 ρ H q2 w) (h : Wh C W σ ρ H P (m1Q m q1 q2 M)) : rM1 m v [w] H P := by
  unfold m1Q at h
  split at h
  · split at h
    · rename_i xs hM
      obtain ⟨a, vs, rfl, hn, ha, ra⟩ := ref_ok hc r1 hM
      cases m with
      | append =>
        dsimp only at h
        split at h
        · split at h
          · rename_i hl
            exact ⟨a, vs, w, rfl, rfl, ha, by rw [← ra.length]; exact lim_lt hl, wh_wr (d := .non) hc hM hn ha (ra.append (RelDs.one r2)) rfl h⟩
          · exact h.elim
        · exact h.elim
      | extend =>
        dsimp only at h
        split at h
        · rename_i ys e
          split at h
          · rename_i hl
            obtain ⟨b, ws, rfl, hb, rb⟩ := lst_ok hc r2 e
            exact ⟨a, b, vs, ws, rfl, rfl, ha, hb, by rw [← ra.length, ← rb.length]; exact lim_le hl, wh_wr (d := .non) hc hM hn ha (ra.append rb) rfl h⟩
          · exact h.elim
        · exact h.elim
      | pop =>
        dsimp only at h
        split at h
        · rename_i i
          split at h
          · rename_i k e
            split at h
            · rename_i d hd
              split at h
              · rename_i hz
                obtain ⟨y, h1, h2⟩ := ra.get hd
                have e' : ixN vs.length i = some k := by rw [ixNat_eq, ← ra.length]; exact e
                obtain ⟨s1, s2, s3, s4⟩ := ixN_seq e'
                have hz1 := lim_le hz
                rw [ra.length] at hz1
                have hz2 : (vs.length : Int) < 2 ^ 63 := by rw [sizeLine_eq] at hz1; omega
                exact ⟨a, vs, i, k, y, rfl, congrArg (fun z => [z]) (show w = _ from r2), ha, by omega, by omega, s1, h1, wh_wr hc hM hn ha (ra.eraseIdx k) h2 h⟩
              · exact h.elim
            · exact h.elim
          · exact h.elim
        · exact h.elim
    · exact h.elim
  · exact h.elim
def rIx (K : PySem.W.Frag) : R2 := rOr (rIxL K) (rOr (rIxT K) rIxS)
theorem ix_ok {q1 q2 : Q} {v w : V} (hc : Conc C.K ρ M H) (r1 : RelQ C.K H0 ρ H q1 v) (r2 : RelQ C.K H0 ρ H q2 w) (h : Wh C W σ ρ H P (ixQ q1 q2 M)) : rIx C.K v w H P := by
  unfold ixQ at h
  split at h
  · rename_i i
    split at h
    · rename_i z
      split at h
      · rename_i k e
        split at h
        · rename_i c hk
          split at h
          · rename_i hl
            exact .inr (.inr ⟨z, i, c, r1, r2, lim_le hl, by unfold atI; rw [ixNat_eq, e]; exact hk, wh_v hc h rfl⟩)
          · exact h.elim
        · exact h.elim
      · exact h.elim
    · split at h
      · rename_i xs ei
        split at h
        · rename_i k e
          split at h
          · rename_i d hd
            obtain ⟨a, vs, rfl, hs, ra, _, _⟩ := items_ok hc r1 ei
            obtain ⟨y, h1, h2⟩ := ra.get hd
            have ey : atI vs i = some y := by unfold atI; rw [ixNat_eq, ← ra.length, e]; exact h1
            rcases hs with hs | hs
            · exact .inl ⟨a, vs, i, y, rfl, r2, hs, ey, wh_v hc h h2⟩
            · exact .inr (.inl ⟨a, vs, i, y, rfl, r2, hs, ey, wh_v hc h h2⟩)
          · exact h.elim
        · exact h.elim
      · exact h.elim
  · exact h.elim
theorem RelDs.cut {K : PySem.W.Frag} {ρ : Rho} {H : Hp} {ds : List D} {vs : List V} (h : RelDs K ρ H ds vs) (lo hi : Option Int) : RelDs K ρ H (cut ds lo hi) (cutV vs lo hi) := by
  unfold Tri.cut cutV
  rw [sIx_eq, sIx_eq, ← h.length]
  exact (h.drop _).take _
def rSl (K : PySem.W.Frag) : V → Option Int → Option Int → Hp → VK → Prop := fun x lo hi H P => rSlL K x lo hi H P ∨ rSlA K x lo hi H P ∨ rSlS x lo hi H P
theorem sl_any {X : Cx} : SlR X (rSl X.K) := by
  intro pins s σ H x v vl vu lo hi sl Q I rx hs pl pu h
  rcases h with h | h | h
  · exact sl_list pins s σ H x v vl vu lo hi sl Q I rx hs pl pu h
  · exact sl_tupA pins s σ H x v vl vu lo hi sl Q I rx hs pl pu h
  · exact sl_str pins s σ H x v vl vu lo hi sl Q I rx hs pl pu h
theorem sl_ok {q : Q} {v : V} {lo hi : Option Int} (hc : Conc C.K ρ M H) (r : RelQ C.K H0 ρ H q v) (h : Wh C W σ ρ H P (slQ q lo hi M)) : rSl C.K v lo hi H P := by
  unfold slQ at h
  split at h
  · split at h
    · rename_i s hl
      refine .inr (.inr ⟨s, r, lim_le hl, ?_⟩)
      have e : cutS s lo hi = ⟨(cut s.cps.toList lo hi).toArray⟩ := by
        unfold cutS cut
        rw [sIx_eq, sIx_eq]
        rfl
      rw [e]
      exact wh_v hc h rfl
    · exact h.elim
  · rename_i xs
    obtain ⟨a, vs, rfl, ha, ra⟩ := r
    refine .inr (.inl ⟨a, vs, rfl, SqT.of ha, fun hw => ?_, fun _ => wh_tup hc h (ra.cut lo hi)⟩)
    refine wh_v hc h ⟨a, vs, rfl, ha, ?_⟩
    have e : cut xs lo hi = xs := by
      unfold cut
      obtain ⟨h1, h2⟩ := hw
      rw [sIx_eq] at h1 h2
      rw [ra.length, h1, h2, ← ra.length]
      simp
    rw [e]
    exact ra
  · rename_i n1 n2
    split at h
    · rename_i xs e
      obtain ⟨a, vs, rfl, hs, ra, _, hl⟩ := items_ok hc r e
      refine .inl ⟨a, vs, rfl, hl (fun ys z => by
        subst z
        first | exact n2 ys r rfl | exact n2 ys rfl | exact n2 ys r | exact n1 ys r | exact n1 ys rfl), wh_tmp hc h (ra.cut lo hi)⟩
    · exact h.elim
end
end Tri

set_option Elab.async false
set_option linter.all false
set_option maxRecDepth 100000
namespace Tri
open PySem PySem.Spec PyProof.Rows L2

/-! ### side conditions of plain expressions -/
def plain : Expr → Bool
  | .Starred .. => false
  | .Set .. => false
  | .SetComp .. => false
  | _ => true
theorem star_plain {e : Expr} (h : plain e = true) (es : List Expr) (env : Env) : starEach (e :: es) env = (false, eval e env) :: starEach es env := by
  cases e <;> first | rfl | (exact Bool.noConfusion h)
theorem back_plain : ∀ {es : List Expr} (env : Env) (pos : Pos), (∀ e ∈ es, plain e = true) → (backTo pos (starEach es env)).any (·.1) = false
  | [], _, _, _ => rfl
  | e :: es, env, pos, h => by
    rw [star_plain (h e List.mem_cons_self)]
    show (false || (backTo pos (starEach es env)).any (·.1)) = false
    rw [back_plain env pos fun x hx => h x (List.mem_cons_of_mem _ hx)]
    rfl
theorem few_plain {es : List Expr} (env : Env) (pos : Pos) : (∀ e ∈ es, plain e = true) → ((backTo pos (starEach es env)).all (fun x => !x.1)) = true := by
  induction es with
  | nil => intro _; rfl
  | cons e es ih =>
    intro h
    rw [star_plain (h e List.mem_cons_self)]
    show (!false && (backTo pos (starEach es env)).all (fun x => !x.1)) = true
    rw [ih fun x hx => h x (List.mem_cons_of_mem _ hx)]
    rfl
theorem fold_plain {e : Expr} (h : plain e = true) (env : Env) (x : Value) : foldedSetIterable e env x = pure x := by
  cases e <;> first | rfl | (exact Bool.noConfusion h)
theorem mark_plain {e : Expr} (h : plain e = true) (op : CmpOp) : behindInMarks op e = false := by
  cases e <;> first | rfl | (exact Bool.noConfusion h)
theorem base_recv {e : Expr} (h : recv e = true) (f : Str) (env : Env) (w : Sem Value) : attributeBase e f env w = w := by
  cases e <;> first | rfl | (exact Bool.noConfusion h)
theorem mark2 {o1 o2 : CmpOp} {b d : Expr} (h : plain d = true) : lastMarks [o1, o2] [b, d] = false := by
  show behindInMarks o2 d = false
  exact mark_plain h o2
theorem ix_plain {e : Expr} (h : plain e = true) (hs : ∀ a b c p, e ≠ .Slice a b c p) : PlainIx e := fun o i => by
  cases e <;> first | rfl | (rename_i x y z p; exact absurd rfl (hs _ _ _ _))
/-- a test that is asked by its value -/
def notB : Expr → Bool
  | .UnaryOp .Not _ _ => false
  | .BoolOp .. => false
  | .IfExp .. => false
  | .Compare .. => false
  | _ => true
theorem true_plain {e : Expr} {env : Env} (h : notB e = true) (w : Sem Value) : isTrue e env w = (do let v ← w; standAt e.pos; holding [v] (truthy v)) := by
  cases e with
  | UnaryOp op a p => cases op <;> first | rfl | (exact Bool.noConfusion h)
  | _ => first | rfl | (exact Bool.noConfusion h)
theorem CallR.or {X : Cx} {f : Value} {r r' : List V → Hp → VK → Prop} (h : CallR X f r) (h' : CallR X f r') : CallR X f (fun xs H P => r xs H P ∨ r' xs H P) := by
  intro pins s σ H xs us Q I rx q
  rcases q with q | q
  · exact h pins s σ H xs us Q I rx q
  · exact h' pins s σ H xs us Q I rx q
section
variable {X : Cx} {a b : Expr} {ta tb : TE} {p pos : Pos}
theorem pa1 (ha : PE X a ta) (ea : plain a = true) : PA X [a] (tCons ta tNil) := pa_cons ha pa_nil (star_plain ea _ _)
theorem pa2 (ha : PE X a ta) (hb : PE X b tb) (ea : plain a = true) (eb : plain b = true) : PA X [a, b] (tCons ta (tCons tb tNil)) := pa_cons ha (pa1 hb eb) (star_plain ea _ _)
theorem pe_b1 (hc : X.calm = true) (f : B1) (hg : Gl X (b1Name f)) (hm : X.mg (b1Name f) = none) (ha : PE X a ta) (ea : plain a = true) : PE X (.Call (.Name (b1Name f) p) [a] [] pos) (tCB (rB1 X.K f) (tCons ta tNil)) := by
  cases f with
  | len => exact pe_callB (CallR.or (r := fun xs H P => ∃ z, xs = [.str z] ∧ z.length ≤ sizeLine ∧ P (.int z.length) H) (by
      intro pins s σ H xs us Q I r h
      obtain ⟨z, rfl, hz, q⟩ := h
      exact call_len pins s σ H _ us Q I r ⟨.str z, z.length, rfl, ⟨hz, rfl⟩, q⟩) call_len_seq) hg hm PySem.boot_len (pa1 ha ea) (by decide) (by decide) (star_plain ea _ _) rfl
  | int => exact pe_callTy call_int1 hg hm (by decide +kernel) (pa1 ha ea) (by decide) (by decide) (star_plain ea _ _) rfl
  | abs => exact pe_callB call_abs hg hm (by decide +kernel) (pa1 ha ea) (by decide) (by decide) (star_plain ea _ _) rfl
  | str => exact pe_callTy call_str_int hg hm (by decide +kernel) (pa1 ha ea) (by decide) (by decide) (star_plain ea _ _) rfl
  | sum => exact pe_callB (sum_t hc) hg hm (by decide +kernel) (pa1 ha ea) (by decide) (by decide) (star_plain ea _ _) rfl
  | all => exact pe_callB (all_t hc) hg hm (by decide +kernel) (pa1 ha ea) (by decide) (by decide) (star_plain ea _ _) rfl
  | any => exact pe_callB (any_t hc) hg hm (by decide +kernel) (pa1 ha ea) (by decide) (by decide) (star_plain ea _ _) rfl
  | sorted => exact pe_callB sorted_t hg hm (by decide +kernel) (pa1 ha ea) (by decide) (by decide) (star_plain ea _ _) rfl
  | tuple => exact pe_callTy call_tuple_of hg hm (by decide +kernel) (pa1 ha ea) (by decide) (by decide) (star_plain ea _ _) rfl
  | list => exact pe_callTy call_list_of hg hm (by decide +kernel) (pa1 ha ea) (by decide) (by decide) (star_plain ea _ _) rfl
  | max => exact pe_callB (max_t hc) hg hm (by decide +kernel) (pa1 ha ea) (by decide) (by decide) (star_plain ea _ _) rfl
  | min => exact pe_callB (min_t hc) hg hm (by decide +kernel) (pa1 ha ea) (by decide) (by decide) (star_plain ea _ _) rfl
theorem pe_b2 (hc : X.calm = true) (f : B2) (hg : Gl X (b2Name f)) (hm : X.mg (b2Name f) = none) (ha : PE X a ta) (hb : PE X b tb) (ea : plain a = true) (eb : plain b = true) : PE X (.Call (.Name (b2Name f) p) [a, b] [] pos) (tCB (rB2 f) (tCons ta (tCons tb tNil))) := by
  cases f with
  | max => exact pe_callB (call_max2 hc) hg hm (by decide +kernel) (pa2 ha hb ea eb) (by decide) (by decide) (star_plain ea _ _) (back_plain _ _ (by simpa using eb))
  | min => exact pe_callB (call_min2 hc) hg hm (by decide +kernel) (pa2 ha hb ea eb) (by decide) (by decide) (star_plain ea _ _) (back_plain _ _ (by simpa using eb))
theorem pe_m0 {ap cp : Pos} (m : M0) (ha : PE X a ta) (hr : recv a = true) (hl : (ap.endLine == cp.line) = true) : PE X (.Call (.Attribute a (m0Name m) ap) [] [] cp) (tBM0 X.K "list" (rM0 m) ta) := by
  cases m with
  | pop => exact pe_bm0 PySem.F.plainAttrs_list PySem.F.slot_list_pop PySem.F.type_list_pop mt_pop ha (base_recv hr _ _ _) hl
theorem few1 (eb : plain b = true) (env : Env) (cp : Pos) : ((backTo cp (starEach [b] env)).all (fun x => !x.1) && (backToKw cp (keywordEach [] env)).all (fun x => x.1.isSome)
      && decide ([b].length + ([] : List Keyword).length + (if ([] : List Keyword).isEmpty then 0 else 1) < 30)) = true := by
  rw [few_plain env cp (by simpa using eb)]; rfl
theorem pe_m1 {ap cp : Pos} (m : M1) (ha : PE X a ta) (hb : PE X b tb) (hr : recv a = true) (eb : plain b = true) (hl : (ap.endLine == cp.line) = true) : PE X (.Call (.Attribute a (m1Name m) ap) [b] [] cp) (tBM X.K "list" (rM1 m) ta (tCons tb tNil)) := by
  cases m with
  | append => exact pe_bm PySem.F.plainAttrs_list PySem.F.slot_list_append PySem.F.type_list_append mt_append ha (pa1 hb eb) (base_recv hr _ _ _) (few1 eb _ _) hl (star_plain eb _ _) rfl
  | extend => exact pe_bm PySem.F.plainAttrs_list PySem.F.slot_list_extend PySem.F.type_list_extend mt_extend ha (pa1 hb eb) (base_recv hr _ _ _) (few1 eb _ _) hl (star_plain eb _ _) rfl
  | pop => exact pe_bm PySem.F.plainAttrs_list PySem.F.slot_list_pop PySem.F.type_list_pop mt_popAt ha (pa1 hb eb) (base_recv hr _ _ _) (few1 eb _ _) hl (star_plain eb _ _) rfl
theorem ix_any : IxR X (rIx X.K) := by
  intro value slice pins s σ H x y v u Q I rx ry h hs
  rcases h with h | h | h
  · exact ix_list value slice pins s σ H x y v u Q I rx ry h hs
  · exact ix_tup value slice pins s σ H x y v u Q I rx ry h hs
  · exact ix_str value slice pins s σ H x y v u Q I rx ry h hs
theorem pe_isi {q : Pos} (t : Ty) (ht : t ≠ .none) (hg : Gl X "isinstance") (hm : X.mg "isinstance" = none) (hg2 : Gl X (tyName t)) (hm2 : X.mg (tyName t) = none) (ha : PE X a ta) (ea : plain a = true) :
    PE X (.Call (.Name "isinstance" p) [a, .Name (tyName t) q] [] pos) (tCB (rIsi X.K) (tCons ta (tCons (tC (.ty (tyStr t))) tNil))) := by
  have hn : PE X (.Name (tyName t) q) (tC (.ty (tyStr t))) := by
    cases t with
    | none => exact absurd rfl ht
    | int => exact pe_bltn hg2 hm2 (u := .type "int") (by decide +kernel) rfl (by decide) (by decide)
    | bool => exact pe_bltn hg2 hm2 (u := .type "bool") (by decide +kernel) rfl (by decide) (by decide)
    | str => exact pe_bltn hg2 hm2 (u := .type "str") (by decide +kernel) rfl (by decide) (by decide)
    | tuple => exact pe_bltn hg2 hm2 (u := .type "tuple") (by decide +kernel) rfl (by decide) (by decide)
    | list => exact pe_bltn hg2 hm2 (u := .type "list") (by decide +kernel) rfl (by decide) (by decide)
  exact pe_callB call_isi hg hm (by decide +kernel) (pa2 ha hn ea rfl) (by decide) (by decide) (star_plain ea _ _) rfl
end
end Tri

set_option Elab.async false
set_option linter.all false
set_option maxRecDepth 100000
namespace Tri
open PySem PySem.Spec PyProof.Rows L2 RZ

/-- the promise of a def: what g, its n arguments as trees, gives -/
def spOf (C : Ct) (n : Nat) (g : List D → Store → R D) : Sp := fun vs H P E => ∃ ρ M ds, Conc C.K ρ M H ∧ RelDs C.K ρ H ds vs ∧ ds.length = n ∧
  (g ds M).sat (PostD C.K ρ H P) (fun c fs M' => ∀ ρ' H' cls d, Step ρ H ρ' H' → Conc C.K ρ' M' H' → C.xr c fs ρ' H' cls d → E cls d H')
/-- how a call with keywords binds -/
def KwB (K : PySem.W.Frag) (fd : FuncData) (ps : List Str) (n : Nat) (ks : List Str) (perm : List Nat) : Prop := ∀ (s : Shared) (us ws : List Value), K.In s.heap → us.length = n → ws.length = ks.length → BindsTo s fd ⟨us, ks.zip ws⟩ (ps.zip (permD perm (us ++ ws)))
structure Cok (c : Cfg) (C : Ct) (W : WX) (G : Gam) (X : Cx) : Prop where
  N : X.N = c.N
  nd : X.N.Nodup
  sc : X.env.scope = c.sc
  K : X.K = C.K
  calm : X.calm = true
  fn : ∀ x, c.wc x = true → X.fn x = true
  free : ∀ x, x ∈ c.free → X.mg x = none
  cons : ∀ x i, (x, i) ∈ c.cons → ∃ t, X.mg x = some (.int i t)
  fns : ∀ (f : Nat) x ps, c.fns[f]? = some (x, ps) → ∃ g a fd k, G[f]? = some g ∧ X.mg x = some (.ref a) ∧ PySem.W.keepIn X.K (.ref a) = true ∧ Binds X.K fd ps [] ∧ (∀ l n ks perm, c.kws[f]? = some l → (n, ks, perm) ∈ l → KwB X.K fd ps n ks perm) ∧ FnOk X.prog X.w X.K X.mg X.base (L2.CX X.prog X.w) k a fd ps (spOf C ps.length g) ∧ Room k X.A
  tk : Takes X W
  units : X.A.units + 64 < cLine
section
variable {c : Cfg} {C : Ct} {W : WX} {G : Gam} {X : Cx}
theorem Cok.gl (k : Cok c C W G X) {x : Str} (h : c.gl x = true) : Gl X x := by
  unfold Cfg.gl at h
  unfold Gl Env.kindOf
  rw [k.sc]
  exact beq_iff_eq.mp h
theorem Cok.bi (k : Cok c C W G X) {x : Str} (h : c.bi x = true) : Gl X x ∧ X.mg x = none := by
  unfold Cfg.bi at h
  obtain ⟨h1, h2⟩ := Bool.and_eq_true_iff.mp h
  exact ⟨k.gl h1, k.free x (List.contains_iff_mem.mp h2)⟩
theorem Cok.vis (k : Cok c C W G X) {i : Nat} {x : Str} (h : c.vis i x = true) : X.N[i]? = some x ∧ Vis X.env.scope x ∧ (x == ("__debug__" : Str)) = false ∧ (x == ("__classdict__" : Str)) = false := by
  unfold Cfg.vis at h
  simp only [Bool.and_eq_true, Bool.or_eq_true, Bool.not_eq_true', beq_iff_eq] at h
  obtain ⟨⟨⟨h1, h2⟩, h3⟩, h4⟩ := h
  refine ⟨by rw [k.N]; exact h1, ?_, h3, h4⟩
  unfold Vis
  rw [k.sc]
  rcases h2 with (h | h) | h
  · exact .inl h
  · exact .inr (.inl h)
  · exact .inr (.inr h)
theorem Cok.loc (k : Cok c C W G X) {i : Nat} {x : Str} (h : c.loc i x = true) : X.N[i]? = some x ∧ L2.Loc X.env.scope x ∧ (X.fn x = true ∨ X.env.scope.names.lookup x = some .local) := by
  unfold Cfg.loc at h
  simp only [Bool.and_eq_true, Bool.or_eq_true, beq_iff_eq] at h
  obtain ⟨h1, h2⟩ := h
  refine ⟨by rw [k.N]; exact h1, ?_, ?_⟩
  · unfold L2.Loc
    rw [k.sc]
    exact h2.imp id fun z => z.1
  · rcases h2 with h | h
    · exact .inr (by rw [k.sc]; exact h)
    · exact .inl (k.fn x h.2)
/-- a comprehension's block -/
theorem Cok.blk (k : Cok c C W G X) (scope : Scope) (s : Shared) (H : Hp) (a : Addr) (cl : List (Str × Addr)) (fp : List Addr) : Cok (c.at_ scope) C (fun _ _ _ _ => False) G (X.blk s H scope (compEnvC scope cl a X.env) fp) where
  N := k.N
  nd := k.nd
  sc := by
    show relS scope X.env.scope = relS scope c.sc
    rw [k.sc]
  K := k.K
  calm := k.calm
  fn := fun x h => h
  free := k.free
  cons := k.cons
  fns := k.fns
  tk := takes0
  units := k.units
end
/-! ### what a loop walks -/
/-- J walks s: at a turn at which the interpreter has an item, it gives that item -/
structure WalkD (K : PySem.W.Frag) (ρ0 : Rho) (H0 : Hp) (s : Src) (J : L2.It) : Prop where
  go : ∀ i ρ M H d x, Step ρ0 H0 ρ H → Conc K ρ M H → s.xs[i]? = some x → pick s.live s.xs.length i x M = some d → J.go i H ∧ ∀ v H', J.yld i H v H' → Step ρ H ρ H' ∧ Conc K ρ M H' ∧ RelD K ρ H' d v
  stop : ∀ ρ M H, Step ρ0 H0 ρ H → Conc K ρ M H → endOk s.live s.xs.length M = true → J.stop s.xs.length H
def tIt (C : Ct) (W : WX) (f : Sl → Store → R Src) : TI := fun σ H R => ∃ ρ τ M, Conc C.K ρ M H ∧ Slots C.K ρ H τ σ ∧ (f τ M).sat (fun s M1 => ∀ ρ1 H1 J, Step ρ H ρ1 H1 → Conc C.K ρ1 M1 H1 → WalkD C.K ρ1 H1 s J → R J H1) (XW C W ρ H σ)
section
variable {K : PySem.W.Frag} {ρ : Rho} {M : Store} {H : Hp}
/-- a list that the store does not know, or that never changes -/
theorem walk_fix {xs : List D} {a : Addr} {vs : List V} (hl : ∀ ρ' H', Step ρ H ρ' H' → SqL K H' a vs) (r : RelDs K ρ H xs vs) : WalkD K ρ H ⟨none, xs⟩ (Itl K a) where
  go := fun i ρ' M' H' d x st c' ex ep => by
    cases Option.some.inj ep
    have h' := hl ρ' H' st
    have r' := RelDs.mono st.mono _ _ r
    obtain ⟨y, h1, h2⟩ := r'.get ex
    refine ⟨⟨vs, y, h', h1⟩, fun w H'' hy => ?_⟩
    obtain ⟨rfl, hy⟩ := hy
    have := hy vs h'
    rw [h1] at this
    cases this
    exact ⟨Step.refl _ _, c', h2⟩
  stop := fun ρ' M' H' st c' _ => ⟨vs, hl ρ' H' st, by rw [← r.length]; exact Nat.le_refl _⟩
theorem walk_fixT {xs : List D} {a : Addr} {vs : List V} (hl : SqT K H a vs) (r : RelDs K ρ H xs vs) : WalkD K ρ H ⟨none, xs⟩ (Itt K a) where
  go := fun i ρ' M' H' d x st c' ex ep => by
    cases Option.some.inj ep
    have h' := st.mono.sqT hl
    have r' := RelDs.mono st.mono _ _ r
    obtain ⟨y, h1, h2⟩ := r'.get ex
    refine ⟨⟨vs, y, h', h1⟩, fun w H'' hy => ?_⟩
    obtain ⟨rfl, hy⟩ := hy
    have := hy vs h'
    rw [h1] at this
    cases this
    exact ⟨Step.refl _ _, c', h2⟩
  stop := fun ρ' M' H' st c' _ => ⟨vs, st.mono.sqT hl, by rw [← r.length]; exact Nat.le_refl _⟩
theorem walk_live {n : Nat} {a : Addr} {xs : List D} (hn : ρ n = some a) (hk : IsKd H a 1) : WalkD K ρ H ⟨some n, xs⟩ (Itl K a) where
  go := fun i ρ' M' H' d x st c' ex ep => by
    unfold pick at ep
    dsimp only at ep
    cases hm : M'[n]? with
    | none => rw [hm] at ep; cases ep
    | some o =>
      cases o with
      | lst ys =>
        rw [hm] at ep
        dsimp only at ep
        split at ep
        · obtain ⟨b, h1, ho⟩ := c'.obj n _ hm
          rw [st.le n a hn] at h1
          cases h1
          obtain ⟨vs, h2, h3⟩ := ho.lst (st.knd a 1 (by decide) hk)
          obtain ⟨y, g1, g2⟩ := h3.get ep
          refine ⟨⟨vs, y, SqL.of h2, g1⟩, fun w H'' hy => ?_⟩
          obtain ⟨rfl, hy⟩ := hy
          have := hy vs (SqL.of h2)
          rw [g1] at this
          cases this
          exact ⟨Step.refl _ _, c', g2⟩
        · cases ep
  stop := fun ρ' M' H' st c' he => by
    unfold endOk at he
    dsimp only at he
    cases hm : M'[n]? with
    | none => rw [hm] at he; cases he
    | some o =>
      cases o with
      | lst ys =>
        rw [hm] at he
        dsimp only at he
        obtain ⟨b, h1, ho⟩ := c'.obj n _ hm
        rw [st.le n a hn] at h1
        cases h1
        obtain ⟨vs, h2, h3⟩ := ho.lst (st.knd a 1 (by decide) hk)
        refine ⟨vs, SqL.of h2, ?_⟩
        rw [← h3.length]
        have := beq_iff_eq.mp he
        show ys.length ≤ xs.length
        omega
theorem rng_get {lo hi : Int} {i : Nat} {x : D} (h : (rng lo hi)[i]? = some x) : i < (hi - lo).toNat ∧ x = .int (lo + (i : Int)) := by
  unfold rng at h
  rw [List.getElem?_map] at h
  cases e : (List.range (hi - lo).toNat)[i]? with
  | none => rw [e] at h; cases h
  | some k =>
    rw [e] at h
    have l := (List.getElem?_eq_some_iff.mp e)
    obtain ⟨l1, l2⟩ := l
    rw [List.getElem_range] at l2
    rw [List.length_range] at l1
    subst l2
    cases h
    exact ⟨l1, rfl⟩
theorem rng_length (lo hi : Int) : (rng lo hi).length = (hi - lo).toNat := by unfold rng; rw [List.length_map, List.length_range]
theorem walk_rng {lo hi : Int} : WalkD K ρ H ⟨none, rng lo hi⟩ (Itr lo (hi - lo).toNat) where
  go := fun i ρ' M' H' d x st c' ex ep => by
    cases Option.some.inj ep
    obtain ⟨h1, h2⟩ := rng_get ex
    refine ⟨h1, fun w H'' hy => ?_⟩
    obtain ⟨rfl, rfl⟩ := hy
    subst h2
    exact ⟨Step.refl _ _, c', rfl⟩
  stop := fun ρ' M' H' st c' _ => by
    show (hi - lo).toNat ≤ (rng lo hi).length
    rw [rng_length]
    exact Nat.le_refl _
theorem enum_get : ∀ {xs : List D} {i k : Nat} {y : D}, (enumD k xs)[i]? = some y → ∃ x, xs[i]? = some x ∧ y = .tup [.int ((k + i : Nat) : Int), x]
  | [], i, k, y, h => by simp [enumD] at h
  | x :: xs, 0, k, y, h => by
    simp [enumD] at h
    exact ⟨x, rfl, h.symm⟩
  | x :: xs, i + 1, k, y, h => by
    have h' : (enumD (k + 1) xs)[i]? = some y := by simpa [enumD] using h
    obtain ⟨z, h1, h2⟩ := enum_get h'
    refine ⟨z, by simpa using h1, ?_⟩
    rw [h2, show k + 1 + i = k + (i + 1) by omega]
theorem enum_length : ∀ (xs : List D) (k : Nat), (enumD k xs).length = xs.length
  | [], _ => rfl
  | x :: xs, k => by simp [enumD, enum_length xs]
theorem pair_ok {c : Conc K ρ M H} {x y : D} {v w : V} {T : Addr} (hT : H T = none) (r1 : RelD K ρ H x v) (r2 : RelD K ρ H y w) : Step ρ H ρ (upd H T (.tup [v, w])) ∧ Conc K ρ M (upd H T (.tup [v, w])) ∧ RelD K ρ (upd H T (.tup [v, w])) (.tup [x, y]) (.ref T) := by
  have st : Step ρ H ρ (upd H T (.tup [v, w])) := Step.laid hT
  exact ⟨st, c.laid hT, T, [v, w], rfl, upd_same, v, [w], rfl, RelD.mono st.mono _ _ r1, w, [], rfl, RelD.mono st.mono _ _ r2, rfl⟩
theorem walk_en {xs : List D} {a : Addr} {vs : List V} (hl : ∀ ρ' H', Step ρ H ρ' H' → SqL K H' a vs) (r : RelDs K ρ H xs vs) : WalkD K ρ H ⟨none, enumD 0 xs⟩ (Ite K a) where
  go := fun i ρ' M' H' d x st c' ex ep => by
    cases Option.some.inj ep
    obtain ⟨z, h1, h2⟩ := enum_get ex
    subst h2
    have h' := hl ρ' H' st
    have r' := RelDs.mono st.mono _ _ r
    obtain ⟨y, g1, g2⟩ := r'.get h1
    refine ⟨⟨vs, y, h', g1⟩, fun w H'' hy => ?_⟩
    obtain ⟨T, u, rfl, hT, rfl, hy⟩ := hy
    have := hy vs h'
    rw [g1] at this
    cases this
    rw [show 0 + i = i by omega]
    exact pair_ok (c := c') hT (show RelD K ρ' H' (.int (i : Int)) (.int (i : Int)) from rfl) g2
  stop := fun ρ' M' H' st c' _ => ⟨vs, hl ρ' H' st, by
    show vs.length ≤ (enumD 0 xs).length
    rw [enum_length, r.length]
    exact Nat.le_refl _⟩
theorem zip_get : ∀ {xs ys : List D} {i : Nat} {z : D}, (zipD xs ys)[i]? = some z → ∃ x y, xs[i]? = some x ∧ ys[i]? = some y ∧ z = .tup [x, y]
  | [], ys, i, z, h => by simp [zipD] at h
  | x :: xs, [], i, z, h => by simp [zipD] at h
  | x :: xs, y :: ys, 0, z, h => by
    simp [zipD] at h
    exact ⟨x, y, rfl, rfl, h.symm⟩
  | x :: xs, y :: ys, i + 1, z, h => by
    have h' : (zipD xs ys)[i]? = some z := by simpa [zipD] using h
    obtain ⟨p, q, h1, h2, h3⟩ := zip_get h'
    exact ⟨p, q, by simpa using h1, by simpa using h2, h3⟩
theorem zip_length : ∀ (xs ys : List D), (zipD xs ys).length = min xs.length ys.length
  | [], ys => by simp [zipD]
  | x :: xs, [] => by simp [zipD]
  | x :: xs, y :: ys => by simp [zipD, zip_length xs ys]
theorem walk_zp {xs ys : List D} {a b : Addr} {vs ws : List V} (h1 : SqT K H a vs) (h2 : SqT K H b ws) (r1 : RelDs K ρ H xs vs) (r2 : RelDs K ρ H ys ws) : WalkD K ρ H ⟨none, zipD xs ys⟩ (ItzT K a b) where
  go := fun i ρ' M' H' d x st c' ex ep => by
    cases Option.some.inj ep
    obtain ⟨p, q, g1, g2, rfl⟩ := zip_get ex
    have s1 := st.mono.sqT h1
    have s2 := st.mono.sqT h2
    obtain ⟨v, e1, q1⟩ := (RelDs.mono st.mono _ _ r1).get g1
    obtain ⟨w, e2, q2⟩ := (RelDs.mono st.mono _ _ r2).get g2
    refine ⟨⟨vs, ws, v, w, s1, s2, e1, e2⟩, fun u H'' hy => ?_⟩
    obtain ⟨T, v', w', rfl, hT, rfl, f1, f2⟩ := hy
    have a1 := f1 vs s1
    have a2 := f2 ws s2
    rw [e1] at a1
    rw [e2] at a2
    cases a1
    cases a2
    exact pair_ok (c := c') hT q1 q2
  stop := fun ρ' M' H' st c' _ => ⟨vs, ws, st.mono.sqT h1, st.mono.sqT h2, by
    show vs.length ≤ (zipD xs ys).length ∨ ws.length ≤ (zipD xs ys).length
    rw [zip_length, r1.length, r2.length]
    omega⟩
end
/-- a list or a tuple, whichever it is -/
def iSeq (K : PySem.W.Frag) (tl : TE) : TI := fun σ H R => tl σ H fun x H1 => ∃ a, x = .ref a ∧ (((∃ xs, SqL K H1 a xs) ∧ R (Itl K a) H1) ∨ ((∃ xs, SqT K H1 a xs) ∧ R (Itt K a) H1))
theorem pi_seq {X : Cx} {tg l : Expr} {tl : TE} (hl : PE X l tl) : PI X tg l (iSeq X.K tl) := by
  refine ⟨fun pins s σ H R I h => ?_⟩
  refine thn (hl.run pins s σ H _ I h) fun v s1 ⟨x, H1, I1, r1, q1⟩ => ?_
  obtain ⟨a, e, q⟩ := q1
  subst e
  cases r1
  rcases q with ⟨⟨xs, hq⟩, q⟩ | ⟨⟨xs, hq⟩, q⟩
  · obtain ⟨its, rv, p, hz⟩ := I1.list hq
    refine wpAny_pyIter_list p.isList ?_
    refine ⟨s1.heap.objs.size, [s1.heap.objs.size], _, _, H1, rfl, I1.kept (t' := s1.toks) fun b o e => Heap.get?_push_of_some _ e, turn_list a _, ⟨_, Heap.get?_push_size _ rfl, rfl, rfl⟩, fun b hb => ?_, q⟩
    have e : b = s1.heap.objs.size := by simpa using hb
    subst e
    exact I1.fpOk (Nat.le_refl _) (I1.hok.fresh (Nat.le_refl _))
  · obtain ⟨its, rv, p, hz⟩ := I1.tuple hq
    refine wpAny_pyIter_tuple (show s1.heap.IsTuple a its.toArray from p) ?_
    refine ⟨s1.heap.objs.size, [s1.heap.objs.size], _, _, H1, rfl, I1.kept (t' := s1.toks) fun b o e => Heap.get?_push_of_some _ e, turn_tuple a _, ⟨_, Heap.get?_push_size _ rfl, rfl, rfl⟩, fun b hb => ?_, q⟩
    have e : b = s1.heap.objs.size := by simpa using hb
    subst e
    exact I1.fpOk (Nat.le_refl _) (I1.hok.fresh (Nat.le_refl _))
theorem PI.imp {X : Cx} {tg e : Expr} {t t' : TI} (h : PI X tg e t) (w : ∀ σ H R, t' σ H R → t σ H R) : PI X tg e t' := ⟨fun pins s σ H R I q => h.run pins s σ H R I (w σ H R q)⟩
theorem PG.imp {X : Cx} {tg : Expr} {t t' : TG} (h : PG X tg t) (w : ∀ v σ H R, t' v σ H R → t v σ H R) : PG X tg t' := ⟨fun pins s σ H v u R I r q => h.run pins s σ H v u R I r (w v σ H R q)⟩
/-! ### targets -/
def gT (C : Ct) (t : Tg) : TG := fun v σ H R => ∃ ρ τ M d τ1, Conc C.K ρ M H ∧ Slots C.K ρ H τ σ ∧ RelD C.K ρ H d v ∧ asgT t d τ = some τ1 ∧ ∀ σ', Slots C.K ρ H τ1 σ' → (∀ vs : List Nat, (∀ i, i ∈ t.ns → i ∈ vs) → wipe σ' vs = wipe σ vs) → R σ' H
def gTs (C : Ct) (ts : List Tg) : TGs := fun vs σ H R => ∃ ρ τ M ds τ1, Conc C.K ρ M H ∧ Slots C.K ρ H τ σ ∧ RelDs C.K ρ H ds vs ∧ asgTs ts ds τ = some τ1 ∧ ∀ σ', Slots C.K ρ H τ1 σ' → (∀ ws : List Nat, (∀ i, i ∈ tgNs ts → i ∈ ws) → wipe σ' ws = wipe σ ws) → R σ' H
theorem wipe_set {σ : L2.St} {i : Nat} {x : Option V} : ∀ {vs : List Nat}, i ∈ vs → wipe (σ.set i x) vs = wipe σ vs
  | [], h => by simp at h
  | v :: vs, h => by
    unfold wipe
    by_cases e : i ∈ vs
    · rw [wipe_set e]
    · have hv : i = v := by simpa [e] using h
      subst hv
      have key : ∀ (vs : List Nat) (σ : L2.St), i ∉ vs → (wipe (σ.set i x) vs) = (wipe σ vs).set i x := by
        intro vs
        induction vs with
        | nil => intro σ _; rfl
        | cons w ws ih =>
          intro σ hn
          unfold wipe
          rw [ih σ (fun z => hn (List.mem_cons_of_mem _ z)), List.set_comm _ _ (fun z => hn (by rw [z]; exact List.mem_cons_self))]
      rw [key vs σ e, List.set_set]
section
variable {c : Cfg} {C : Ct} {W : WX} {G : Gam} {X : Cx}
/-- several names, in order -/
def gNs : List Nat → TGs
  | [] => gNil
  | i :: is => gCons (gName i) (gNs is)
theorem names_ok (k : Cok c C W G X) : ∀ (is : List Nat) (es : List Expr), chkNames c is es = true → PGs X es (gNs is) ∧ (assignEach es X.env).length = is.length ∧ (assignEach es X.env).findIdx? (·.1) = none
  | [], [], _ => ⟨pgs_nil, rfl, rfl⟩
  | [], e :: es, h => by cases h
  | i :: is, [], h => by cases h
  | i :: is, e :: es, h => by
    cases e with
    | Name x p =>
      obtain ⟨h1, h2⟩ := Bool.and_eq_true_iff.mp (show (c.loc i x && chkNames c is es) = true from h)
      obtain ⟨a1, a2, a3⟩ := k.loc h1
      obtain ⟨b1, b2, b3⟩ := names_ok k is es h2
      refine ⟨pgs_cons (pg_name k.nd a1 a2 a3) b1 rfl, ?_, ?_⟩
      · show (assignEach es X.env).length + 1 = is.length + 1
        rw [b2]
      · show List.findIdx? (·.1) ((false, assign (.Name x p) X.env) :: assignEach es X.env) = none
        rw [List.findIdx?_cons]
        simp only [Bool.false_eq_true, if_false]
        rw [b3]; rfl
    | _ => cases h
theorem gNs_ok {ρ : Rho} {M : Store} {H : Hp} {R : L2.St → Hp → Prop} : ∀ (is : List Nat) (ds : List D) (vs : List V) (τ τ1 : Sl) (σ : L2.St), Slots C.K ρ H τ σ → RelDs C.K ρ H ds vs → setAll is ds τ = some τ1 →
    (∀ σ', Slots C.K ρ H τ1 σ' → (∀ ws : List Nat, (∀ i, i ∈ is → i ∈ ws) → wipe σ' ws = wipe σ ws) → R σ' H) → gNs is vs σ H R
  | [], [], vs, τ, τ1, σ, hs, r, e, q => ⟨r, by
    cases e
    exact q σ hs fun _ _ => rfl⟩
  | [], d :: ds, vs, τ, τ1, σ, hs, r, e, q => by cases e
  | i :: is, [], vs, τ, τ1, σ, hs, r, e, q => by cases e
  | i :: is, d :: ds, vs, τ, τ1, σ, hs, r, e, q => by
    obtain ⟨v, rest, rfl, h1, h2⟩ := r
    refine ⟨v, rest, rfl, ?_⟩
    show gNs is rest (σ.set i (some v)) H R
    refine gNs_ok (M := M) is ds rest (τ.set i (some d)) τ1 (σ.set i (some v)) (hs.set i h1) h2 e fun σ' hs' hw => q σ' hs' fun ws hi => ?_
    rw [hw ws fun j hj => hi j (List.mem_cons_of_mem _ hj), wipe_set (hi i List.mem_cons_self)]
theorem one_ok (k : Cok c C W G X) (i : Nat) (e : Expr) (h : chkTg c (.name i) e = true) : PG X e (gT C (.name i)) := by
  cases e with
  | Name x p =>
    obtain ⟨a1, a2, a3⟩ := k.loc (show c.loc i x = true by simpa only [chkTg] using h)
    refine PG.imp (pg_name k.nd a1 a2 a3) fun v σ H R q => ?_
    obtain ⟨ρ, τ, M, d, τ1, hc, hs, r, ea, q⟩ := q
    simp only [asgT, Option.some.injEq] at ea
    subst ea
    exact q _ (hs.set i r) fun vs hi => wipe_set (hi i (by simp [Tg.ns]))
  | _ => simp [chkTg] at h
theorem flat_ok (k : Cok c C W G X) (is : List Nat) (e : Expr) (h : chkTg c (.tup is) e = true) : PG X e (gT C (.tup is)) := by
  cases e with
  | Tuple es kk p =>
    obtain ⟨b1, b2, b3⟩ := names_ok k is es (show chkNames c is es = true by simpa only [chkTg] using h)
    refine PG.imp (pg_tup k.calm b1 b2 b3) fun v σ H R q => ?_
    obtain ⟨ρ, τ, M, d, τ1, hc, hs, r, ea, q⟩ := q
    cases d with
    | tup ds =>
      simp only [asgT] at ea
      obtain ⟨a, vs, rfl, ha, ra⟩ := r
      have hl : ∀ (is : List Nat) (ds : List D) (τ : Sl), setAll is ds τ = some τ1 → ds.length = is.length := by
        intro is
        induction is with
        | nil => intro ds τ e; cases ds with
          | nil => rfl
          | cons => cases e
        | cons i is ih => intro ds τ e; cases ds with
          | nil => cases e
          | cons d ds => simp only [List.length_cons]; rw [ih ds _ e]
      refine ⟨a, vs, rfl, by rw [k.K]; exact SqT.of ha, by rw [← ra.length]; exact hl is ds τ ea, ?_⟩
      exact gNs_ok (M := M) is ds vs τ τ1 σ hs ra ea fun σ' hs' hw => q σ' hs' fun ws hi => hw ws fun i hm => hi i (by simpa only [Tg.ns] using hm)
    | _ => simp [asgT] at ea
  | _ => simp [chkTg] at h
theorem asgTs_len : ∀ {ts : List Tg} {ds : List D} {τ τ1 : Sl}, asgTs ts ds τ = some τ1 → ds.length = ts.length
  | [], [], _, _, _ => rfl
  | [], _ :: _, _, _, e => by simp [asgTs] at e
  | _ :: _, [], _, _, e => by simp [asgTs] at e
  | t :: ts, d :: ds, τ, τ1, e => by
    simp only [asgTs] at e
    cases q : asgT t d τ with
    | none => rw [q] at e; cases e
    | some τ2 =>
      rw [q] at e
      simp only [Option.bind_some] at e
      rw [List.length_cons, List.length_cons, asgTs_len e]
mutual
theorem tg_ok (k : Cok c C W G X) : ∀ (t : Tg) (e : Expr), chkTg c t e = true → PG X e (gT C t)
  | .name i, e, h => one_ok k i e h
  | .tup is, e, h => flat_ok k is e h
  | .nst ts, e, h => by
    cases e with
    | Tuple es kk p =>
      obtain ⟨b1, b2, b3⟩ := tgs_ok k ts es (by simpa only [chkTg] using h)
      refine PG.imp (pg_tup k.calm b1 b2 b3) fun v σ H R q => ?_
      obtain ⟨ρ, τ, M, d, τ1, hc, hs, r, ea, q⟩ := q
      cases d with
      | tup ds =>
        simp only [asgT] at ea
        obtain ⟨a, vs, rfl, ha, ra⟩ := r
        refine ⟨a, vs, rfl, by rw [k.K]; exact SqT.of ha, by rw [← ra.length]; exact asgTs_len ea, ?_⟩
        exact ⟨ρ, τ, M, ds, τ1, hc, hs, ra, ea, fun σ' hs' hw => q σ' hs' fun ws hi => hw ws fun i hm => hi i (by simpa only [Tg.ns] using hm)⟩
      | _ => simp [asgT] at ea
    | _ => simp [chkTg] at h
theorem tgs_ok (k : Cok c C W G X) : ∀ (ts : List Tg) (es : List Expr), chkTgs c ts es = true → PGs X es (gTs C ts) ∧ (assignEach es X.env).length = ts.length ∧ (assignEach es X.env).findIdx? (·.1) = none
  | [], [], _ => ⟨⟨fun pins s σ H vs us Q I r h => by
      obtain ⟨ρ, τ, M, ds, τ1, hc, hs, ra, ea, q⟩ := h
      cases ds with
      | nil =>
        simp only [asgTs, Option.some.injEq] at ea
        subst ea
        exact pgs_nil.run pins s σ H vs us Q I r ⟨ra, q σ hs fun _ _ => rfl⟩
      | cons => simp [asgTs] at ea⟩, rfl, rfl⟩
  | [], e :: es, h => by simp [chkTgs] at h
  | t :: ts, [], h => by simp [chkTgs] at h
  | t :: ts, e :: es, h => by
    simp only [chkTgs, Bool.and_eq_true] at h
    obtain ⟨h1, h2⟩ := h
    have g1 := tg_ok k t e h1
    obtain ⟨b1, b2, b3⟩ := tgs_ok k ts es h2
    have he : (assignEach (e :: es) X.env).map (·.2) = assign e X.env :: (assignEach es X.env).map (·.2) ∧ (assignEach (e :: es) X.env).length = (assignEach es X.env).length + 1 ∧ ((assignEach es X.env).findIdx? (·.1) = none → (assignEach (e :: es) X.env).findIdx? (·.1) = none) := by
      cases e with
      | Name x p =>
        refine ⟨rfl, rfl, fun z => ?_⟩
        show List.findIdx? (·.1) ((false, assign (.Name x p) X.env) :: assignEach es X.env) = none
        rw [List.findIdx?_cons]
        simp only [Bool.false_eq_true, if_false]
        rw [z]; rfl
      | Tuple xs kk p =>
        refine ⟨rfl, rfl, fun z => ?_⟩
        show List.findIdx? (·.1) ((false, assign (.Tuple xs kk p) X.env) :: assignEach es X.env) = none
        rw [List.findIdx?_cons]
        simp only [Bool.false_eq_true, if_false]
        rw [z]; rfl
      | _ => cases t <;> simp [chkTg] at h1
    refine ⟨⟨fun pins s σ H vs us Q I r h => (pgs_cons g1 b1 he.1).run pins s σ H vs us Q I r ?_⟩, by rw [he.2.1, b2]; rfl, he.2.2 b3⟩
    obtain ⟨ρ, τ, M, ds, τ1, hc, hs, ra, ea, q⟩ := h
    cases ds with
    | nil => simp [asgTs] at ea
    | cons d ds =>
      simp only [asgTs] at ea
      obtain ⟨v, rest, rfl, r1, r2⟩ := ra
      cases e1 : asgT t d τ with
      | none => rw [e1] at ea; cases ea
      | some τ2 =>
        rw [e1] at ea
        simp only [Option.bind_some] at ea
        refine ⟨v, rest, rfl, ρ, τ, M, d, τ2, hc, hs, r1, e1, fun σ' hs' hw => ⟨ρ, τ2, M, ds, τ1, hc, hs', r2, ea, fun σ'' hs'' hw' => q σ'' hs'' fun ws hi => ?_⟩⟩
        rw [hw' ws fun i hm => hi i (by simp only [tgNs, List.mem_append]; exact .inr hm), hw ws fun i hm => hi i (by simp only [tgNs, List.mem_append]; exact .inl hm)]
end
end
end Tri

set_option Elab.async false
set_option linter.all false
set_option maxRecDepth 100000
namespace Tri
open PySem PySem.Spec PyProof.Rows L2 RZ

section
variable {C : Ct} {W : WX} {G : Gam}
theorem wipe_idem (σ : L2.St) : ∀ own : List Nat, wipe (wipe σ own) own = wipe σ own := by
  have mem : ∀ (own : List Nat) (σ : L2.St) (i : Nat), i ∈ own → (wipe σ own).set i none = wipe σ own := by
    intro own
    induction own with
    | nil => intro σ i h; simp at h
    | cons v vs ih =>
      intro σ i h
      unfold wipe
      rcases List.mem_cons.mp h with e | e
      · subst e; rw [List.set_set]
      · by_cases z : i = v
        · subst z; rw [List.set_set]
        · rw [List.set_comm _ _ (Ne.symm z), ih σ i e]
  have all : ∀ (own ws : List Nat) (σ : L2.St), (∀ i, i ∈ ws → i ∈ own) → wipe (wipe σ own) ws = wipe σ own := by
    intro own ws
    induction ws with
    | nil => intro σ _; rfl
    | cons v vs ih =>
      intro σ h
      show (wipe (wipe σ own) vs).set v none = _
      rw [ih σ fun i hi => h i (List.mem_cons_of_mem _ hi), mem own σ v (h v List.mem_cons_self)]
  exact fun own => all own own σ fun _ h => h
/-- a comprehension's reading, from the interpreter's -/
theorem lc_ok {f : Sl → Store → R Src} {tg : Tg} {own : List Nat} {cond : Sl → Store → R Bool} {elt : Sl → Store → R Q} (hown : tgIn tg own = true) {σ : L2.St} {H : Hp} {P : VK}
    (h : tQ C W (fun τ M => (f τ M).bind fun s M1 => if s.xs.length ≤ lim then (noex (lcLoop s.live s.xs.length tg (wipeD τ own) cond (fun τ M => evD (elt τ M)) 0 s.xs M1)).bind fun ds M2 => .ok (.tmp ds) M2 else .no) σ H P) :
    tLc (tIt C W f) (gT C tg) (tTe C (fun _ _ _ _ => False) cond) (tQ C (fun _ _ _ _ => False) elt) own σ H P := by
  obtain ⟨ρ, τ, M, hc, hs, hw⟩ := h
  refine ⟨ρ, τ, M, hc, hs, sat_mono (sat_bind hw) (fun s M1 hq ρ1 H1 J st1 c1 wk => ?_) fun _ _ _ x => x⟩
  intro p hp
  split at hq
  rotate_left
  · exact hq.elim
  rename_i hlim
  have s1 := hs.mono st1.mono
  -- no exception: the loop's outcome
  have hq' : (lcLoop s.live s.xs.length tg (wipeD τ own) cond (fun τ M => evD (elt τ M)) 0 s.xs M1).sat (fun ds M2 => Post C.K ρ H P (.tmp ds) M2) (fun _ _ _ => False) := by
    generalize lcLoop s.live s.xs.length tg (wipeD τ own) cond (fun τ M => evD (elt τ M)) 0 s.xs M1 = r at hq
    cases r with
    | ok ds M2 => exact hq
    | ex c fs M2 => exact hq.elim
    | no => exact hq.elim
  refine ⟨fun i m Hc => m = s.xs.length - i ∧ i ≤ s.xs.length ∧ ∃ ρc Mc acc accV, Step ρ1 H1 ρc Hc ∧ Conc C.K ρc Mc Hc ∧ Hc p = some (.lst accV) ∧ (∀ n, ρc n ≠ some p) ∧ RelDs C.K ρc Hc acc accV ∧ acc.length ≤ i ∧
    (lcLoop s.live s.xs.length tg (wipeD τ own) cond (fun τ M => evD (elt τ M)) i (s.xs.drop i) Mc).sat (fun ds M2 => Post C.K ρ H P (.tmp (acc ++ ds)) M2) (fun _ _ _ => False), ⟨s.xs.length, rfl, Nat.zero_le _, ρ1, M1, [], [], Step.laid hp, c1.laid hp, upd_same, c1.notin hp, rfl, Nat.le_refl _, ?_⟩, ?_⟩
  · exact hq'
  · rintro i m Hc ⟨rfl, hi, ρc, Mc, acc, accV, stc, cc, hD, hn, racc, hacc, hl⟩
    by_cases lt : i < s.xs.length
    · refine .inr ?_
      have ex : s.xs[i]? = some s.xs[i] := List.getElem?_eq_getElem lt
      rw [List.drop_eq_getElem_cons lt] at hl
      simp only [lcLoop] at hl
      cases ep : pick s.live s.xs.length i s.xs[i] Mc with
      | none => rw [ep] at hl; exact hl.elim
      | some d =>
        rw [ep] at hl
        simp only [Option.bind_some] at hl
        cases ea : asgT tg d (wipeD τ own) with
        | none => rw [ea] at hl; exact hl.elim
        | some τ1 =>
          rw [ea] at hl
          simp only at hl
          obtain ⟨g1, g2⟩ := wk.go i ρc Mc Hc d _ stc cc ex ep
          refine ⟨g1, fun H' => ∃ m', m' < s.xs.length - i ∧ m' = s.xs.length - (i + 1) ∧ i + 1 ≤ s.xs.length ∧ ∃ ρc Mc acc accV, Step ρ1 H1 ρc H' ∧ Conc C.K ρc Mc H' ∧ H' p = some (.lst accV) ∧ (∀ n, ρc n ≠ some p) ∧ RelDs C.K ρc H' acc accV ∧ acc.length ≤ i + 1 ∧
            (lcLoop s.live s.xs.length tg (wipeD τ own) cond (fun τ M => evD (elt τ M)) (i + 1) (s.xs.drop (i + 1)) Mc).sat (fun ds M2 => Post C.K ρ H P (.tmp (acc ++ ds)) M2) (fun _ _ _ => False), fun H' ⟨m', a1, a2⟩ => ⟨m', a1, a2⟩, fun v H2 hy => ?_⟩
          obtain ⟨st2, c2, rd⟩ := g2 v H2 hy
          have hD2 : H2 p = some (.lst accV) := st2.frame p _ hD hn
          have racc2 := RelDs.mono st2.mono _ _ racc
          refine ⟨ρc, wipeD τ own, Mc, d, τ1, c2, (s1.mono (stc.trans st2).mono).wipe own, rd, ea, fun σ2 hs2 hw2 => ⟨?_, ?_⟩⟩
          · rw [hw2 own (fun j hj => ?_), wipe_idem]
            exact List.contains_iff_mem.mp (List.all_eq_true.mp hown j hj)
          · skip
            refine ⟨ρc, τ1, Mc, c2, hs2, sat_mono (sat_bind (sat_mono hl (fun _ _ x => x) fun _ _ _ x => x)) (fun b M3 hb ρ3 H3 st3 c3 => ?_) fun _ _ _ x => x.elim⟩
            have hD3 : H3 p = some (.lst accV) := st3.frame p _ hD2 hn
            have hn3 : ∀ n, ρ3 n ≠ some p := fun n z => by
              rcases st3.new n p z with z | z
              · exact hn n z
              · rw [hD2] at z; cases z
            have racc3 := RelDs.mono st3.mono _ _ racc2
            cases b with
            | false =>
              simp only [Bool.false_eq_true, if_false] at hb
              refine iteF ?_
              exact ⟨_, Nat.sub_lt_sub_left lt (Nat.lt_succ_self i), rfl, lt, ρ3, M3, acc, accV, (stc.trans st2).trans st3, c3, hD3, hn3, racc3, Nat.le_succ_of_le hacc, hb⟩
            | true =>
              simp only [if_true] at hb
              refine iteT ?_
              refine tD_tQ σ2 H3 _ ⟨ρ3, τ1, M3, c3, hs2.mono st3.mono, sat_mono (sat_bind hb) (fun y M4 hy4 ρ4 H4 w st4 c4 r4 => ?_) fun _ _ _ x => x.elim⟩
              have hD4 : H4 p = some (.lst accV) := st4.frame p _ hD3 hn3
              have hn4 : ∀ n, ρ4 n ≠ some p := fun n z => by
                rcases st4.new n p z with z | z
                · exact hn3 n z
                · rw [hD3] at z; cases z
              have racc4 := RelDs.mono st4.mono _ _ racc3
              refine ⟨accV, hD4, ?_, ?_⟩
              · rw [← racc4.length]
                exact lim_lt (Nat.lt_of_le_of_lt hacc (Nat.lt_of_lt_of_le lt hlim))
              · refine ⟨_, Nat.sub_lt_sub_left lt (Nat.lt_succ_self i), rfl, lt, ρ4, M4, acc ++ [y], accV ++ [w], (((stc.trans st2).trans st3).trans st4).tmp hp hD4 Nat.one_ne_zero rfl, c4.tmp hD4 hn4 Nat.one_ne_zero rfl, upd_same, hn4, RelDs.mono (Mono.tmp (o := .lst (accV ++ [w])) hD4 Nat.one_ne_zero rfl) _ _ (racc4.append (RelDs.one r4)), by rw [List.length_append]; simp only [List.length_singleton]; omega, ?_⟩
                refine sat_mono (sat_bind hy4) (fun ds M5 h5 => ?_) fun _ _ _ x => x
                rw [List.append_assoc]
                exact h5
    · have e : i = s.xs.length := by omega
      subst e
      rw [List.drop_length] at hl
      simp only [lcLoop] at hl
      split at hl
      · rename_i he
        refine .inl ⟨wk.stop ρc Mc Hc stc cc he, ?_⟩
        have hl' : Post C.K ρ H P (.tmp (acc ++ [])) Mc := hl
        rw [List.append_nil] at hl'
        exact hl' ρc Hc (.ref p) (st1.trans stc) cc ⟨p, accV, rfl, st1.there p hp, hD, hn, racc⟩
      · exact hl.elim
end
end Tri

set_option Elab.async false
set_option linter.all false
set_option maxRecDepth 100000
/-! Dicts: the pairs of the tree are the pairs of the heap. -/
namespace Tri
open PySem PySem.Spec PyProof.Rows L2 RZ
theorem keyD_inj : ∀ a b : Key, keyD a = keyD b → a = b
  | .inl i, .inl j, h => by cases h; rfl
  | .inl i, .inr j, h => by cases h
  | .inr i, .inl j, h => by cases h
  | .inr i, .inr j, h => by cases h; rfl
theorem keyT_inj : ∀ a b : List Key, keyT a = keyT b → a = b := by
  intro a b h
  have h' : a.map keyD = b.map keyD := by
    unfold keyT at h
    injection h
  clear h
  induction a generalizing b with
  | nil =>
    cases b with
    | nil => rfl
    | cons y b => cases h'
  | cons x a ih =>
    cases b with
    | nil => cases h'
    | cons y b =>
      simp only [List.map_cons, List.cons.injEq] at h'
      rw [keyD_inj _ _ h'.1, ih b h'.2]
section
variable {κ : Type} [DecidableEq κ] {enc : κ → D} {K : PySem.W.Frag} {ρ : Rho} {H : Hp}
/-- what stands under a key -/
theorem look_rel (inj : ∀ a b, enc a = enc b → a = b) (k : κ) : ∀ (kvs : List (κ × V)) (ds : List D), RelDs K ρ H ds (kvs.map (·.2)) → (valV kvs k = none ∧ dlook (enc k) (prG enc (kvs.map (·.1)) ds) = none) ∨ ∃ w d, valV kvs k = some w ∧ dlook (enc k) (prG enc (kvs.map (·.1)) ds) = some d ∧ RelD K ρ H d w
  | [], ds, r => .inl ⟨rfl, by unfold prG; cases ds <;> rfl⟩
  | (a, w) :: kvs, ds, r => by
    cases ds with
    | nil => cases r
    | cons d ds =>
      obtain ⟨v, vs, e, r1, r2⟩ := r
      simp only [List.map_cons, List.cons.injEq] at e
      obtain ⟨rfl, rfl⟩ := e
      simp only [List.map_cons, prG, dlook]
      by_cases h : a = k
      · subst h
        rw [valV_pos rfl, if_pos rfl]
        exact .inr ⟨_, _, rfl, rfl, r1⟩
      · rw [valV_neg (show ¬ (a, w).1 = k from h), if_neg fun z => h (inj _ _ z)]
        exact look_rel inj k kvs ds r2
theorem subs_rel (inj : ∀ a b, enc a = enc b → a = b) (k : κ) {d : D} {w : V} (rd : RelD K ρ H d w) : ∀ (kvs : List (κ × V)) (ds : List D), RelDs K ρ H ds (kvs.map (·.2)) → ∃ es, dsubs (enc k) d (prG enc (kvs.map (·.1)) ds) = prG enc ((kvs.map fun kv => if kv.1 = k then (kv.1, w) else kv).map (·.1)) es ∧ RelDs K ρ H es ((kvs.map fun kv => if kv.1 = k then (kv.1, w) else kv).map (·.2))
  | [], ds, r => ⟨[], by unfold prG; cases ds <;> rfl, rfl⟩
  | (a, u) :: kvs, ds, r => by
    cases ds with
    | nil => cases r
    | cons x ds =>
      obtain ⟨v, vs, e, r1, r2⟩ := r
      simp only [List.map_cons, List.cons.injEq] at e
      obtain ⟨rfl, rfl⟩ := e
      obtain ⟨es, e1, e2⟩ := subs_rel inj k rd kvs ds r2
      simp only [List.map_cons, prG, dsubs]
      by_cases h : a = k
      · subst h
        refine ⟨d :: es, ?_, ?_⟩
        · simp only [if_true, prG, e1]
        · simp only [if_true]
          exact ⟨_, _, rfl, rd, e2⟩
      · refine ⟨x :: es, ?_, ?_⟩
        · rw [if_neg fun z => h (inj _ _ z), if_neg h, e1]
          rfl
        · rw [if_neg h]
          exact ⟨_, _, rfl, r1, e2⟩
theorem pr_app : ∀ (ks : List κ) (ds : List D) (k : κ) (d : D), ks.length = ds.length → prG enc ks ds ++ [.tup [enc k, d]] = prG enc (ks ++ [k]) (ds ++ [d])
  | [], [], k, d, _ => rfl
  | [], _ :: _, k, d, h => by cases h
  | _ :: _, [], k, d, h => by cases h
  | a :: ks, x :: ds, k, d, h => by
    simp only [List.cons_append, prG]
    rw [pr_app ks ds k d (by simpa using h)]
theorem pr_len : ∀ (ks : List κ) (ds : List D), ks.length = ds.length → (prG enc ks ds).length = ks.length
  | [], [], _ => rfl
  | [], _ :: _, h => by cases h
  | _ :: _, [], h => by cases h
  | a :: ks, x :: ds, h => by
    simp only [prG, List.length_cons]
    rw [pr_len ks ds (by simpa using h)]
theorem put_rel (inj : ∀ a b, enc a = enc b → a = b) (k : κ) {d : D} {w : V} (rd : RelD K ρ H d w) (kvs : List (κ × V)) (ds : List D) (r : RelDs K ρ H ds (kvs.map (·.2))) : ∃ es, dput (enc k) d (prG enc (kvs.map (·.1)) ds) = prG enc ((putK kvs k w).map (·.1)) es ∧ RelDs K ρ H es ((putK kvs k w).map (·.2)) := by
  unfold dput putK
  rw [valV_any]
  rcases look_rel inj k kvs ds r with ⟨e1, e2⟩ | ⟨w', d', e1, e2, _⟩
  · rw [e1, e2]
    simp only [Option.isSome_none, Bool.false_eq_true, if_false]
    refine ⟨ds ++ [d], ?_, ?_⟩
    · rw [List.map_append, pr_app]
      · rfl
      · rw [r.length, List.length_map, List.length_map]
    · rw [List.map_append]
      exact r.append (RelDs.one rd)
  · rw [e1, e2]
    simp only [Option.isSome_some, if_true]
    exact subs_rel inj k rd kvs ds r
end
section
variable {C : Ct} {W : WX} {σ : L2.St} {H0 : Hp} {ρ : Rho} {M : Store} {H : Hp} {P : VK}
theorem key_a {k : D} {v : V} (h : keyA k = true) (r : RelD C.K ρ H k v) : ∃ y : Key, k = keyD y ∧ v = kV y := by
  cases k with
  | int i => exact ⟨.inl i, rfl, r⟩
  | str x => exact ⟨.inr x, rfl, r⟩
  | _ => cases h
theorem key_as : ∀ {ks : List D} {vs : List V}, ks.all keyA = true → RelDs C.K ρ H ks vs → ∃ ys : List Key, ks = ys.map keyD ∧ vs = ys.map kV
  | [], vs, _, r => ⟨[], rfl, r⟩
  | k :: ks, vs, h, r => by
    obtain ⟨v, rest, rfl, r1, r2⟩ := r
    rw [List.all_cons, Bool.and_eq_true] at h
    obtain ⟨y, rfl, rfl⟩ := key_a (C := C) h.1 r1
    obtain ⟨ys, rfl, rfl⟩ := key_as h.2 r2
    exact ⟨y :: ys, rfl, rfl⟩
theorem key_t {k : D} {v : V} (h : keyOk true k = true) (r : RelD C.K ρ H k v) : ∃ (ys : List Key) (b : Addr), k = keyT ys ∧ v = .ref b ∧ H b = some (.tup (ys.map kV)) := by
  cases k with
  | tup ks =>
    obtain ⟨b, vs, rfl, hb, r⟩ := r
    obtain ⟨ys, rfl, rfl⟩ := key_as (C := C) h r
    exact ⟨ys, b, rfl, rfl, hb⟩
  | _ => cases h
/-- a dict of the store, and a key -/
theorem dct_ok {t : Bool} {n : Nat} {v y : V} {ps : List D} {k : D} (hc : Conc C.K ρ M H) (r : RelD C.K ρ H (.dct t n) v) (hM : M[n]? = some (.lst ps)) (hk : keyOk t k = true) (rk : RelD C.K ρ H k y) :
    ∃ a, v = .ref a ∧ ρ n = some a ∧ ((t = false ∧ ∃ (kvs : List (Key × V)) (ds : List D) (z : Key), H a = some (.dK kvs) ∧ ps = prK (kvs.map (·.1)) ds ∧ RelDs C.K ρ H ds (kvs.map (·.2)) ∧ k = keyD z ∧ y = kV z) ∨
      (t = true ∧ ∃ (kvs : List (List Key × V)) (ds : List D) (z : List Key) (b : Addr), H a = some (.dT kvs) ∧ ps = prT (kvs.map (·.1)) ds ∧ RelDs C.K ρ H ds (kvs.map (·.2)) ∧ k = keyT z ∧ y = .ref b ∧ H b = some (.tup (z.map kV)))) := by
  obtain ⟨a, rfl, hn, o, ho, hq⟩ := r
  obtain ⟨a', h1, h2⟩ := hc.obj n _ hM
  rw [hn] at h1
  cases h1
  refine ⟨a, rfl, hn, ?_⟩
  cases t with
  | false =>
    obtain ⟨z, rfl, rfl⟩ := key_a (C := C) hk rk
    rcases h2 with ⟨_, e, _⟩ | ⟨kvs, ds, e, e2, e3⟩ | ⟨_, _, e, _⟩
    · rw [e] at ho; cases ho; cases hq
    · exact .inl ⟨rfl, kvs, ds, z, e, e2, e3, rfl, rfl⟩
    · rw [e] at ho; cases ho; cases hq
  | true =>
    obtain ⟨z, b, rfl, rfl, hb⟩ := key_t (C := C) hk rk
    rcases h2 with ⟨_, e, _⟩ | ⟨_, _, e, _⟩ | ⟨kvs, ds, e, e2, e3⟩
    · rw [e] at ho; cases ho; cases hq
    · rw [e] at ho; cases ho; cases hq
    · exact .inr ⟨rfl, kvs, ds, z, b, e, e2, e3, rfl, rfl, hb⟩
theorem dlook_ok {t : Bool} {n : Nat} {v y : V} {ps : List D} {k : D} (hc : Conc C.K ρ M H) (r : RelD C.K ρ H (.dct t n) v) (hM : M[n]? = some (.lst ps)) (hk : keyOk t k = true) (rk : RelD C.K ρ H k y) :
    ∃ a, v = .ref a ∧ ((dlook k ps = none ∧ DGet H a y none) ∨ ∃ d w, dlook k ps = some d ∧ DGet H a y (some w) ∧ RelD C.K ρ H d w) := by
  obtain ⟨a, rfl, hn, ⟨_, kvs, ds, z, ha, rfl, rd, rfl, rfl⟩ | ⟨_, kvs, ds, z, b, ha, rfl, rd, rfl, rfl, hb⟩⟩ := dct_ok hc r hM hk rk
  · refine ⟨a, rfl, ?_⟩
    rcases look_rel keyD_inj z kvs ds rd with ⟨e1, e2⟩ | ⟨w, d, e1, e2, r2⟩
    · exact .inl ⟨e2, by rw [← e1]; exact DGet.k ha⟩
    · exact .inr ⟨d, w, e2, by rw [← e1]; exact DGet.k ha, r2⟩
  · refine ⟨a, rfl, ?_⟩
    rcases look_rel keyT_inj z kvs ds rd with ⟨e1, e2⟩ | ⟨w, d, e1, e2, r2⟩
    · exact .inl ⟨e2, by rw [← e1]; exact DGet.t ha hb⟩
    · exact .inr ⟨d, w, e2, by rw [← e1]; exact DGet.t ha hb, r2⟩
theorem dget_ok {H1 : Hp} {q1 q2 : Q} {v w : V} (hc : Conc C.K ρ M H) (r1 : RelQ C.K H0 ρ H q1 v) (r2 : RelQ C.K H1 ρ H q2 w) (h : Wh C W σ ρ H P (dgetQ q1 q2 M)) : ∃ a u, v = .ref a ∧ DGet H a w (some u) ∧ P u H := by
  unfold dgetQ at h
  split at h
  · rename_i t n k
    split at h
    · rename_i hk
      cases hM : M[n]? with
      | none => rw [hM] at h; exact h.elim
      | some o =>
        cases o with
        | lst ps =>
          rw [hM] at h
          dsimp only at h
          obtain ⟨a, rfl, ⟨e, g⟩ | ⟨d, u, e, g, rd⟩⟩ := dlook_ok hc r1 hM hk r2
          · rw [e] at h; exact h.elim
          · rw [e] at h
            exact ⟨a, u, rfl, g, wh_v hc h rd⟩
    · exact h.elim
  · exact h.elim
theorem din_ok {H1 : Hp} {neg : Bool} {q1 q2 : Q} {v w : V} (hc : Conc C.K ρ M H) (r1 : RelQ C.K H0 ρ H q1 v) (r2 : RelQ C.K H1 ρ H q2 w) (h : Wh C W σ ρ H P (dinQ neg q1 q2 M)) : ∃ a o, w = .ref a ∧ DGet H a v o ∧ P (.bl (neg ^^ o.isSome)) H := by
  unfold dinQ at h
  split at h
  · rename_i t n k
    split at h
    · rename_i hk
      cases hM : M[n]? with
      | none => rw [hM] at h; exact h.elim
      | some o =>
        cases o with
        | lst ps =>
          rw [hM] at h
          dsimp only at h
          obtain ⟨a, rfl, ⟨e, g⟩ | ⟨d, u, e, g, rd⟩⟩ := dlook_ok hc r2 hM hk r1
          · rw [e] at h
            exact ⟨a, none, rfl, g, wh_v hc h rfl⟩
          · rw [e] at h
            exact ⟨a, some u, rfl, g, wh_v hc h rfl⟩
    · exact h.elim
  · exact h.elim
theorem dnew_ok {t : Bool} {p : Addr} {o : HO} (hc : Conc C.K ρ M H) (hp : H p = none) (hk : kndO o = if t then 3 else 2) (ho : ObjR C.K ρ (upd H p o) (.lst []) p) (h : Wh C W σ ρ H P (okv (.dct t M.length) (M ++ [.lst []]))) : P (.ref p) (upd H p o) := by
  have c2 := (hc.laid (u := o) hp).namedO (hc.notin hp) ho
  exact h (ext ρ M.length p) _ (.ref p) ((Step.laid hp).named hc.free hp) c2 ⟨p, rfl, ext_same, o, upd_same, hk⟩
/-- a dict is written -/
theorem Step.wrO {n : Nat} {a : Addr} {u o : HO} (hn : ρ n = some a) (ha : H a = some u) (hu : kndO u ≠ 0) (hk : kndO o = kndO u) : Step ρ H ρ (upd H a o) where
  le := fun _ _ h => h
  new := fun _ _ h => .inl h
  frame := fun b x h hb => by rw [upd_ne (fun e => hb n (by rw [hn, e]))]; exact h
  tups := (Mono.tmp (ρ := ρ) ha hu hk).tups
  frzs := (Mono.tmp (ρ := ρ) ha hu hk).frzs
  there := fun b h => by
    by_cases e : b = a
    · rw [e, upd_same] at h; cases h
    · rw [upd_ne e] at h; exact h
  knd := Knd.wr ha hk
  tupx := (Mono.tmp (ρ := ρ) ha hu hk).tupx
theorem Conc.wrO {K : PySem.W.Frag} {n : Nat} {a : Addr} {u o : HO} {x y : MO} (c : Conc K ρ M H) (hM : M[n]? = some x) (hn : ρ n = some a) (ha : H a = some u) (hu : kndO u ≠ 0) (hk : kndO o = kndO u) (r : ObjR K ρ (upd H a o) y a) : Conc K ρ (M.set n y) (upd H a o) := by
  have st := Step.wrO (o := o) hn ha hu hk
  have lt : n < M.length := (List.getElem?_eq_some_iff.mp hM).1
  refine ⟨fun m z e => ?_, fun m b e => by rw [List.length_set]; exact c.dom m b e, c.inj⟩
  by_cases q : m = n
  · subst q
    rw [List.getElem?_set_self lt] at e
    cases Option.some.inj e
    exact ⟨a, hn, r⟩
  · rw [List.getElem?_set_ne (Ne.symm q)] at e
    obtain ⟨b, h1, h2⟩ := c.obj m z e
    exact ⟨b, h1, h2.away (fun eb => q (c.inj m n b h1 (by rw [hn, eb]))) st.mono⟩
theorem dset_ok {H1 : Hp} {q1 q2 : Q} {d : D} {v w u : V} {M' : Store} {P : Hp → Prop} (hc : Conc C.K ρ M H) (r1 : RelQ C.K H0 ρ H q1 v) (r2 : RelQ C.K H1 ρ H q2 w) (r3 : RelD C.K ρ H d u) (e : dsetQ q1 q2 d M = some M')
    (hP : ∀ H', Step ρ H ρ H' → Conc C.K ρ M' H' → P H') : ∃ a H4, v = .ref a ∧ DPut H a w u H4 ∧ P H4 := by
  unfold dsetQ at e
  split at e
  · rename_i t n k
    split at e
    · rename_i hk
      cases hM : M[n]? with
      | none => rw [hM] at e; cases e
      | some o =>
        cases o with
        | lst ps =>
          rw [hM] at e
          dsimp only at e
          split at e
          · rename_i hl
            cases e
            obtain ⟨a, rfl, hn, ⟨rfl, kvs, ds, z, ha, rfl, rd, rfl, rfl⟩ | ⟨rfl, kvs, ds, z, b, ha, rfl, rd, rfl, rfl, hb⟩⟩ := dct_ok hc r1 hM hk r2
            · have len : kvs.length < sizeLine := by
                have := pr_len (enc := keyD) (kvs.map (·.1)) ds (by rw [rd.length, List.length_map, List.length_map])
                rw [this, List.length_map] at hl
                rw [sizeLine_eq]
                unfold lim at hl
                omega
              obtain ⟨es, e1, e2⟩ := put_rel keyD_inj z r3 kvs ds rd
              have st : Step ρ H ρ (upd H a (.dK (putK kvs z u))) := Step.wrO hn ha (fun q => by cases q) rfl
              refine ⟨a, _, rfl, DPut.k ha len, hP _ st (hc.wrO hM hn ha (fun q => by cases q) rfl (.inr (.inl ⟨_, es, upd_same, e1, RelDs.mono st.mono _ _ e2⟩)))⟩
            · have len : kvs.length < sizeLine := by
                have := pr_len (enc := keyT) (kvs.map (·.1)) ds (by rw [rd.length, List.length_map, List.length_map])
                rw [this, List.length_map] at hl
                rw [sizeLine_eq]
                unfold lim at hl
                omega
              obtain ⟨es, e1, e2⟩ := put_rel keyT_inj z r3 kvs ds rd
              have st : Step ρ H ρ (upd H a (.dT (putK kvs z u))) := Step.wrO hn ha (fun q => by cases q) rfl
              refine ⟨a, _, rfl, DPut.t ha hb len, hP _ st (hc.wrO hM hn ha (fun q => by cases q) rfl (.inr (.inr ⟨_, es, upd_same, e1, RelDs.mono st.mono _ _ e2⟩)))⟩
          · cases e
    · cases e
  · cases e
end
theorem fill_rel {K : PySem.W.Frag} {ρ : Rho} {H : Hp} : ∀ (ks : List Key) (vs : List V) (ds : List D) (kvs : List (Key × V)) (es : List D), ks.length = ds.length → RelDs K ρ H ds vs → RelDs K ρ H es (kvs.map (·.2)) →
    ∃ fs, dfill ks ds (prK (kvs.map (·.1)) es) = prK ((mergeK kvs (ks.zip vs)).map (·.1)) fs ∧ RelDs K ρ H fs ((mergeK kvs (ks.zip vs)).map (·.2))
  | [], vs, ds, kvs, es, _, _, r => ⟨es, by unfold dfill; rfl, r⟩
  | k :: ks, vs, [], kvs, es, h, _, _ => by cases h
  | k :: ks, vs, d :: ds, kvs, es, h, rd, r => by
    obtain ⟨v, ws, rfl, r1, r2⟩ := rd
    obtain ⟨fs, e1, e2⟩ := put_rel keyD_inj k r1 kvs es r
    obtain ⟨gs, e3, e4⟩ := fill_rel ks ws ds (putK kvs k v) fs (by simpa using h) r2 e2
    refine ⟨gs, ?_, e4⟩
    unfold dfill
    rw [e1]
    exact e3
theorem disp_ok {p : Addr} {ρ1 : Rho} {H1 : Hp} {M1 : Store} {ks : List Key} {ds : List D} {vs : List V} {P : VK} (hc : Conc C.K ρ M H) (hp : H p = none) (st : Step ρ (upd H p (.dK [])) ρ1 H1) (c1 : Conc C.K ρ1 M1 H1) (r : RelDs C.K ρ1 H1 ds vs) (hl : ks.length = ds.length)
    (h : Wh C W σ ρ H P (okv (.dct false M1.length) (M1 ++ [.lst (dfill ks ds [])]))) : H1 p = some (.dK []) ∧ P (.ref p) (upd H1 p (.dK (mergeK [] (ks.zip vs)))) := by
  have st0 : Step ρ H ρ (upd H p (.dK [])) := Step.laid hp
  have hp1 : H1 p = some (.dK []) := st.frame p _ upd_same fun n e => hc.notin hp n e
  refine ⟨hp1, ?_⟩
  have hn : ∀ n, ρ1 n ≠ some p := fun n e => by
    rcases st.new n p e with e | e
    · exact hc.notin hp n e
    · rw [upd_same] at e; cases e
  have c2 := c1.namedO (o' := .lst []) hn (.inr (.inl ⟨[], [], hp1, rfl, rfl⟩))
  have s2 := (st0.trans st).named c1.free hp
  have s3 : Step (ext ρ1 M1.length p) H1 (ext ρ1 M1.length p) (upd H1 p (.dK (mergeK [] (ks.zip vs)))) := Step.wrO ext_same hp1 (fun q => by cases q) rfl
  have mm : Mono ρ1 H1 (ext ρ1 M1.length p) H1 := ⟨ext_le c1.free, fun _ _ h => h, fun _ _ _ h => h, Knd.refl H1, fun _ _ h => h⟩
  obtain ⟨fs, e1, e2⟩ := fill_rel (K := C.K) ks vs ds [] [] hl (RelDs.mono s3.mono _ _ (RelDs.mono mm _ _ r)) rfl
  have c3 := c2.wrO (n := M1.length) (x := .lst []) (by simp) ext_same hp1 (o := .dK (mergeK [] (ks.zip vs))) (y := .lst (dfill ks ds [])) (fun q => by cases q) rfl (.inr (.inl ⟨_, fs, upd_same, e1, e2⟩))
  have e : (M1 ++ [MO.lst []]).set M1.length (.lst (dfill ks ds [])) = M1 ++ [.lst (dfill ks ds [])] := by
    rw [List.set_append_right _ _ (Nat.le_refl _), Nat.sub_self]
    rfl
  rw [e] at c3
  exact h _ _ (.ref p) (s2.trans s3) c3 ⟨p, rfl, ext_same, _, upd_same, rfl⟩
theorem noSl_of {i : Expr} (h : ∀ a b c p, i ≠ .Slice a b c p) : NoSl i := by
  intro ov iv
  cases i <;> first | rfl | exact absurd rfl (h _ _ _ _)
end Tri

set_option Elab.async false
set_option linter.all false
set_option maxRecDepth 100000
/-! enumerate of a tuple, zip of three tuples. -/
namespace Tri
open PySem PySem.Spec PyProof.Rows L2 RZ

set_option maxHeartbeats 1000000 in
theorem meets_enum1 {v : Value} {o : Obj} {H : Heap → Prop} (B : Begins v o H) :
    Meets (Builtin.«enumerate.__new__» ⟨[.type "enumerate", v], []⟩) (fun _ R s => H s.heap ∧
      R (.ok (.ret (.ref (s.heap.push o).objs.size))) { s with heap := (s.heap.push o).push { cls := .type "enumerate", data := .fields #[.none, .bool false, .ref s.heap.objs.size, rawInt 0, .none, .none] } }) :=
  .of_wp fun prog w A R s h => by
    obtain ⟨hp, g, d, tk, os⟩ := s; obtain ⟨h1, h⟩ := h
    have hsub := sub_enumerate
    have q1 : ∀ {A' : Around} {E : Value → Shared → Prop} {Q : Value → Shared → Prop}, Q (.ref hp.objs.size) ⟨hp.push o, g, d, tk, os⟩ → wpAny (model prog w) A' (pyIter v) Q E ⟨hp, g, d, tk, os⟩ :=
      fun q => B.iter prog w _ _ ⟨hp, g, d, tk, os⟩ _ h1 q
    wp_walk using q1
    refine wpAny_stack_any fun st => wpAny_pure ?_
    split
    · rename_i c _ _ _ _ _
      cases (c == Value.type "enumerate")
      · wp_walk using q1
        exact ⟨_, rfl, h⟩
      · wp_walk using q1
        exact ⟨_, rfl, h⟩
    · wp_walk using q1
      exact ⟨_, rfl, h⟩
section
variable {prog : Program} {w : World} {A : Around} {E : Value → Shared → Prop} {s : Shared}
theorem call_enum1 {v : Value} {o : Obj} {H : Heap → Prop} {Q : Value → Shared → Prop} (B : Begins v o H) (h1 : H s.heap)
    (h : ∀ h', IsEnum h' (s.heap.objs.size + 1) s.heap.objs.size 0 .none → h'.get? s.heap.objs.size = some o → h'.objs.size = s.heap.objs.size + 2 →
      (∀ b o, s.heap.get? b = some o → h'.get? b = some o) → Q (.ref (s.heap.objs.size + 1)) { s with heap := h' }) :
    wpAny (model prog w) A (call (.type "enumerate") [v]) Q E s := by
  refine callType_new F.called_enumerate (by decide) (F.typeCall_enumerate_1 _) (F.newCall_enumerate_1 _) (fun obj => F.args_object_init_2 obj _) F.entry_enumerate_new
    (meets_enum1 B) ⟨h1, ?_⟩
  have hz : (s.heap.push o).objs.size = s.heap.objs.size + 1 := Heap.size_push ..
  show _ ∧ _
  rw [hz]
  have he : IsEnum ((s.heap.push o).push { cls := .type "enumerate", data := .fields #[.none, .bool false, .ref s.heap.objs.size, rawInt 0, .none, .none] }) (s.heap.objs.size + 1) s.heap.objs.size 0 .none := by
    have := Heap.get?_push_size (s.heap.push o) (o := { cls := .type "enumerate", data := .fields #[.none, .bool false, .ref s.heap.objs.size, rawInt 0, .none, .none] }) rfl
    rw [hz] at this; exact this
  refine ⟨⟨_, he, rfl⟩, h _ he (Heap.get?_push_of_some _ (Heap.get?_push_size _ B.free)) (by rw [Heap.size_push, hz]) fun b o x => Heap.get?_push_of_some _ (Heap.get?_push_of_some _ x)⟩
end

/-- the tuple at a, counted -/
def IteT (K : PySem.W.Frag) (a : Addr) : L2.It :=
  ⟨fun i H => ∃ xs x, SqT K H a xs ∧ xs[i]? = some x,
    fun i H v H' => ∃ T x, v = .ref T ∧ H T = none ∧ H' = upd H T (.tup [.int (i : Nat), x]) ∧ ∀ xs, SqT K H a xs → xs[i]? = some x,
    fun i H => ∃ xs, SqT K H a xs ∧ xs.length = i⟩
theorem turn_enT {P : Program} {w : World} {K : PySem.W.Frag} {elts : List Expr} {kk : Nat} {tpos : Pos} {a e it : Addr} (hei : e ≠ it) (hae : a ≠ e) (hai : a ≠ it) :
    Turn P w K (.Tuple elts kk tpos) (IteT K a) [e, it] e (fun i h => (∃ old, IsEnum h e it (i : Int) old) ∧ h.IsTupleIter it a i) where
  mem := by simp
  obj := fun i h st c hc => by
    obtain ⟨⟨old, he⟩, ⟨o, ho, _, d⟩⟩ := st
    have e' : c = e ∨ c = it := by simpa using hc
    rcases e' with q | q
    · rw [q]; exact ⟨_, he, fun v q => nomatch q⟩
    · rw [q]; exact ⟨_, ho, fun v q => by rw [d] at q; cases q⟩
  keep := fun i h h' st k => by
    obtain ⟨⟨old, he⟩, hi⟩ := st
    exact ⟨⟨old, k e (by simp) _ he⟩, hi.at fun o q => k it (by simp) o q⟩
  item := by
    intro X hP hw hK hc i pins s σ H E I hf st hg
    subst hP hw hK
    obtain ⟨⟨old, he⟩, hi⟩ := st
    obtain ⟨xs, x, hq, hx⟩ := hg
    obtain ⟨its, rv, p, _⟩ := I.tuple hq
    obtain ⟨u, hu, ru⟩ := rv.get hx
    have W := WalksT.enumFrom (prog := X.prog) (w := X.w) (A := X.A) 0 (Draws.tuple (A := X.A.in1) (I.ok.hd hc) it a hai its.toArray) e hei (by simp [hei, Ne.symm hae]) (by simp)
    have lt : i < its.toArray.size := by
      rw [List.size_toArray]
      exact (List.getElem?_eq_some_iff.mp hu).1
    have hel : e < s.heap.objs.size := Heap.lt_size he
    have hil : it < s.heap.objs.size := by obtain ⟨_, q, _⟩ := hi; exact Heap.lt_size q
    refine W.item i s _ _ lt ⟨⟨old, by rw [Int.zero_add]; exact he⟩, hi, p⟩ fun T vals h' tk pt hT0 hT mid hk => ?_
    obtain ⟨t, v, hv, ev⟩ := pt
    have ap := W.apart i T h' mid
    refine ⟨_, rfl, W.go elts kk tpos i T _ _ _ mid fun h'' st' hk' => ?_⟩
    obtain ⟨⟨old', he'⟩, hi', _⟩ := st'
    obtain rfl : u = v := by
      have : its.toArray[i]? = some u := by simpa using hu
      rw [this] at hv
      exact Option.some.inj hv
    have hT2 : h''.IsTuple T #[.int (0 + (i : Int)) t, u] := by
      obtain ⟨o, ho, r⟩ := ev ▸ hT
      exact ⟨o, hk' T o ap ho, r⟩
    rw [Int.zero_add] at hT2
    have new : ObjOk X.prog X.w (upd H T (.tup [.int (i : Nat), x])) h'' T (.tup [.int (i : Nat), x]) :=
      ⟨by show 2 ≤ sizeLine; decide, [.int i t, u], .cons ⟨_, rfl⟩ (.cons ru .nil), hT2⟩
    have I1 : Inv X pins σ (upd H T (.tup [.int (i : Nat), x])) { s with heap := h'', toks := tk } :=
      I.turnedNew (ch := [e, it]) (fun b ob hb q => hk' b ob hb (hk b ob hb q)) hf hT0 new
    refine ⟨.ref T, _, I1, rfl, ⟨_, x, rfl, I.hok.fresh hT0, rfl, fun ys hy => by rw [I.tuple_inj hy hq]; exact hx⟩, ⟨⟨old', ?_⟩, hi'⟩, fun b hb => ?_⟩
    · have e1 : ((i + 1 : Nat) : Int) = 0 + ((i + 1 : Nat) : Int) := by omega
      rw [e1]; exact he'
    · have hb' : b < s.heap.objs.size := by
        have e' : b = e ∨ b = it := by simpa using hb
        rcases e' with z | z
        · rw [z]; exact hel
        · rw [z]; exact hil
      rw [upd_ne (Nat.ne_of_lt (Nat.lt_of_lt_of_le hb' hT0))]
      exact (hf b hb).1
  done := by
    intro X hP hw hK hc i pins s σ H E I hf st hg
    subst hP hw hK
    obtain ⟨⟨old, he⟩, hi⟩ := st
    obtain ⟨xs, hq, hx⟩ := hg
    obtain ⟨its, rv, p, _⟩ := I.tuple hq
    have W := WalksT.enumFrom (prog := X.prog) (w := X.w) (A := X.A) 0 (Draws.tuple (A := X.A.in1) (I.ok.hd hc) it a hai its.toArray) e hei (by simp [hei, Ne.symm hae]) (by simp)
    have en : its.toArray.size = i := by rw [List.size_toArray, ← rv.length, hx]
    refine W.done s _ _ (by rw [en]; exact ⟨⟨old, by rw [Int.zero_add]; exact he⟩, hi, p⟩) fun h' tk hk => ⟨rfl, I.turnedL (ch := [e, it]) (fun b o hb q => hk b o hb q) hf⟩
  self := fun A i s Q E st h => let ⟨⟨_, he⟩, _⟩ := st; wpAny_pyIter_enum he h
def iEnA (K : PySem.W.Frag) (ta : TA) : TI := fun σ H R => ta σ H fun vs H1 => ∃ a xs, vs = [.ref a] ∧ ((SqL K H1 a xs ∧ R (Ite K a) H1) ∨ (SqT K H1 a xs ∧ R (IteT K a) H1))
theorem pi_enA {X : Cx} {e : Expr} {ta : TA} {p pos tpos : Pos} {elts : List Expr} {kk : Nat} (hg : Gl X "enumerate") (hm : X.mg "enumerate" = none) (ha : PA X [e] ta) (hs : starEach [e] X.env = [(false, eval e X.env)] := by rfl) :
    PI X (.Tuple elts kk tpos) (.Call (.Name "enumerate" p) [e] [] pos) (iEnA X.K ta) := by
  refine ⟨fun pins s σ H R I h => ?_⟩
  refine Call_ (ld_blt I hg hm boot_enumerate (PyProof.Rows.callWith_type1 (thn (ha.run pos pins s σ H _ I h) fun us s1 ⟨vs, H1, I1, r1, q1⟩ => ?_) hs rfl))
  obtain ⟨a, xs, ex, q1⟩ := q1
  subst ex
  cases r1 with
  | cons r rr =>
    cases rr
    cases r
    have fresh : ∀ b, b ∈ [s1.heap.objs.size + 1, s1.heap.objs.size] → FpOk X pins H1 b := fun b hb => by
      have e' : b = s1.heap.objs.size + 1 ∨ b = s1.heap.objs.size := by simpa using hb
      have hle : s1.heap.objs.size ≤ b := by
        rcases e' with z | z
        · rw [z]; exact Nat.le_add_right _ _
        · rw [z]; exact Nat.le_refl _
      exact I1.fpOk hle (I1.hok.fresh hle)
    rcases q1 with ⟨hq, q⟩ | ⟨hq, q⟩
    · obtain ⟨its, rv, p', hz⟩ := I1.list hq
      refine call_enumerate_list p'.isList fun h' he hit hsz hk => wpAny_pyIter_enum he ?_
      have I2 : Inv X pins σ H1 { s1 with heap := h' } := I1.kept (t' := s1.toks) hk
      exact ⟨s1.heap.objs.size + 1, [s1.heap.objs.size + 1, s1.heap.objs.size], _, _, H1, rfl, I2, turn_enum a (s1.heap.objs.size + 1) s1.heap.objs.size, ⟨⟨.none, he⟩, hit, Nat.succ_ne_self _⟩, fresh, q⟩
    · obtain ⟨its, rv, p', hz⟩ := I1.tuple hq
      have al : a < s1.heap.objs.size := by obtain ⟨_, q, _⟩ := id p'; exact Heap.lt_size q
      refine call_enum1 (begins_tuple a its.toArray) p' fun h' he hit hsz hk => wpAny_pyIter_enum he ?_
      have I2 : Inv X pins σ H1 { s1 with heap := h' } := I1.kept (t' := s1.toks) hk
      exact ⟨s1.heap.objs.size + 1, [s1.heap.objs.size + 1, s1.heap.objs.size], _, _, H1, rfl, I2, turn_enT (Nat.succ_ne_self _) (Nat.ne_of_lt (Nat.lt_succ_of_lt al)) (Nat.ne_of_lt al), ⟨⟨.none, he⟩, ⟨_, hit, rfl, rfl⟩⟩, fresh, q⟩

/-- three tuples side by side -/
def It3 (K : PySem.W.Frag) (a b c : Addr) : L2.It :=
  ⟨fun i H => ∃ (xs ys zs : List V) (x y z : V), SqT K H a xs ∧ SqT K H b ys ∧ SqT K H c zs ∧ xs[i]? = some x ∧ ys[i]? = some y ∧ zs[i]? = some z,
    fun i H v H' => ∃ T x y z, v = .ref T ∧ H T = none ∧ H' = upd H T (.tup [x, y, z]) ∧ (∀ xs, SqT K H a xs → xs[i]? = some x) ∧ (∀ ys, SqT K H b ys → ys[i]? = some y) ∧ ∀ zs, SqT K H c zs → zs[i]? = some z,
    fun i H => ∃ xs ys zs : List V, SqT K H a xs ∧ SqT K H b ys ∧ SqT K H c zs ∧ min (min xs.length ys.length) zs.length = i⟩

theorem turn_z3 {P : Program} {w : World} {K : PySem.W.Frag} {elts : List Expr} {kk : Nat} {tpos : Pos} {a b c N : Addr} (ha : a < N) (hb : b < N) (hc' : c < N) :
    Turn P w K (.Tuple elts kk tpos) (It3 K a b c) [N + 5, N + 3, N + 4, N, N + 1, N + 2] (N + 5) (fun i h => IsZip h (N + 5) (N + 3) (N + 4) .none ∧ IsTupOf3 h (N + 3) (.ref N) (.ref (N + 1)) (.ref (N + 2)) ∧ (∃ x y z, IsTupOf3 h (N + 4) x y z) ∧ h.IsTupleIter N a i ∧ h.IsTupleIter (N + 1) b i ∧ h.IsTupleIter (N + 2) c i) where
  mem := by simp
  obj := fun i h st q hq => by
    obtain ⟨hz, hTI, ⟨x, y, z, hTO⟩, ⟨o1, e1, _, d1⟩, ⟨o2, e2, _, d2⟩, ⟨o3, e3, _, d3⟩⟩ := st
    have e' : q = N + 5 ∨ q = N + 3 ∨ q = N + 4 ∨ q = N ∨ q = N + 1 ∨ q = N + 2 := by simpa using hq
    rcases e' with q | q | q | q | q | q
    · rw [q]; exact ⟨_, hz, fun v q => nomatch q⟩
    · rw [q]; exact ⟨_, hTI, fun v q => nomatch q⟩
    · rw [q]; exact ⟨_, hTO, fun v q => nomatch q⟩
    · rw [q]; exact ⟨o1, e1, fun v q => by rw [d1] at q; cases q⟩
    · rw [q]; exact ⟨o2, e2, fun v q => by rw [d2] at q; cases q⟩
    · rw [q]; exact ⟨o3, e3, fun v q => by rw [d3] at q; cases q⟩
  keep := fun i h h' st k => by
    obtain ⟨hz, hTI, ⟨x, y, z, hTO⟩, h1, h2, h3⟩ := st
    exact ⟨k _ (by simp) _ hz, k _ (by simp) _ hTI, ⟨x, y, z, k _ (by simp) _ hTO⟩, h1.at fun o q => k _ (by simp) o q, h2.at fun o q => k _ (by simp) o q, h3.at fun o q => k _ (by simp) o q⟩
  item := by
    intro X hP hw hK hc i pins s σ H E I hf st hg
    subst hP hw hK
    obtain ⟨hz, hTI, hTO, h1, h2, h3⟩ := st
    obtain ⟨xs, ys, zs, x, y, z, q1, q2, q3, x1, x2, x3⟩ := hg
    obtain ⟨is1, rv1, p1, _⟩ := I.tuple q1
    obtain ⟨is2, rv2, p2, _⟩ := I.tuple q2
    obtain ⟨is3, rv3, p3, _⟩ := I.tuple q3
    obtain ⟨u1, hu1, ru1⟩ := rv1.get x1
    obtain ⟨u2, hu2, ru2⟩ := rv2.get x2
    obtain ⟨u3, hu3, ru3⟩ := rv3.get x3
    have hh := I.ok.hd hc
    have W := WalksT.zipD3 (prog := X.prog) (w := X.w) (A := X.A) (zip_sep3 (N := N) (fp1 := [a]) (fp2 := [b]) (fp3 := [c]) (by simpa using ha) (by simpa using hb) (by simpa using hc'))
      (Draws.tuple (A := X.A.in1) hh N a (Nat.ne_of_lt ha) is1.toArray) (Draws.tuple (A := X.A.in1) hh (N + 1) b (Nat.ne_of_lt (Nat.lt_succ_of_lt hb)) is2.toArray) (Draws.tuple (A := X.A.in1) hh (N + 2) c (Nat.ne_of_lt (Nat.lt_succ_of_lt (Nat.lt_succ_of_lt hc'))) is3.toArray)
    have lt : i < min (min is1.toArray.size is2.toArray.size) is3.toArray.size := by
      have l1 := (List.getElem?_eq_some_iff.mp hu1).1
      have l2 := (List.getElem?_eq_some_iff.mp hu2).1
      have l3 := (List.getElem?_eq_some_iff.mp hu3).1
      simp only [List.size_toArray]
      omega
    have hzl : N + 5 < s.heap.objs.size := Heap.lt_size hz
    refine W.item i s _ _ lt ⟨hz, hTI, hTO, ⟨h1, p1⟩, ⟨h2, p2⟩, ⟨h3, p3⟩⟩ fun T vals h' tk pt hT0 hT mid hk => ?_
    obtain ⟨v1, v2, v3, hv1, hv2, hv3, ev⟩ := pt
    have ap := W.apart i T h' mid
    refine ⟨_, rfl, W.go elts kk tpos i T _ _ _ mid fun h'' st' hk' => ?_⟩
    obtain ⟨hz', hTI', hTO', ⟨h1', _⟩, ⟨h2', _⟩, ⟨h3', _⟩⟩ := st'
    obtain rfl : u1 = v1 := by
      have : is1.toArray[i]? = some u1 := by simpa using hu1
      rw [this] at hv1
      exact Option.some.inj hv1
    obtain rfl : u2 = v2 := by
      have : is2.toArray[i]? = some u2 := by simpa using hu2
      rw [this] at hv2
      exact Option.some.inj hv2
    obtain rfl : u3 = v3 := by
      have : is3.toArray[i]? = some u3 := by simpa using hu3
      rw [this] at hv3
      exact Option.some.inj hv3
    have hT2 : h''.IsTuple T #[u1, u2, u3] := by
      obtain ⟨o, ho, r⟩ := ev ▸ hT
      exact ⟨o, hk' T o ap ho, r⟩
    have new : ObjOk X.prog X.w (upd H T (.tup [x, y, z])) h'' T (.tup [x, y, z]) :=
      ⟨by show 3 ≤ sizeLine; decide, [u1, u2, u3], .cons ru1 (.cons ru2 (.cons ru3 .nil)), hT2⟩
    have I1 : Inv X pins σ (upd H T (.tup [x, y, z])) { s with heap := h'', toks := tk } :=
      I.turnedNew (ch := [N + 5, N + 4, N, N + 1, N + 2]) (fun b ob hb q => hk' b ob hb (hk b ob hb q)) (fun b hb => hf b (by
        simp only [List.mem_cons] at hb ⊢
        rcases hb with h | h | h | h | h | h
        · exact .inl h
        · exact .inr (.inr (.inl h))
        · exact .inr (.inr (.inr (.inl h)))
        · exact .inr (.inr (.inr (.inr (.inl h))))
        · exact .inr (.inr (.inr (.inr (.inr (.inl h)))))
        · cases h)) hT0 new
    refine ⟨.ref T, _, I1, rfl, ⟨_, x, y, z, rfl, I.hok.fresh hT0, rfl, fun l hl => by rw [I.tuple_inj hl q1]; exact x1, fun l hl => by rw [I.tuple_inj hl q2]; exact x2, fun l hl => by rw [I.tuple_inj hl q3]; exact x3⟩, ⟨hz', hTI', hTO', h1', h2', h3'⟩, fun b hb => ?_⟩
    · have hb' : b < s.heap.objs.size := by
        have e' : b = N + 5 ∨ b = N + 3 ∨ b = N + 4 ∨ b = N ∨ b = N + 1 ∨ b = N + 2 := by simpa using hb
        rcases e' with q | q | q | q | q | q
        · rw [q]; exact hzl
        · rw [q]; exact Nat.lt_of_le_of_lt (Nat.add_le_add_left (by decide : 3 ≤ 5) N) hzl
        · rw [q]; exact Nat.lt_of_le_of_lt (Nat.add_le_add_left (by decide : 4 ≤ 5) N) hzl
        · rw [q]; exact Nat.lt_of_le_of_lt (Nat.le_add_right N 5) hzl
        · rw [q]; exact Nat.lt_of_le_of_lt (Nat.add_le_add_left (by decide : 1 ≤ 5) N) hzl
        · rw [q]; exact Nat.lt_of_le_of_lt (Nat.add_le_add_left (by decide : 2 ≤ 5) N) hzl
      rw [upd_ne (Nat.ne_of_lt (Nat.lt_of_lt_of_le hb' hT0))]
      exact (hf b hb).1
  done := by
    intro X hP hw hK hc i pins s σ H E I hf st hg
    subst hP hw hK
    obtain ⟨hz, hTI, hTO, h1, h2, h3⟩ := st
    obtain ⟨xs, ys, zs, q1, q2, q3, en⟩ := hg
    obtain ⟨is1, rv1, p1, _⟩ := I.tuple q1
    obtain ⟨is2, rv2, p2, _⟩ := I.tuple q2
    obtain ⟨is3, rv3, p3, _⟩ := I.tuple q3
    have hh := I.ok.hd hc
    have W := WalksT.zipD3 (prog := X.prog) (w := X.w) (A := X.A) (zip_sep3 (N := N) (fp1 := [a]) (fp2 := [b]) (fp3 := [c]) (by simpa using ha) (by simpa using hb) (by simpa using hc'))
      (Draws.tuple (A := X.A.in1) hh N a (Nat.ne_of_lt ha) is1.toArray) (Draws.tuple (A := X.A.in1) hh (N + 1) b (Nat.ne_of_lt (Nat.lt_succ_of_lt hb)) is2.toArray) (Draws.tuple (A := X.A.in1) hh (N + 2) c (Nat.ne_of_lt (Nat.lt_succ_of_lt (Nat.lt_succ_of_lt hc'))) is3.toArray)
    have en' : min (min is1.toArray.size is2.toArray.size) is3.toArray.size = i := by
      have l1 := rv1.length
      have l2 := rv2.length
      have l3 := rv3.length
      simp only [List.size_toArray]
      omega
    refine W.done s _ _ (by rw [en']; exact ⟨hz, hTI, hTO, ⟨h1, p1⟩, ⟨h2, p2⟩, ⟨h3, p3⟩⟩) fun h' tk hk => ⟨rfl, I.turnedL (ch := [N + 5, N + 4, N, N + 1, N + 2]) (fun b o hb q => hk b o hb q) fun b hb => hf b (by
        simp only [List.mem_cons] at hb ⊢
        rcases hb with h | h | h | h | h | h
        · exact .inl h
        · exact .inr (.inr (.inl h))
        · exact .inr (.inr (.inr (.inl h)))
        · exact .inr (.inr (.inr (.inr (.inl h))))
        · exact .inr (.inr (.inr (.inr (.inr (.inl h)))))
        · cases h)⟩
  self := fun A i s Q E st h => wpAny_pyIter_zip st.1 h
def iZip3 (K : PySem.W.Frag) (ta : TA) : TI := fun σ H R => ta σ H fun vs H1 => ∃ a b c xs ys zs, vs = [.ref a, .ref b, .ref c] ∧ SqT K H1 a xs ∧ SqT K H1 b ys ∧ SqT K H1 c zs ∧ R (It3 K a b c) H1
theorem pi_zip3 {X : Cx} {e e2 e3 : Expr} {ta : TA} {p pos tpos : Pos} {elts : List Expr} {kk : Nat} (hg : Gl X "zip") (hm : X.mg "zip" = none) (ha : PA X [e, e2, e3] ta)
    (hs : starEach [e, e2, e3] X.env = (false, eval e X.env) :: starEach [e2, e3] X.env := by rfl) (hpl : (backTo pos (starEach [e2, e3] X.env)).any (·.1) = false := by rfl) :
    PI X (.Tuple elts kk tpos) (.Call (.Name "zip" p) [e, e2, e3] [] pos) (iZip3 X.K ta) := by
  refine ⟨fun pins s σ H R I h => ?_⟩
  refine Call_ (ld_blt I hg hm PyProof.Rows.boot_zip (PyProof.Rows.callWith_type1 (thn (ha.run pos pins s σ H _ I h) fun us s1 ⟨vs, H1, I1, r1, q1⟩ => ?_) hs hpl))
  obtain ⟨a, b, c, xs, ys, zs, ex, hq1, hq2, hq3, q⟩ := q1
  subst ex
  cases r1 with
  | cons r rr =>
    cases rr with
    | cons r' rr =>
      cases rr with
      | cons r'' rr =>
        cases rr
        cases r
        cases r'
        cases r''
        obtain ⟨is1, rv1, p1, _⟩ := I1.tuple hq1
        obtain ⟨is2, rv2, p2, _⟩ := I1.tuple hq2
        obtain ⟨is3, rv3, p3, _⟩ := I1.tuple hq3
        have a1 : a < s1.heap.objs.size := by obtain ⟨_, q, _⟩ := id p1; exact Heap.lt_size q
        have a2 : b < s1.heap.objs.size := by obtain ⟨_, q, _⟩ := id p2; exact Heap.lt_size q
        have a3 : c < s1.heap.objs.size := by obtain ⟨_, q, _⟩ := id p3; exact Heap.lt_size q
        refine zip_begins3 (begins_tuple a is1.toArray) (begins_tuple b is2.toArray) (begins_tuple c is3.toArray) p1 p2 p3 fun h' hz hTI hTO g1 g2 g3 hsz hk => wpAny_pyIter_zip hz ?_
        have I2 : Inv X pins σ H1 { s1 with heap := h' } := I1.kept (t' := s1.toks) hk
        refine ⟨s1.heap.objs.size + 5, _, _, _, H1, rfl, I2, turn_z3 (N := s1.heap.objs.size) a1 a2 a3, ⟨hz, hTI, ⟨_, _, _, hTO⟩, ⟨_, g1, rfl, rfl⟩, ⟨_, g2, rfl, rfl⟩, ⟨_, g3, rfl, rfl⟩⟩, fun x hx => ?_, q⟩
        have hle : s1.heap.objs.size ≤ x := by
          have e' : x = s1.heap.objs.size + 5 ∨ x = s1.heap.objs.size + 3 ∨ x = s1.heap.objs.size + 4 ∨ x = s1.heap.objs.size ∨ x = s1.heap.objs.size + 1 ∨ x = s1.heap.objs.size + 2 := by simpa using hx
          rcases e' with z | z | z | z | z | z
          · rw [z]; exact Nat.le_add_right _ _
          · rw [z]; exact Nat.le_add_right _ _
          · rw [z]; exact Nat.le_add_right _ _
          · rw [z]; exact Nat.le_refl _
          · rw [z]; exact Nat.le_add_right _ _
          · rw [z]; exact Nat.le_add_right _ _
        exact I1.fpOk hle (I1.hok.fresh hle)

section
variable {K : PySem.W.Frag} {ρ : Rho} {H : Hp}
theorem walk_enT {xs : List D} {a : Addr} {vs : List V} (hl : SqT K H a vs) (r : RelDs K ρ H xs vs) : WalkD K ρ H ⟨none, enumD 0 xs⟩ (IteT K a) where
  go := fun i ρ' M' H' d x st c' ex ep => by
    cases Option.some.inj ep
    obtain ⟨z, h1, h2⟩ := enum_get ex
    subst h2
    have h' := st.mono.sqT hl
    have r' := RelDs.mono st.mono _ _ r
    obtain ⟨y, g1, g2⟩ := r'.get h1
    refine ⟨⟨vs, y, h', g1⟩, fun w H'' hy => ?_⟩
    obtain ⟨T, u, rfl, hT, rfl, hy⟩ := hy
    have := hy vs h'
    rw [g1] at this
    cases this
    rw [show 0 + i = i by omega]
    exact pair_ok (c := c') hT (show RelD K ρ' H' (.int (i : Int)) (.int (i : Int)) from rfl) g2
  stop := fun ρ' M' H' st c' _ => ⟨vs, st.mono.sqT hl, by
    show vs.length = (enumD 0 xs).length
    rw [enum_length, r.length]⟩
theorem zip3_get : ∀ {xs ys zs : List D} {i : Nat} {z : D}, (zip3D xs ys zs)[i]? = some z → ∃ x y u, xs[i]? = some x ∧ ys[i]? = some y ∧ zs[i]? = some u ∧ z = .tup [x, y, u]
  | [], ys, zs, i, z, h => by simp [zip3D] at h
  | x :: xs, [], zs, i, z, h => by simp [zip3D] at h
  | x :: xs, y :: ys, [], i, z, h => by simp [zip3D] at h
  | x :: xs, y :: ys, u :: zs, 0, z, h => by
    simp [zip3D] at h
    exact ⟨x, y, u, rfl, rfl, rfl, h.symm⟩
  | x :: xs, y :: ys, u :: zs, i + 1, z, h => by
    have h' : (zip3D xs ys zs)[i]? = some z := by simpa [zip3D] using h
    obtain ⟨p, q, v, h1, h2, h3, h4⟩ := zip3_get h'
    exact ⟨p, q, v, by simpa using h1, by simpa using h2, by simpa using h3, h4⟩
theorem zip3_length : ∀ (xs ys zs : List D), (zip3D xs ys zs).length = min (min xs.length ys.length) zs.length
  | [], ys, zs => by simp [zip3D]
  | x :: xs, [], zs => by simp [zip3D]
  | x :: xs, y :: ys, [] => by simp [zip3D]
  | x :: xs, y :: ys, z :: zs => by
    simp only [zip3D, List.length_cons, zip3_length xs ys zs]
    omega
theorem walk_z3 {xs ys zs : List D} {a b c : Addr} {vs ws us : List V} (h1 : SqT K H a vs) (h2 : SqT K H b ws) (h3 : SqT K H c us) (r1 : RelDs K ρ H xs vs) (r2 : RelDs K ρ H ys ws) (r3 : RelDs K ρ H zs us) : WalkD K ρ H ⟨none, zip3D xs ys zs⟩ (It3 K a b c) where
  go := fun i ρ' M' H' d x st c' ex ep => by
    cases Option.some.inj ep
    obtain ⟨p, q, k, g1, g2, g3, rfl⟩ := zip3_get ex
    have s1 := st.mono.sqT h1
    have s2 := st.mono.sqT h2
    have s3 := st.mono.sqT h3
    obtain ⟨v, e1, q1⟩ := (RelDs.mono st.mono _ _ r1).get g1
    obtain ⟨w, e2, q2⟩ := (RelDs.mono st.mono _ _ r2).get g2
    obtain ⟨u, e3, q3⟩ := (RelDs.mono st.mono _ _ r3).get g3
    refine ⟨⟨vs, ws, us, v, w, u, s1, s2, s3, e1, e2, e3⟩, fun t H'' hy => ?_⟩
    obtain ⟨T, v', w', u', rfl, hT, rfl, f1, f2, f3⟩ := hy
    have a1 := f1 vs s1
    have a2 := f2 ws s2
    have a3 := f3 us s3
    rw [e1] at a1
    rw [e2] at a2
    rw [e3] at a3
    cases a1
    cases a2
    cases a3
    have st' : Step ρ' H' ρ' (upd H' T (.tup [v, w, u])) := Step.laid hT
    exact ⟨st', c'.laid hT, T, [v, w, u], rfl, upd_same, v, [w, u], rfl, RelD.mono st'.mono _ _ q1, w, [u], rfl, RelD.mono st'.mono _ _ q2, u, [], rfl, RelD.mono st'.mono _ _ q3, rfl⟩
  stop := fun ρ' M' H' st c' _ => ⟨vs, ws, us, st.mono.sqT h1, st.mono.sqT h2, st.mono.sqT h3, by
    show min (min vs.length ws.length) us.length = (zip3D xs ys zs).length
    rw [zip3_length, r1.length, r2.length, r3.length]⟩
end
end Tri

set_option Elab.async false
set_option linter.all false
set_option maxRecDepth 100000
set_option maxHeartbeats 4000000
namespace Tri
open PySem PySem.Spec PyProof.Rows L2 RZ

theorem chk_plain {c : Cfg} {e : E} {e' : Expr} (h : chk c e e' = true) : plain e' = true := by
  cases e' <;> first | rfl | (cases e <;> exact Bool.noConfusion h)
theorem chk_slice {c : Cfg} {e : E} {x y z : Option Expr} {p : Pos} (h : chk c e (.Slice x y z p) = true) : False := by
  cases e <;> exact Bool.noConfusion h
theorem chki_plain {c : Cfg} {e : It} {t e' : Expr} (h : chki c e t e' = true) : plain e' = true := by
  cases e with
  | seq a => exact chk_plain (e := a) h
  | _ => cases e' <;> first | rfl | exact Bool.noConfusion h
theorem chks_plain {c : Cfg} : ∀ {es : Es} {es' : List Expr}, chks c es es' = true → ∀ e ∈ es', plain e = true
  | .nil, [], _, e, he => by simp at he
  | .nil, x :: r, h, _, _ => Bool.noConfusion h
  | .cons e es, [], h, _, _ => Bool.noConfusion h
  | .cons e es, x :: r, h, y, hy => by
    obtain ⟨h1, h2⟩ := Bool.and_eq_true_iff.mp (show (chk c e x && chks c es r) = true from h)
    rcases List.mem_cons.mp hy with e | e
    · rw [e]; exact chk_plain h1
    · exact chks_plain h2 y e
theorem own_map (c : Cfg) (l : List Nat) : (c.own l).map (·.2) = l := by
  unfold Cfg.own
  rw [List.map_map]
  exact List.map_id _
section
variable {C : Ct} {W : WX} {σ : L2.St} {ρ : Rho} {H : Hp} {M : Store}
/-- xs[::-1] of a list -/
theorem rev_ok {H0 : Hp} {q : Q} {v : V} {P : VK} (hc : Conc C.K ρ M H) (r : RelQ C.K H0 ρ H q v) (h : Wh C W σ ρ H P (revQ q M)) : ∃ a xs, v = .ref a ∧ SqL C.K H a xs ∧ ∀ p, H p = none → P (.ref p) (upd H p (.lst xs.reverse)) := by
  have key : ∀ ys, q.items M = some ys → (∀ zs, q ≠ .v (.tup zs)) → Wh C W σ ρ H P (.ok (.tmp ys.reverse) M) → ∃ a xs, v = .ref a ∧ SqL C.K H a xs ∧ ∀ p, H p = none → P (.ref p) (upd H p (.lst xs.reverse)) := fun ys e n h => by
    obtain ⟨a, vs, e1, _, r2, _, hl⟩ := items_ok hc r e
    exact ⟨a, vs, e1, hl n, wh_tmp hc h r2.reverse⟩
  unfold revQ at h
  split at h
  · exact h.elim
  · exact h.elim
  · rename_i n1 n2
    cases e : q.items M with
    | none => rw [e] at h; exact h.elim
    | some ys =>
      rw [e] at h
      exact key ys e n1 h
theorem wh_no {P : VK} (h : Wh C W σ ρ H P .no) : False := h
/-- none or not -/
theorem non_ok {H0 : Hp} {q : Q} {v : V} (r : RelQ C.K H0 ρ H q v) : decide (v = .non) = isNon q := by
  cases q with
  | tmp xs =>
    obtain ⟨a, vs, rfl, _⟩ := r
    rfl
  | v d =>
    cases d with
    | non => rw [show v = _ from r]; rfl
    | bl b => rw [show v = _ from r]; rfl
    | int i => rw [show v = _ from r]; rfl
    | str x => rw [show v = _ from r]; rfl
    | tup xs =>
      obtain ⟨a, vs, rfl, _⟩ := r
      rfl
    | ref n =>
      obtain ⟨a, rfl, _⟩ := r
      rfl
    | fzl xs =>
      obtain ⟨a, vs, rfl, _⟩ := r
      rfl
    | dct t n =>
      obtain ⟨a, rfl, _⟩ := r
      rfl
theorem ref_ty {H0 : Hp} {q : Q} {v : V} (hc : Conc C.K ρ M H) (r : RelQ C.K H0 ρ H q v) (h : isRef q = true) : tyV C.K "list" v H := by
  cases q with
  | tmp xs => exact Bool.noConfusion h
  | v d =>
    cases d with
    | ref n =>
      obtain ⟨a, rfl, hn, hk⟩ := r
      have lt := hc.dom n a hn
      obtain ⟨b, h1, h2⟩ := hc.obj n M[n] (List.getElem?_eq_getElem lt)
      rw [hn] at h1
      cases h1
      generalize M[n] = o at h2
      cases o with
      | lst xs =>
        obtain ⟨vs, e, _⟩ := h2.lst hk
        exact .inl ⟨rfl, vs, SqL.of e⟩
    | _ => exact Bool.noConfusion h
end
/-- what is shown of an expression: its value's reading, its test's, and that of a chain of and, or whatever its whole is -/
structure Bo (C : Ct) (W : WX) (G : Gam) (X : Cx) (e : E) (e' : Expr) : Prop where
  pe : PE X e' (tQ C W (evq G e))
  pt : PT X e' (tTe C W fun τ M => tst (evq G e τ M))
  pw : ∀ op l p, e' = .BoolOp op l p → PW X e' (tTe C W fun τ M => tst (evq G e τ M))
theorem Bo.val {C : Ct} {W : WX} {G : Gam} {X : Cx} {e : E} {e' : Expr} (h : PE X e' (tQ C W (evq G e))) (hv : notB e' = true) : Bo C W G X e e' :=
  ⟨h, PT.imp (pt_val h (true_plain hv)) fun σ H P q => tTe_tQ σ H P q, fun _ _ _ z => by subst z; exact Bool.noConfusion hv⟩
/-- a comparison: by one reading both -/
theorem Bo.cmp {C : Ct} {W : WX} {G : Gam} {X : Cx} {e : E} {l : Expr} {os : List CmpOp} {rs : List Expr} {p : Pos} {t : TE} (h1 : PE X (.Compare l os rs p) t) (h2 : PT X (.Compare l os rs p) (tTest t)) (key : ∀ σ H P, tQ C W (evq G e) σ H P → t σ H P) : Bo C W G X e (.Compare l os rs p) :=
  ⟨PE.imp h1 key, PT.imp h2 fun σ H P q => key σ H _ (tTe_tQ σ H P q), fun _ _ _ z => by cases z⟩
theorem pt_ife {X : Cx} {t a b : Expr} {tt ta tb : TT} {p : Pos} (ht : PT X t tt) (ha : PT X a ta) (hb : PT X b tb) : PT X (.IfExp t a b p) (fun σ H P => tt σ H fun c H1 => if c = true then ta σ H1 P else tb σ H1 P) := by
  refine ⟨fun pins s σ H P I h => ?_⟩
  show wpAny _ _ (do if ← isTrue t X.env (eval t X.env) then isTrue a X.env (eval a X.env) else isTrue b X.env (eval b X.env)) _ _ _
  have h' : tt σ H fun c H1 => if c = true then ta σ H1 P else tb σ H1 P := h
  refine wpAny_bind (wpAny_mono (ht.run pins s σ H _ I h') (fun c s1 hq => ?_) fun _ _ x => x)
  obtain ⟨H1, I1, q⟩ := hq
  cases c with
  | true => exact ha.run pins s1 σ H1 P I1 q
  | false => exact hb.run pins s1 σ H1 P I1 q
theorem tst_bind {α : Type} (r : R α) (f : α → Store → R Q) : tst (r.bind f) = r.bind fun a M => tst (f a M) := bind_assoc _ _ _
/-- a bool handed on, as a test -/
theorem tst_tst (r : R Q) : tst ((tst r).bind fun d M => okv (.bl d) M) = tst r := by
  cases r with
  | no => rfl
  | ex c fs M => rfl
  | ok q M => cases q with
    | tmp xs => rfl
    | v d => cases d <;> rfl
/-- keywords by name: their values' reading, and that their names are these -/
def PKs (X : Cx) (ks : List Str) (kws : List Keyword) (t : TA) : Prop := PK X kws t ∧ ∀ pos env, (backToKw pos (keywordEach kws env)).map (·.1) = ks.map some
instance : Inhabited V := ⟨.non⟩
theorem perm_rel {K : PySem.W.Frag} {ρ : Rho} {H : Hp} (perm : List Nat) {ds : List D} {vs : List V} (r : RelDs K ρ H ds vs) : RelDs K ρ H (permD perm ds) (permD perm vs) := by
  unfold permD
  induction perm with
  | nil => rfl
  | cons i l ih =>
    refine ⟨_, _, rfl, ?_, ih⟩
    cases e : ds[i]? with
    | none =>
      have e2 : vs[i]? = none := by
        rw [List.getElem?_eq_none_iff] at e ⊢
        rw [← r.length]; exact e
      dsimp only
      rw [List.getD_eq_getElem?_getD, List.getD_eq_getElem?_getD, e, e2]
      rfl
    | some d =>
      obtain ⟨v, e2, rd⟩ := r.get e
      dsimp only
      rw [List.getD_eq_getElem?_getD, List.getD_eq_getElem?_getD, e, e2]
      exact rd
theorem perm_vals (perm : List Nat) {vs : List V} {us : List Value} (r : Vals vs us) : Vals (permD perm vs) (permD perm us) := by
  unfold permD
  induction perm with
  | nil => exact .nil
  | cons i l ih =>
    refine .cons ?_ ih
    cases e : vs[i]? with
    | none =>
      have e2 := Vals.none_of r e
      dsimp only
      rw [List.getD_eq_getElem?_getD, List.getD_eq_getElem?_getD, e, e2]
      rfl
    | some d =>
      obtain ⟨u, e2, rd⟩ := r.get e
      dsimp only
      rw [List.getD_eq_getElem?_getD, List.getD_eq_getElem?_getD, e, e2]
      exact rd
section
variable {X : Cx} {k : Nat} {f : Addr} {fd : FuncData} {ps ks : List Str} {sp : Sp} {E : L2.St → XK} {x : Str} {p pos : Pos} {e : Expr} {es : List Expr} {kws : List Keyword} {n : Nat} {perm : List Nat} {ta tk : TA}
theorem run_KS {pins : List (Addr × Obj)} {σ : L2.St} {H : Hp} {s : Shared} {P : VK} {us ws : List Value} {vs zs : List V} (F : FnOk X.prog X.w X.K X.mg X.base (L2.CX X.prog X.w) k f fd ps sp) (hr : Room k X.A) (hx : ∀ σ, PassesAt (L2.CX X.prog X.w) X σ (E σ))
    (hb : KwB X.K fd ps n ks perm) (I : L2.Inv X pins σ H s) (r : Vals vs us) (rz : Vals zs ws) (hn : vs.length = n) (hz : zs.length = ks.length) (h : sp (permD perm (vs ++ zs)) H P (E σ)) : wpAny (model X.prog X.w) X.A (call (.ref f) us (ks.zip ws)) (EP X pins σ P) X.xe s := by
  refine wpAny_call (codeAny_mono (F.run X.A X.stack s H ⟨us, ks.zip ws⟩ _ _ P (E σ) hr I.env0 (hb s us ws I.kIn (by rw [← r.length, hn]) (by rw [← rz.length, hz])) (perm_vals perm (r.append rz)) h) fun r s' hq => ?_)
  cases r with
  | error e => exact hx σ pins H s e s' I hq
  | ok fl =>
    cases fl with
    | ret u => exact I.after hq
    | next => exact False.elim hq
    | brk => exact False.elim hq
    | cont => exact False.elim hq
theorem kw_all {l : List (Option Str × Sem Value)} : ∀ {ks : List Str} {l : List (Option Str × Sem Value)}, l.map (·.1) = ks.map some → l.all (·.1.isSome) = true ∧ l.filterMap (·.1) = ks ∧ l.any (·.1.isNone) = false
  | [], [], _ => ⟨rfl, rfl, rfl⟩
  | [], _ :: _, h => by cases h
  | _ :: _, [], h => by cases h
  | k :: ks, (a, b) :: l, h => by
    obtain ⟨h1, h2⟩ := List.cons.inj h
    obtain ⟨a1, a2, a3⟩ := kw_all (l := []) h2
    have h1' : a = some k := h1
    subst h1'
    refine ⟨?_, ?_, ?_⟩
    · rw [List.all_cons, a1]; rfl
    · rw [List.filterMap_cons, a2]
    · rw [List.any_cons, a3]; rfl
theorem pe_callKS (F : FnOk X.prog X.w X.K X.mg X.base (L2.CX X.prog X.w) k f fd ps sp) (hr : Room k X.A) (hg : Gl X x) (hm : X.mg x = some (.ref f))
    (hk : PySem.W.keepIn X.K (.ref f) = true) (hx : ∀ σ, PassesAt (L2.CX X.prog X.w) X σ (E σ)) (hb : KwB X.K fd ps n ks perm) (hdb : (x == ("__debug__" : Str)) = false) (ha : PA X (e :: es) ta) (hkw : PKs X ks kws tk) (hp : ∀ y ∈ e :: es, plain y = true) :
    PE X (.Call (.Name x p) (e :: es) kws pos) (fun σ H P => ta σ H fun vs H1 => tk σ H1 fun zs H2 => vs.length = n ∧ zs.length = ks.length ∧ sp (permD perm (vs ++ zs)) H2 P (E σ)) := by
  refine ⟨fun pins s σ H P I h => ?_⟩
  obtain ⟨b1, b2⟩ := hkw
  obtain ⟨a1, a2, a3⟩ := kw_all (l := []) (b2 pos X.env)
  refine wpAny_Call_Name_kw (ld_glob I hg hm ?_ hdb)
  refine PySem.W.callWith_KW (h₀ := X.base) I.ok.mod.kin hk a1 (thn (ha.run pos pins s σ H _ I h) fun us s1 ⟨vs, H1, I1, r, q⟩ => ?_) (by rw [back_plain X.env pos hp, a3]; rfl) (star_plain (hp e List.mem_cons_self) _ _)
  refine thn (b1.run pos pins s1 σ H1 _ I1 q) fun ws s2 ⟨zs, H2, I2, rz, q1, q2, q3⟩ => ⟨I2.kIn, ?_⟩
  rw [a2]
  exact run_KS F hr hx hb I2 r rz q1 q2 q3
theorem pe_callKS0 (F : FnOk X.prog X.w X.K X.mg X.base (L2.CX X.prog X.w) k f fd ps sp) (hr : Room k X.A) (hg : Gl X x) (hm : X.mg x = some (.ref f))
    (hk : PySem.W.keepIn X.K (.ref f) = true) (hx : ∀ σ, PassesAt (L2.CX X.prog X.w) X σ (E σ)) (hb : KwB X.K fd ps 0 ks perm) (hdb : (x == ("__debug__" : Str)) = false) (hkw : PKs X ks kws tk) :
    PE X (.Call (.Name x p) [] kws pos) (fun σ H P => tk σ H fun zs H2 => zs.length = ks.length ∧ sp (permD perm ([] ++ zs)) H2 P (E σ)) := by
  refine ⟨fun pins s σ H P I h => ?_⟩
  obtain ⟨b1, b2⟩ := hkw
  obtain ⟨a1, a2, a3⟩ := kw_all (l := []) (b2 pos X.env)
  refine wpAny_Call_Name_kw (ld_glob I hg hm ?_ hdb)
  refine PySem.W.callWith_KW0 (h₀ := X.base) I.ok.mod.kin hk a1 ?_ (by rw [a3]; rfl)
  refine thn (b1.run pos pins s σ H _ I h) fun ws s2 ⟨zs, H2, I2, rz, q2, q3⟩ => ⟨I2.kIn, ?_⟩
  rw [a2]
  exact run_KS (us := []) F hr hx hb I2 .nil rz rfl q2 q3
end
theorem rgOk_of {lo hi : Int} {n : Nat} (h : (rngOk lo hi && decide (n ≤ lim)) = true) (e : (hi - lo).toNat = n) : RgOk lo hi := by
  obtain ⟨h1, h2⟩ := Bool.and_eq_true_iff.mp h
  unfold rngOk at h1
  simp only [Bool.and_eq_true, decide_eq_true_eq] at h1
  have := of_decide_eq_true h2
  unfold lim at this
  exact ⟨h1.1.1.1, h1.1.1.2, h1.1.2, h1.2, by omega⟩
theorem rng_rel {K : PySem.W.Frag} {ρ : Rho} {H : Hp} {lo hi : Int} : RelDs K ρ H (rng lo hi) (rgV lo hi) := by
  unfold rng rgV
  generalize List.range (hi - lo).toNat = l
  induction l with
  | nil => rfl
  | cons a l ih => exact ⟨_, _, rfl, rfl, ih⟩
theorem isKey_ok {X : Cx} {k : Key} {e : Expr} (h : isKey k e = true) : PE X e (tC (kV k)) := by
  cases e with
  | Constant v n p =>
    cases k with
    | inl i =>
      cases v with
      | int j =>
        have q : i = j := beq_iff_eq.mp h
        subst q
        exact pe_int
      | _ => exact Bool.noConfusion h
    | inr x =>
      cases v with
      | str j =>
        have q : x = j := beq_iff_eq.mp h
        subst q
        exact pe_str
      | _ => exact Bool.noConfusion h
  | _ => cases k <;> exact Bool.noConfusion h
theorem chkp_len {c : Cfg} : ∀ {es : Es} {ks : List Key} {ks' : List (Option Expr)} {vs' : List Expr}, chkp c ks es ks' vs' = true → ks.length = ks'.length ∧ ks.length = vs'.length ∧ ks'.all (·.isSome) = true
  | .nil, ks, ks', vs', h => by
    simp only [chkp, Bool.and_eq_true, List.isEmpty_iff] at h
    obtain ⟨⟨rfl, rfl⟩, rfl⟩ := h
    exact ⟨rfl, rfl, rfl⟩
  | .cons e es, ks, ks', vs', h => by
    match ks, ks', vs', h with
    | k :: ks, some k' :: ks', v' :: vs', h =>
      simp only [chkp, Bool.and_eq_true] at h
      obtain ⟨a, b, d⟩ := chkp_len h.2
      exact ⟨by simp [a], by simp [b], by simpa using d⟩
    | [], _, _, h => simp [chkp] at h
    | _ :: _, [], _, h => simp [chkp] at h
    | _ :: _, none :: _, _, h => simp [chkp] at h
    | _ :: _, some _ :: _, [], h => simp [chkp] at h
mutual
theorem sound : ∀ (e : E) {c : Cfg} {C : Ct} {W : WX} {G : Gam} {X : Cx} {e' : Expr}, Cok c C W G X → chk c e e' = true → Bo C W G X e e'
  | .non, c, C, W, G, X, e', k, h => by
    cases e' with
    | Constant v n p =>
      cases v with
      | none =>
        refine Bo.val ?_ rfl
        exact PE.imp pe_non fun σ H P ⟨ρ, τ, M, hc, hs, hw⟩ => wh_v (d := .non) hc (by simpa only [evq] using hw) rfl
      | _ => exact Bool.noConfusion h
    | _ => exact Bool.noConfusion h
  | .bl b, c, C, W, G, X, e', k, h => by
    cases e' with
    | Constant v n p =>
      cases v with
      | bool b' =>
        have e : b = b' := beq_iff_eq.mp h
        subst e
        refine Bo.val ?_ rfl
        exact PE.imp pe_bl fun σ H P ⟨ρ, τ, M, hc, hs, hw⟩ => wh_v (d := .bl b) hc (by simpa only [evq] using hw) rfl
      | _ => exact Bool.noConfusion h
    | _ => exact Bool.noConfusion h
  | .int b, c, C, W, G, X, e', k, h => by
    cases e' with
    | Constant v n p =>
      cases v with
      | int b' =>
        have e : b = b' := beq_iff_eq.mp h
        subst e
        refine Bo.val ?_ rfl
        exact PE.imp pe_int fun σ H P ⟨ρ, τ, M, hc, hs, hw⟩ => wh_v (d := .int b) hc (by simpa only [evq] using hw) rfl
      | _ => exact Bool.noConfusion h
    | _ => exact Bool.noConfusion h
  | .str b, c, C, W, G, X, e', k, h => by
    cases e' with
    | Constant v n p =>
      cases v with
      | str b' =>
        have e : b = b' := beq_iff_eq.mp h
        subst e
        refine Bo.val ?_ rfl
        exact PE.imp pe_str fun σ H P ⟨ρ, τ, M, hc, hs, hw⟩ => wh_v (d := .str b) hc (by simpa only [evq] using hw) rfl
      | _ => exact Bool.noConfusion h
    | _ => exact Bool.noConfusion h
  | .var i, c, C, W, G, X, e', k, h => by
    cases e' with
    | Name x p =>
      obtain ⟨h1, h2, h3, h4⟩ := k.vis (show c.vis i x = true from h)
      refine Bo.val ?_ rfl
      refine PE.imp (pe_var h1 h2 h3 h4) fun σ H P ⟨ρ, τ, M, hc, hs, hw⟩ => ?_
      simp only [evq] at hw
      cases ht : τ[i]? with
      | none => rw [ht] at hw; exact hw.elim
      | some o =>
        cases o with
        | none => rw [ht] at hw; exact hw.elim
        | some d =>
          rw [ht] at hw
          obtain ⟨v, e1, r⟩ := hs.2 i d ht
          exact ⟨v, e1, wh_v hc hw r⟩
    | _ => exact Bool.noConfusion h
  | .con x i, c, C, W, G, X, e', k, h => by
    cases e' with
    | Name y p =>
      simp only [chk, Bool.and_eq_true, beq_iff_eq, Bool.not_eq_true'] at h
      obtain ⟨⟨⟨rfl, h1⟩, h2⟩, h3⟩ := h
      obtain ⟨t, ht⟩ := k.cons x i (List.contains_iff_mem.mp h2)
      refine Bo.val ?_ rfl
      exact PE.imp (pe_glob (v := .int i) (k.gl h1) ht ⟨t, rfl⟩ h3) fun σ H P ⟨ρ, τ, M, hc, hs, hw⟩ => wh_v (d := .int i) hc (by simpa only [evq] using hw) rfl
    | _ => exact Bool.noConfusion h
  | .bin op a b, c, C, W, G, X, e', k, h => by
    cases e' with
    | BinOp a' op' b' p =>
      simp only [chk, Bool.and_eq_true, beq_iff_eq] at h
      obtain ⟨⟨rfl, ha⟩, hb⟩ := h
      refine Bo.val ?_ rfl
      refine PE.imp (pe_op (op_bin op) (sound a k ha).pe (sound b k hb).pe) fun σ H P ⟨ρ, τ, M, hc, hs, hw⟩ => ?_
      simp only [evq] at hw
      refine tQ_next hc hs hw fun q1 M1 ρ1 H1 v st1 c1 s1 r1 h1 => tQ_next c1 s1 h1 fun q2 M2 ρ2 H2 w st2 c2 s2 r2 h2 => ?_
      rw [k.K]
      exact bin_ok c2 (r1.step st2) (r2.back st1) h2
    | _ => exact Bool.noConfusion h
  | .neg a, c, C, W, G, X, e', k, h => by
    cases e' with
    | UnaryOp op a' p =>
      cases op with
      | USub =>
        refine Bo.val ?_ rfl
        refine PE.imp (pe_un un_neg (sound a k (show chk c a a' = true from h)).pe) fun σ H P ⟨ρ, τ, M, hc, hs, hw⟩ => ?_
        simp only [evq] at hw
        refine tQ_next hc hs hw fun q1 M1 ρ1 H1 v st1 c1 s1 r1 h1 => ?_
        split at h1
        · exact ⟨_, r1, wh_v c1 h1 rfl⟩
        · exact h1.elim
      | _ => exact Bool.noConfusion h
    | _ => exact Bool.noConfusion h
  | .not a, c, C, W, G, X, e', k, h => by
    cases e' with
    | UnaryOp op a' p =>
      cases op with
      | Not =>
        refine ⟨PE.imp (pe_not (sound a k (show chk c a a' = true from h)).pe) fun σ H P ⟨ρ, τ, M, hc, hs, hw⟩ => ?_, PT.imp (pt_not (sound a k (show chk c a a' = true from h)).pt) fun σ H P ⟨ρ, τ, M, hc, hs, hw⟩ => ?_, fun _ _ _ z => by cases z⟩
        rotate_left
        · simp only [evq] at hw
          have h2 := hw
          unfold tst at h2
          rw [bind_assoc] at h2
          exact tTe_seq hc hs h2 fun b M1 ρ1 H1 st1 c1 s1 h1 => h1 ρ1 H1 st1 c1
        simp only [evq] at hw
        exact tTe_tQ σ H _ (tTe_seq hc hs hw fun b M1 ρ1 H1 st1 c1 s1 h1 => wh_v (d := .bl (!b)) (v := .bl (!b)) c1 (whs st1 h1) rfl)
      | _ => exact Bool.noConfusion h
    | _ => exact Bool.noConfusion h
  | .and a b, c, C, W, G, X, e', k, h => by
    have key : ∀ {x y : Expr} {rest : List Expr} {p : Pos} (ha : chk c a x = true), PE X (.BoolOp .And (y :: rest) p) (tQ C W (evq G b)) → PW X (.BoolOp .And (y :: rest) p) (tTe C W fun τ M => tst (evq G b τ M)) → Bo C W G X (.and a b) (.BoolOp .And (x :: y :: rest) p) := fun {x y rest p} ha hb hw' => by
      have pw : PW X (.BoolOp .And (x :: y :: rest) p) (tTe C W fun τ M => tst (evq G (.and a b) τ M)) := by
        refine ⟨fun wh pins s σ H P I q => (pw_and (sound a k ha).pt hw').run wh pins s σ H P I ?_⟩
        obtain ⟨ρ, τ, M, hc, hs, hw⟩ := q
        simp only [evq] at hw
        rw [tst_bind] at hw
        refine tTe_seq hc hs hw fun d M1 ρ1 H1 st1 c1 s1 h1 => ?_
        cases d with
        | true =>
          simp only [if_true] at h1
          exact iteT ⟨ρ1, τ, M1, c1, s1, (by rw [tst_tst] at h1; exact sat_mono h1 (fun _ _ x ρ2 H2 st2 c2 => x ρ2 H2 (st1.trans st2) c2) fun _ _ _ x => x)⟩
        | false =>
          simp only [Bool.false_eq_true, if_false] at h1
          exact iteF (h1 ρ1 H1 st1 c1)
      refine ⟨PE.imp (pe_and (sound a k ha).pe hb) fun σ H P ⟨ρ, τ, M, hc, hs, hw⟩ => ?_, pw.pt, fun _ _ _ _ => pw⟩
      simp only [evq] at hw
      refine tTe_tQ σ H _ (tTe_seq hc hs hw fun d M1 ρ1 H1 st1 c1 s1 h1 => ?_)
      cases d with
      | true => exact iteT ⟨ρ1, τ, M1, c1, s1, tst_okv (whs st1 h1)⟩
      | false => exact iteF (wh_v (d := .bl false) (v := .bl false) c1 (whs st1 h1) rfl)
    cases e' with
    | BoolOp op l p =>
      cases op with
      | Or => exact Bool.noConfusion h
      | And =>
        match l, h with
        | [], h => exact Bool.noConfusion h
        | [x], h => exact Bool.noConfusion h
        | [x, y], h =>
          obtain ⟨ha, hb⟩ := Bool.and_eq_true_iff.mp (show (chk c a x && chk c b y) = true from h)
          exact key ha (pe_one (sound b k hb).pe) (pw_and1 (sound b k hb).pt)
        | x :: y :: z :: r, h =>
          obtain ⟨ha, hb⟩ := Bool.and_eq_true_iff.mp (show (chk c a x && chk c b (.BoolOp .And (y :: z :: r) p)) = true from h)
          exact key ha (sound b k hb).pe ((sound b k hb).pw _ _ _ rfl)
    | _ => exact Bool.noConfusion h
  | .or a b, c, C, W, G, X, e', k, h => by
    have key : ∀ {x y : Expr} {rest : List Expr} {p : Pos} (ha : chk c a x = true), PE X (.BoolOp .Or (y :: rest) p) (tQ C W (evq G b)) → PW X (.BoolOp .Or (y :: rest) p) (tTe C W fun τ M => tst (evq G b τ M)) → Bo C W G X (.or a b) (.BoolOp .Or (x :: y :: rest) p) := fun {x y rest p} ha hb hw' => by
      have pw : PW X (.BoolOp .Or (x :: y :: rest) p) (tTe C W fun τ M => tst (evq G (.or a b) τ M)) := by
        refine ⟨fun wh pins s σ H P I q => (pw_or (sound a k ha).pt hw').run wh pins s σ H P I ?_⟩
        obtain ⟨ρ, τ, M, hc, hs, hw⟩ := q
        simp only [evq] at hw
        rw [tst_bind] at hw
        refine tTe_seq hc hs hw fun d M1 ρ1 H1 st1 c1 s1 h1 => ?_
        cases d with
        | true =>
          simp only [if_true] at h1
          exact iteT (h1 ρ1 H1 st1 c1)
        | false =>
          simp only [Bool.false_eq_true, if_false] at h1
          exact iteF ⟨ρ1, τ, M1, c1, s1, (by rw [tst_tst] at h1; exact sat_mono h1 (fun _ _ x ρ2 H2 st2 c2 => x ρ2 H2 (st1.trans st2) c2) fun _ _ _ x => x)⟩
      refine ⟨PE.imp (pe_or (sound a k ha).pe hb) fun σ H P ⟨ρ, τ, M, hc, hs, hw⟩ => ?_, pw.pt, fun _ _ _ _ => pw⟩
      simp only [evq] at hw
      refine tTe_tQ σ H _ (tTe_seq hc hs hw fun d M1 ρ1 H1 st1 c1 s1 h1 => ?_)
      cases d with
      | true => exact iteT (wh_v (d := .bl true) (v := .bl true) c1 (whs st1 h1) rfl)
      | false => exact iteF ⟨ρ1, τ, M1, c1, s1, tst_okv (whs st1 h1)⟩
    cases e' with
    | BoolOp op l p =>
      cases op with
      | And => exact Bool.noConfusion h
      | Or =>
        match l, h with
        | [], h => exact Bool.noConfusion h
        | [x], h => exact Bool.noConfusion h
        | [x, y], h =>
          obtain ⟨ha, hb⟩ := Bool.and_eq_true_iff.mp (show (chk c a x && chk c b y) = true from h)
          exact key ha (pe_one (sound b k hb).pe) (pw_or1 (sound b k hb).pt)
        | x :: y :: z :: r, h =>
          obtain ⟨ha, hb⟩ := Bool.and_eq_true_iff.mp (show (chk c a x && chk c b (.BoolOp .Or (y :: z :: r) p)) = true from h)
          exact key ha (sound b k hb).pe ((sound b k hb).pw _ _ _ rfl)
    | _ => exact Bool.noConfusion h
  | .ife t a b, c, C, W, G, X, e', k, h => by
    cases e' with
    | IfExp t' a' b' p =>
      simp only [chk, Bool.and_eq_true] at h
      obtain ⟨⟨ht, ha⟩, hb⟩ := h
      refine ⟨PE.imp (pe_ifExp (sound t k ht).pt (sound a k ha).pe (sound b k hb).pe) fun σ H P ⟨ρ, τ, M, hc, hs, hw⟩ => ?_, PT.imp (pt_ife (sound t k ht).pt (sound a k ha).pt (sound b k hb).pt) fun σ H P ⟨ρ, τ, M, hc, hs, hw⟩ => ?_, fun _ _ _ z => by cases z⟩
      · simp only [evq] at hw
        refine tTe_seq hc hs hw fun d M1 ρ1 H1 st1 c1 s1 h1 => ?_
        cases d with
        | true => exact iteT ⟨ρ1, τ, M1, c1, s1, whs st1 h1⟩
        | false => exact iteF ⟨ρ1, τ, M1, c1, s1, whs st1 h1⟩
      · simp only [evq] at hw
        rw [tst_bind] at hw
        refine tTe_seq hc hs hw fun d M1 ρ1 H1 st1 c1 s1 h1 => ?_
        cases d with
        | true => exact iteT ⟨ρ1, τ, M1, c1, s1, sat_mono h1 (fun _ _ x ρ2 H2 st2 c2 => x ρ2 H2 (st1.trans st2) c2) fun _ _ _ x => x⟩
        | false => exact iteF ⟨ρ1, τ, M1, c1, s1, sat_mono h1 (fun _ _ x ρ2 H2 st2 c2 => x ρ2 H2 (st1.trans st2) c2) fun _ _ _ x => x⟩
    | _ => exact Bool.noConfusion h
  | .cmp op a b, c, C, W, G, X, e', k, h => by
    cases e' with
    | Compare a' ops bs p =>
      match ops, bs, h with
      | [op'], [b'], h =>
        simp only [chk, Bool.and_eq_true, beq_iff_eq] at h
        obtain ⟨⟨rfl, ha⟩, hb⟩ := h
        refine Bo.cmp (pe_cmpR (op_cmp k.units op) (sound a k ha).pe (sound b k hb).pe (mark_plain (chk_plain hb) _)) (pt_cmpR (op_cmp k.units op) (sound a k ha).pe (sound b k hb).pe (mark_plain (chk_plain hb) _)) fun σ H P ⟨ρ, τ, M, hc, hs, hw⟩ => ?_
        simp only [evq] at hw
        refine tQ_next hc hs hw fun q1 M1 ρ1 H1 v st1 c1 s1 r1 h1 => tQ_next c1 s1 h1 fun q2 M2 ρ2 H2 w st2 c2 s2 r2 h2 => ?_
        rw [k.K]
        exact cmp_ok c2 (r1.step st2) (r2.back st1) h2
      | [], _, h => exact Bool.noConfusion h
      | [_], [], h => exact Bool.noConfusion h
      | [_], _ :: _ :: _, h => exact Bool.noConfusion h
      | _ :: _ :: _, _, h => exact Bool.noConfusion h
    | _ => exact Bool.noConfusion h
  | .cmp2 o1 o2 a b d, c, C, W, G, X, e', k, h => by
    cases e' with
    | Compare a' ops bs p =>
      match ops, bs, h with
      | [p1, p2], [b', d'], h =>
        simp only [chk, Bool.and_eq_true, beq_iff_eq] at h
        obtain ⟨⟨⟨⟨rfl, rfl⟩, ha⟩, hb⟩, hd⟩ := h
        refine Bo.cmp (pe_chain (op_cmp k.units o1) (op_cmp k.units o2) (sound a k ha).pe (sound b k hb).pe (sound d k hd).pe (mark2 (chk_plain hd))) (pt_chain (op_cmp k.units o1) (op_cmp k.units o2) (sound a k ha).pe (sound b k hb).pe (sound d k hd).pe (mark2 (chk_plain hd))) fun σ H P ⟨ρ, τ, M, hc, hs, hw⟩ => ?_
        simp only [evq] at hw
        refine tQ_next hc hs hw fun q1 M1 ρ1 H1 v st1 c1 s1 r1 h1 => tQ_next c1 s1 h1 fun q2 M2 ρ2 H2 w st2 c2 s2 r2 h2 => ?_
        rw [k.K]
        have r1' := r1.step st2
        split at h2
        · rename_i i j
          rw [show v = _ from r1', show w = _ from r2]
          split at h2
          · rename_i e1
            refine cmpI_ok (C := C) e1 ⟨true, rfl, iteT ?_⟩
            refine tQ_next c2 s2 h2 fun q3 M3 ρ3 H3 u st3 c3 s3 r3 h3 => ?_
            split at h3
            · rename_i l
              rw [show u = _ from r3]
              cases e2 : cmpI o2 j l with
              | none => rw [e2] at h3; exact h3.elim
              | some b =>
                rw [e2] at h3
                exact cmpI_ok (C := C) e2 (wh_v c3 h3 rfl)
            · exact h3.elim
          · rename_i e1
            exact cmpI_ok (C := C) e1 ⟨false, rfl, iteF (wh_v c2 h2 rfl)⟩
          · exact h2.elim
        · exact h2.elim
      | [], _, h => exact Bool.noConfusion h
      | [_], _, h => exact Bool.noConfusion h
      | [_, _], [], h => exact Bool.noConfusion h
      | [_, _], [_], h => exact Bool.noConfusion h
      | [_, _], _ :: _ :: _ :: _, h => exact Bool.noConfusion h
      | _ :: _ :: _ :: _, _, h => exact Bool.noConfusion h
    | _ => exact Bool.noConfusion h
  | .isN a, c, C, W, G, X, e', k, h => by
    cases e' with
    | Compare a' ops bs p =>
      match ops, bs, h with
      | [.Is], [.Constant .none _ _], h =>
        refine Bo.cmp (pe_cmp (pc_isN (sound a k (show chk c a a' = true from h)).pe) rfl) (pt_cmp (pc_isN (sound a k (show chk c a a' = true from h)).pe) rfl) fun σ H P ⟨ρ, τ, M, hc, hs, hw⟩ => ?_
        simp only [evq] at hw
        refine tQ_next hc hs hw fun q1 M1 ρ1 H1 v st1 c1 s1 r1 h1 => ?_
        rw [non_ok r1]
        exact wh_v c1 h1 rfl
    | _ => exact Bool.noConfusion h
  | .notN a, c, C, W, G, X, e', k, h => by
    cases e' with
    | Compare a' ops bs p =>
      match ops, bs, h with
      | [.IsNot], [.Constant .none _ _], h =>
        refine Bo.cmp (pe_cmp (pc_notN (sound a k (show chk c a a' = true from h)).pe) rfl) (pt_cmp (pc_notN (sound a k (show chk c a a' = true from h)).pe) rfl) fun σ H P ⟨ρ, τ, M, hc, hs, hw⟩ => ?_
        simp only [evq] at hw
        refine tQ_next hc hs hw fun q1 M1 ρ1 H1 v st1 c1 s1 r1 h1 => ?_
        rw [non_ok r1]
        exact wh_v c1 h1 rfl
    | _ => exact Bool.noConfusion h
  | .isi a t, c, C, W, G, X, e', k, h => by
    cases e' with
    | Call f args kw p =>
      match f, args, kw, h with
      | .Name x _, [a', .Name y _], [], h =>
        simp only [chk, Bool.and_eq_true, beq_iff_eq, bne_iff_ne, ne_eq] at h
        obtain ⟨⟨⟨⟨⟨rfl, h1⟩, ht⟩, rfl⟩, h2⟩, ha⟩ := h
        obtain ⟨g1, m1⟩ := k.bi h1
        obtain ⟨g2, m2⟩ := k.bi h2
        refine Bo.val ?_ rfl
        refine PE.imp (pe_isi t ht g1 m1 g2 m2 (sound a k ha).pe (chk_plain ha)) fun σ H P ⟨ρ, τ, M, hc, hs, hw⟩ => ?_
        simp only [evq] at hw
        refine tQ_next hc hs hw fun q1 M1 ρ1 H1 v st1 c1 s1 r1 h1 => ?_
        show rIsi X.K [v, .ty (tyStr t)] H1 P
        rw [k.K]
        exact isi_ok ht c1 r1 h1
    | _ => exact Bool.noConfusion h
  | .tup es, c, C, W, G, X, e', k, h => by
    cases e' with
    | Tuple es' n p =>
      refine Bo.val ?_ rfl
      refine PE.imp (pe_tup (soundS es k (show chks c es es' = true from h))) fun σ H P ⟨ρ, τ, M, hc, hs, hw⟩ => ?_
      simp only [evq] at hw
      refine tL_seq hc hs hw fun ds M1 ρ1 H1 vs st1 c1 s1 r1 hl h1 => ?_
      have h1 := sat_mono h1 (fun _ _ x => Post.step st1 x) (fun _ _ _ x => x)
      split at h1
      · rename_i hl
        refine ⟨?_, wh_tup c1 h1 r1⟩
        rw [← r1.length, sizeLine_eq]
        omega
      · exact h1.elim
    | _ => exact Bool.noConfusion h
  | .lst es, c, C, W, G, X, e', k, h => by
    cases e' with
    | List es' p =>
      refine Bo.val ?_ rfl
      refine PE.imp (pe_lst (soundS es k (show chks c es es' = true from h))) fun σ H P ⟨ρ, τ, M, hc, hs, hw⟩ => ?_
      simp only [evq] at hw
      refine tL_seq hc hs hw fun ds M1 ρ1 H1 vs st1 c1 s1 r1 hl h1 => ?_
      have h1 := sat_mono h1 (fun _ _ x => Post.step st1 x) (fun _ _ _ x => x)
      split at h1
      · rename_i hl
        refine ⟨?_, wh_tmp c1 h1 r1⟩
        rw [← r1.length, sizeLine_eq]
        omega
      · exact h1.elim
    | _ => exact Bool.noConfusion h
  | .ix a i, c, C, W, G, X, e', k, h => by
    cases e' with
    | Subscript a' i' p =>
      obtain ⟨ha, hi⟩ := Bool.and_eq_true_iff.mp (show (chk c a a' && chk c i i') = true from h)
      refine Bo.val ?_ rfl
      refine PE.imp (pe_ix ix_any (sound a k ha).pe (sound i k hi).pe (ix_plain (chk_plain hi) fun x y z p e => by subst e; exact chk_slice hi)) fun σ H P ⟨ρ, τ, M, hc, hs, hw⟩ => ?_
      simp only [evq] at hw
      refine tQ_next hc hs hw fun q1 M1 ρ1 H1 v st1 c1 s1 r1 h1 => tQ_next c1 s1 h1 fun q2 M2 ρ2 H2 w st2 c2 s2 r2 h2 => ?_
      rw [k.K]
      exact ix_ok c2 (r1.step st2) (r2.back st1) h2
    | _ => exact Bool.noConfusion h
  | .sl a lo hi, c, C, W, G, X, e', k, h => by
    cases e' with
    | Subscript a' i' p =>
      cases i' with
      | Slice lo' hi' st p2 =>
        cases st with
        | none =>
          simp only [chk, Bool.and_eq_true] at h
          obtain ⟨⟨ha, hl⟩, hh⟩ := h
          refine Bo.val ?_ rfl
          refine PE.imp (pe_slice sl_any (sound a k ha).pe (soundO lo k hl) (soundO hi k hh)) fun σ H P ⟨ρ, τ, M, hc, hs, hw⟩ => ?_
          simp only [evq] at hw
          refine tQ_next hc hs hw fun q1 M1 ρ1 H1 v st1 c1 s1 r1 h1 => tO_seq c1 s1 h1 fun l M2 ρ2 H2 st2 c2 s2 h2 => tO_seq c2 s2 h2 fun u M3 ρ3 H3 st3 c3 s3 h3 => ?_
          rw [k.K]
          exact sl_ok c3 ((r1.step st2).step st3) (sat_mono h3 (fun _ _ x => Post.step (st2.trans st3) x) fun _ _ _ x => x)
        | some z => exact Bool.noConfusion h
      | _ => exact Bool.noConfusion h
    | _ => exact Bool.noConfusion h
  | .dnew t, c, C, W, G, X, e', k, h => by
    cases e' with
    | Dict ks vs p =>
      match ks, vs, h with
      | [], [], h =>
        refine Bo.val ?_ rfl
        cases t with
        | false =>
          refine PE.imp pe_dnewK fun σ H P ⟨ρ, τ, M, hc, hs, hw⟩ => ?_
          simp only [evq] at hw
          exact fun p hp => dnew_ok (t := false) hc hp rfl (.inr (.inl ⟨[], [], upd_same, rfl, rfl⟩)) hw
        | true =>
          refine PE.imp pe_dnewT fun σ H P ⟨ρ, τ, M, hc, hs, hw⟩ => ?_
          simp only [evq] at hw
          exact fun p hp => dnew_ok (t := true) hc hp rfl (.inr (.inr ⟨[], [], upd_same, rfl, rfl⟩)) hw
    | _ => exact Bool.noConfusion h
  | .disp ks es, c, C, W, G, X, e', k, h => by
    cases e' with
    | Dict ks' vs' p =>
      have h' : chkp c ks es ks' vs' = true := h
      obtain ⟨hl1, hl2, hall⟩ := chkp_len h'
      refine Bo.val ?_ rfl
      by_cases hd : dispOk ks = true
      · have hd' := hd
        unfold dispOk at hd'
        simp only [Bool.and_eq_true, decide_eq_true_eq, Bool.not_eq_true', List.isEmpty_eq_false_iff] at hd'
        obtain ⟨trs, pp, ht⟩ := soundP es k h' p
        refine PE.imp (pe_disp pp hall (by rw [← hl1, ← hl2]) (fun z => hd'.2 (List.eq_nil_of_length_eq_zero (by rw [hl1, z]; rfl))) (by rw [← hl1]; exact hd'.1)) fun σ H P ⟨ρ, τ, M, hc, hs, hw⟩ p hp => ?_
        simp only [evq, hd, if_true] at hw
        have st0 : Step ρ H ρ (upd H p (.dK [])) := Step.laid hp
        refine ht _ _ _ ⟨ρ, τ, M, hc.laid hp, hs.mono st0.mono, sat_mono (sat_bind hw) (fun ds M1 hq ρ1 H1 vs st c1 r hl => ?_) fun _ _ _ x => x.step st0⟩
        rw [if_pos hl] at hq
        obtain ⟨g1, g2⟩ := disp_ok hc hp st c1 r hl.symm hq
        exact ⟨g1, ks.zip vs, rfl, by rw [List.length_zip]; omega, g2⟩
      · refine ⟨fun pins s σ H P I ⟨ρ, τ, M, hc, hs, hw⟩ => ?_⟩
        simp only [evq, hd, if_false] at hw
        exact hw.elim
    | _ => exact Bool.noConfusion h
  | .dget d kx, c, C, W, G, X, e', k, h => by
    cases e' with
    | Subscript d' k' p =>
      obtain ⟨h1, h2⟩ := Bool.and_eq_true_iff.mp (show (chk c d d' && chk c kx k') = true from h)
      refine Bo.val ?_ rfl
      refine PE.imp (pe_dget (by have := k.units; omega) (sound d k h1).pe (sound kx k h2).pe (noSl_of fun x y z q e => by subst e; exact chk_slice h2)) fun σ H P ⟨ρ, τ, M, hc, hs, hw⟩ => ?_
      simp only [evq] at hw
      refine tQ_next hc hs hw fun q1 M1 ρ1 H1 v st1 c1 s1 r1 h1 => tQ_next c1 s1 h1 fun q2 M2 ρ2 H2 w st2 c2 s2 r2 h2 => ?_
      exact dget_ok c2 (r1.step st2) r2 h2
    | _ => exact Bool.noConfusion h
  | .din neg kx d, c, C, W, G, X, e', k, h => by
    cases e' with
    | Compare k' ops rs p =>
      match ops, rs, h with
      | [op'], [d'], h =>
        simp only [chk, Bool.and_eq_true] at h
        obtain ⟨⟨h0, h1⟩, h2⟩ := h
        have hu : X.A.units + 1 < cLine := by have := k.units; omega
        have key : ∀ σ H P, tQ C W (evq G (.din neg kx d)) σ H P → tQ C W (evq G kx) σ H fun y H1 => tQ C W (evq G d) σ H1 fun x H2 => ∃ a o, x = .ref a ∧ DGet H2 a y o ∧ P (.bl (neg ^^ o.isSome)) H2 := fun σ H P ⟨ρ, τ, M, hc, hs, hw⟩ => by
          simp only [evq] at hw
          refine tQ_next hc hs hw fun q1 M1 ρ1 H1 v st1 c1 s1 r1 h1 => tQ_next c1 s1 h1 fun q2 M2 ρ2 H2 w st2 c2 s2 r2 h2 => ?_
          exact din_ok c2 (r1.step st2) r2 h2
        cases neg with
        | false =>
          have e : op' = .In := beq_iff_eq.mp h0
          subst e
          have pc := pc_din hu (sound kx k h1).pe (sound d k h2).pe
          exact Bo.cmp (pe_cmp pc (mark_plain (chk_plain h2) _)) (pt_cmp pc (mark_plain (chk_plain h2) _)) fun σ H P q => by have := key σ H P q; simp only [Bool.false_xor] at this; exact this
        | true =>
          have e : op' = .NotIn := beq_iff_eq.mp h0
          subst e
          have pc := pc_dnotin hu (sound kx k h1).pe (sound d k h2).pe
          exact Bo.cmp (pe_cmp pc (mark_plain (chk_plain h2) _)) (pt_cmp pc (mark_plain (chk_plain h2) _)) fun σ H P q => by have := key σ H P q; simp only [Bool.true_xor] at this; exact this
      | [], _, h => exact Bool.noConfusion h
      | [_], [], h => exact Bool.noConfusion h
      | [_], _ :: _ :: _, h => exact Bool.noConfusion h
      | _ :: _ :: _, _, h => exact Bool.noConfusion h
    | _ => exact Bool.noConfusion h
  | .rev a, c, C, W, G, X, e', k, h => by
    cases e' with
    | Subscript a' i' p =>
      match i', h with
      | .Slice none none (some (.UnaryOp .USub (.Constant (.int 1) _ _) _)) _, h =>
        refine Bo.val ?_ rfl
        refine PE.imp (pe_revL (sound a k (show chk c a a' = true from h)).pe) fun σ H P ⟨ρ, τ, M, hc, hs, hw⟩ => ?_
        simp only [evq] at hw
        refine tQ_next hc hs hw fun q1 M1 ρ1 H1 v st1 c1 s1 r1 h1 => ?_
        rw [k.K]
        exact rev_ok c1 r1 h1
    | _ => exact Bool.noConfusion h
  | .call f es, c, C, W, G, X, e', k, h => by
    cases e' with
    | Call fn args kw p =>
      match fn, args, kw, h with
      | .Name x _, a' :: es', [], h =>
        simp only [chk, Bool.and_eq_true, Bool.not_eq_true'] at h
        obtain ⟨⟨⟨h1, h2⟩, h3⟩, h4⟩ := h
        cases hf : c.fns[f]? with
        | none => rw [hf] at h3; exact Bool.noConfusion h3
        | some q =>
          obtain ⟨y, ps⟩ := q
          rw [hf] at h3
          simp only [Bool.and_eq_true, beq_iff_eq] at h3
          obtain ⟨rfl, hl⟩ := h3
          obtain ⟨g, a, fd, kk, hg, hm, hk, hb, _, F, hr⟩ := k.fns f x ps hf
          have pl := chks_plain h4
          refine Bo.val ?_ rfl
          refine PE.imp (pe_callS F hr (k.gl h1) hm hk hb (fun σ => passAt k.tk σ) (soundS es k h4) h2 (star_plain (pl _ List.mem_cons_self) _ _) (back_plain _ _ fun z hz => pl z (List.mem_cons_of_mem _ hz))) fun σ H P ⟨ρ, τ, M, hc, hs, hw⟩ => ?_
          simp only [evq] at hw
          refine tL_seq hc hs hw fun ds M1 ρ1 H1 vs st1 c1 s1 r1 hn h5 => ?_
          rw [hg] at h5
          exact ⟨ρ1, M1, ds, c1, r1, by rw [hn, hl], sat_mono (sat_bind h5) (fun d M2 x ρ' H' v st c' r => x ρ' H' v (st1.trans st) c' r) fun cl fs M2 x ρ' H' cls d st c' r => x ρ' H' cls d st c' r⟩
    | _ => exact Bool.noConfusion h
  | .callK f es ws ks perm, c, C, W, G, X, e', k, h => by
    cases e' with
    | Call fn args kw p =>
      cases fn with
      | Name x px =>
        simp only [chk, Bool.and_eq_true, Bool.not_eq_true'] at h
        obtain ⟨⟨⟨⟨⟨⟨h1, h2⟩, h3⟩, h3k⟩, h4⟩, h5⟩, h6⟩ := h
        cases hf : c.fns[f]? with
        | none => rw [hf] at h3; exact Bool.noConfusion h3
        | some q =>
          obtain ⟨y, ps⟩ := q
          rw [hf] at h3
          simp only [Bool.and_eq_true, beq_iff_eq] at h3
          obtain ⟨rfl, hl⟩ := h3
          cases hkw : c.kws[f]? with
          | none => rw [hkw] at h3k; exact Bool.noConfusion h3k
          | some l =>
            rw [hkw] at h3k
            obtain ⟨g, a, fd, kk, hg, hm, hk, hb, hkb, F, hr⟩ := k.fns f x ps hf
            have KB := hkb l _ _ _ hkw (List.contains_iff_mem.mp h3k)
            refine Bo.val ?_ rfl
            have fin : ∀ {ρ : Rho} {M2 : Store} {H2 : Hp} {σ : L2.St} {P : VK} {ds zs : List D} {vs us : List V}, Conc C.K ρ M2 H2 → RelDs C.K ρ H2 ds vs → RelDs C.K ρ H2 zs us → ((g (permD perm (ds ++ zs)) M2).bind fun d M3 => okv d M3).sat (Post C.K ρ H2 P) (XW C W ρ H2 σ) → spOf C ps.length g (permD perm (vs ++ us)) H2 P (WE W σ) := fun c2 r1 r2 h6 =>
              ⟨_, _, _, c2, perm_rel perm (r1.append r2), by unfold permD; rw [List.length_map, hl], sat_mono (sat_bind h6) (fun d M3 x ρ' H' v st c' r => x ρ' H' v st c' r) fun cl fs M3 x ρ' H' cls d st c' r => x ρ' H' cls d st c' r⟩
            cases args with
            | nil =>
              refine PE.imp (pe_callKS0 F hr (k.gl h1) hm hk (fun σ => passAt k.tk σ) KB h2 (soundK ws k h5)) fun σ H P ⟨ρ, τ, M, hc, hs, hw⟩ => ?_
              cases es with
              | cons e es => exact Bool.noConfusion h4
              | nil =>
                simp only [evq, evs] at hw
                refine tL_seq hc hs hw fun zs M2 ρ2 H2 us st2 c2 s2 r2 hn2 h6 => ⟨by rw [← r2.length]; exact hn2, ?_⟩
                rw [hg] at h6
                exact fin (ds := []) (vs := []) c2 rfl r2 (sat_mono h6 (fun _ _ x => Post.step st2 x) fun _ _ _ x => x)
            | cons a' args =>
              refine PE.imp (pe_callKS F hr (k.gl h1) hm hk (fun σ => passAt k.tk σ) KB h2 (soundS es k h4) (soundK ws k h5) (chks_plain h4)) fun σ H P ⟨ρ, τ, M, hc, hs, hw⟩ => ?_
              simp only [evq] at hw
              refine tL_seq hc hs hw fun ds M1 ρ1 H1 vs st1 c1 s1 r1 hn h5 => tL_seq c1 s1 h5 fun zs M2 ρ2 H2 us st2 c2 s2 r2 hn2 h6 => ⟨by rw [← r1.length]; exact hn, by rw [← r2.length]; exact hn2, ?_⟩
              rw [hg] at h6
              exact fin c2 (RelDs.mono st2.mono _ _ r1) r2 (sat_mono h6 (fun _ _ x => Post.step (st1.trans st2) x) fun _ _ _ x => x)
      | _ => exact Bool.noConfusion h
    | _ => exact Bool.noConfusion h
  | .lrg1 a, c, C, W, G, X, e', k, h => by
    cases e' with
    | Call fn args kw p =>
      match fn, args, kw, h with
      | .Name x _, [.Call (.Name y _) [a'] [] _], [], h =>
        simp only [chk, Bool.and_eq_true, beq_iff_eq] at h
        obtain ⟨⟨⟨⟨rfl, h1⟩, rfl⟩, h2⟩, ha⟩ := h
        obtain ⟨g1, m1⟩ := k.bi h1
        obtain ⟨g2, m2⟩ := k.bi h2
        refine Bo.val ?_ rfl
        refine PE.imp (pe_listRg k.calm g1 m1 (prg_1 g2 m2 (sound a k ha).pe (star_plain (chk_plain ha) _ _)) rfl) fun σ H P ⟨ρ, τ, M, hc, hs, hw⟩ => ?_
        simp only [evq] at hw
        refine tQ_next hc hs hw fun q1 M1 ρ1 H1 v st1 c1 s1 r1 h1 => ?_
        split at h1
        · rename_i n
          split at h1
          · rename_i hr
            exact ⟨n, r1, rgOk_of (lo := 0) (hi := n) hr (by rw [show n - 0 = n by omega]), wh_tmp c1 h1 rng_rel⟩
          · exact h1.elim
        · exact h1.elim
    | _ => exact Bool.noConfusion h
  | .lrg2 a b, c, C, W, G, X, e', k, h => by
    cases e' with
    | Call fn args kw p =>
      match fn, args, kw, h with
      | .Name x _, [.Call (.Name y _) [a', b'] [] _], [], h =>
        simp only [chk, Bool.and_eq_true, beq_iff_eq] at h
        obtain ⟨⟨⟨⟨⟨rfl, h1⟩, rfl⟩, h2⟩, ha⟩, hb⟩ := h
        obtain ⟨g1, m1⟩ := k.bi h1
        obtain ⟨g2, m2⟩ := k.bi h2
        refine Bo.val ?_ rfl
        refine PE.imp (pe_listRg k.calm g1 m1 (prg_2 g2 m2 (sound a k ha).pe (sound b k hb).pe (star_plain (chk_plain ha) _ _) (star_plain (chk_plain hb) _ _) (back_plain _ _ (by simpa using chk_plain hb))) rfl) fun σ H P ⟨ρ, τ, M, hc, hs, hw⟩ => ?_
        simp only [evq] at hw
        refine tQ_next hc hs hw fun q1 M1 ρ1 H1 v st1 c1 s1 r1 h1 => tQ_next c1 s1 h1 fun q2 M2 ρ2 H2 w st2 c2 s2 r2 h2 => ?_
        have r1' := r1.step st2
        split at h2
        · rename_i lo hi
          split at h2
          · rename_i hr
            exact ⟨lo, hi, r1', r2, rgOk_of hr rfl, wh_tmp c2 h2 rng_rel⟩
          · exact h2.elim
        · exact h2.elim
    | _ => exact Bool.noConfusion h
  | .b1 f a, c, C, W, G, X, e', k, h => by
    cases e' with
    | Call fn args kw p =>
      match fn, args, kw, h with
      | .Name x _, [a'], [], h =>
        simp only [chk, Bool.and_eq_true, beq_iff_eq] at h
        obtain ⟨⟨rfl, h1⟩, ha⟩ := h
        obtain ⟨g1, m1⟩ := k.bi h1
        refine Bo.val ?_ rfl
        refine PE.imp (pe_b1 k.calm f g1 m1 (sound a k ha).pe (chk_plain ha)) fun σ H P ⟨ρ, τ, M, hc, hs, hw⟩ => ?_
        simp only [evq] at hw
        refine tQ_next hc hs hw fun q1 M1 ρ1 H1 v st1 c1 s1 r1 h1 => ?_
        show rB1 X.K f [v] H1 P
        rw [k.K]
        exact b1_ok c1 r1 h1
    | _ => exact Bool.noConfusion h
  | .b2 f a b, c, C, W, G, X, e', k, h => by
    cases e' with
    | Call fn args kw p =>
      match fn, args, kw, h with
      | .Name x _, [a', b'], [], h =>
        simp only [chk, Bool.and_eq_true, beq_iff_eq] at h
        obtain ⟨⟨⟨rfl, h1⟩, ha⟩, hb⟩ := h
        obtain ⟨g1, m1⟩ := k.bi h1
        refine Bo.val ?_ rfl
        refine PE.imp (pe_b2 k.calm f g1 m1 (sound a k ha).pe (sound b k hb).pe (chk_plain ha) (chk_plain hb)) fun σ H P ⟨ρ, τ, M, hc, hs, hw⟩ => ?_
        simp only [evq] at hw
        refine tQ_next hc hs hw fun q1 M1 ρ1 H1 v st1 c1 s1 r1 h1 => tQ_next c1 s1 h1 fun q2 M2 ρ2 H2 w st2 c2 s2 r2 h2 => ?_
        exact b2_ok c2 (r1.step st2) (r2.back st1) h2
    | _ => exact Bool.noConfusion h
  | .m0 m o, c, C, W, G, X, e', k, h => by
    cases e' with
    | Call fn args kw p =>
      match fn, args, kw, h with
      | .Attribute o' x ap, [], [], h =>
        simp only [chk, Bool.and_eq_true] at h
        obtain ⟨⟨⟨hx, hr⟩, hl⟩, ho⟩ := h
        have e := beq_iff_eq.mp hx
        subst e
        refine Bo.val ?_ rfl
        refine PE.imp (pe_m0 m (sound o k ho).pe hr hl) fun σ H P ⟨ρ, τ, M, hc, hs, hw⟩ => ?_
        simp only [evq] at hw
        refine tQ_next hc hs hw fun q1 M1 ρ1 H1 v st1 c1 s1 r1 h1 => ?_
        rw [k.K]
        exact m0_ok c1 r1 h1
    | _ => exact Bool.noConfusion h
  | .m1 m o a, c, C, W, G, X, e', k, h => by
    cases e' with
    | Call fn args kw p =>
      match fn, args, kw, h with
      | .Attribute o' x ap, [a'], [], h =>
        simp only [chk, Bool.and_eq_true] at h
        obtain ⟨⟨⟨⟨hx, hr⟩, hl⟩, ho⟩, ha⟩ := h
        have e := beq_iff_eq.mp hx
        subst e
        refine Bo.val ?_ rfl
        refine PE.imp (pe_m1 m (sound o k ho).pe (sound a k ha).pe hr (chk_plain ha) hl) fun σ H P ⟨ρ, τ, M, hc, hs, hw⟩ => ?_
        simp only [evq] at hw
        refine tQ_next hc hs hw fun q1 M1 ρ1 H1 v st1 c1 s1 r1 h1 => ?_
        split at h1
        · rename_i hq
          refine ⟨by rw [k.K]; exact ref_ty c1 r1 hq, ?_⟩
          cases m with
          | append =>
            simp only [argQ] at h1
            have h2 := h1
            unfold Wh at h2
            rw [bind_assoc] at h2
            refine tD_tQ σ H1 _ (tD_seq c1 s1 h2 fun d M2 ρ2 H2 w st2 c2 s2 r2 h2 => ?_)
            exact m1_ok (m := .append) (q2 := .v d) c2 (r1.step st2) r2 (whs st2 h2)
          | extend => exact tQ_next c1 s1 h1 fun q2 M2 ρ2 H2 w st2 c2 s2 r2 h2 => m1_ok (m := .extend) c2 (r1.step st2) (r2.back st1) h2
          | pop => exact tQ_next c1 s1 h1 fun q2 M2 ρ2 H2 w st2 c2 s2 r2 h2 => m1_ok (m := .pop) c2 (r1.step st2) (r2.back st1) h2
        · exact h1.elim
    | _ => exact Bool.noConfusion h
  | .lc elt tg it cond own, c, C, W, G, X, e', k, h => by
    cases e' with
    | ListComp elt' gs scope p =>
      match gs, h with
      | [⟨tg', it', ifs, as⟩], h =>
        simp only [chk, Bool.and_eq_true, beq_iff_eq] at h
        obtain ⟨⟨⟨⟨⟨⟨has, hown⟩, hblk⟩, hi⟩, ht⟩, hcd⟩, he⟩ := h
        have e0 : as = 0 := has
        subst e0
        have ok := blkOk_by hblk
        rw [← k.N, ← k.sc] at ok
        have base := pe_lc k.calm k.nd (soundI it k hi) ok (fun s H a cl fp => tg_ok (k.blk scope s H a cl fp) tg tg' ht) (fun s H a cl fp => soundC cond (k.blk scope s H a cl fp) hcd)
          (fun s H a cl fp => (sound elt (k.blk scope s H a cl fp) he).pe) (fun x => fold_plain (chki_plain hi) _ x) (pos := p)
        rw [own_map] at base
        refine Bo.val ?_ rfl
        refine PE.imp base fun σ H P q => ?_
        simp only [evq] at q
        exact lc_ok hown q
    | _ => exact Bool.noConfusion h
theorem soundS : ∀ (es : Es) {c : Cfg} {C : Ct} {W : WX} {G : Gam} {X : Cx} {es' : List Expr}, Cok c C W G X → chks c es es' = true → PA X es' (tL C W es'.length (evs G es))
  | .nil, c, C, W, G, X, es', k, h => by
    cases es' with
    | nil =>
      refine PA.imp pa_nil fun σ H P ⟨ρ, τ, M, hc, hs, hw⟩ => ?_
      simp only [evs] at hw
      exact hw ρ H [] (Step.refl _ _) hc rfl rfl
    | cons x r => exact Bool.noConfusion h
  | .cons e es, c, C, W, G, X, es', k, h => by
    cases es' with
    | nil => exact Bool.noConfusion h
    | cons x r =>
      obtain ⟨h1, h2⟩ := Bool.and_eq_true_iff.mp (show (chk c e x && chks c es r) = true from h)
      refine PA.imp (pa_cons (sound e k h1).pe (soundS es k h2) (star_plain (chk_plain h1) _ _)) fun σ H P ⟨ρ, τ, M, hc, hs, hw⟩ => ?_
      simp only [evs] at hw
      refine tD_tQ σ H _ (tD_seq hc hs hw fun d M1 ρ1 H1 v st1 c1 s1 r1 h1 => tL_seq c1 s1 h1 fun ds M2 ρ2 H2 vs st2 c2 s2 r2 hl h2 => ?_)
      exact h2 ρ2 H2 (v :: vs) (st1.trans st2) c2 ⟨v, vs, rfl, RelD.mono st2.mono _ _ r1, r2⟩ (by rw [List.length_cons, List.length_cons, hl])
theorem soundP : ∀ (es : Es) {c : Cfg} {C : Ct} {W : WX} {G : Gam} {X : Cx} {ks : List Key} {ks' : List (Option Expr)} {vs' : List Expr}, Cok c C W G X → chkp c ks es ks' vs' = true → ∀ pos : Pos, ∃ trs, PPs X pos ks' vs' trs ∧
    ∀ (σ : L2.St) (H : Hp) (Q : List (V × V) → Hp → Prop), tL C W ks.length (evs G es) σ H (fun vs H1 => Q ((ks.zip vs).map fun kv => (kV kv.1, kv.2)) H1) → tPairs trs σ H Q
  | .nil, c, C, W, G, X, ks, ks', vs', k, h, pos => by
    simp only [chkp, Bool.and_eq_true, List.isEmpty_iff] at h
    obtain ⟨⟨rfl, rfl⟩, rfl⟩ := h
    refine ⟨[], pps_nil, fun σ H Q ⟨ρ, τ, M, hc, hs, hw⟩ => ?_⟩
    simp only [evs] at hw
    exact hw ρ H [] (Step.refl _ _) hc rfl rfl
  | .cons e es, c, C, W, G, X, ks, ks', vs', k, h, pos => by
    match ks, ks', vs', h with
    | kk :: ks, some k' :: ks', v' :: vs', h =>
      simp only [chkp, Bool.and_eq_true] at h
      obtain ⟨⟨h1, h2⟩, h3⟩ := h
      obtain ⟨trs, pp, ht⟩ := soundP es k h3 pos
      refine ⟨_, pps_cons (isKey_ok h1) (sound e k h2).pe pp, fun σ H Q ⟨ρ, τ, M, hc, hs, hw⟩ => ?_⟩
      simp only [evs] at hw
      refine tD_tQ σ H _ (tD_seq hc hs hw fun d M1 ρ1 H1 v st1 c1 s1 r1 h1 => ht σ H1 _ (tL_seq c1 s1 h1 fun ds M2 ρ2 H2 vs st2 c2 s2 r2 hl h2 => ?_))
      exact h2 ρ2 H2 (v :: vs) (st1.trans st2) c2 ⟨v, vs, rfl, RelD.mono st2.mono _ _ r1, r2⟩ (by rw [List.length_cons, List.length_cons, hl])
    | [], _, _, h => simp [chkp] at h
    | _ :: _, [], _, h => simp [chkp] at h
    | _ :: _, none :: _, _, h => simp [chkp] at h
    | _ :: _, some _ :: _, [], h => simp [chkp] at h
theorem soundK : ∀ (es : Es) {c : Cfg} {C : Ct} {W : WX} {G : Gam} {X : Cx} {ks : List Str} {kws : List Keyword}, Cok c C W G X → chkk c es ks kws = true → PKs X ks kws (tL C W ks.length (evs G es))
  | .nil, c, C, W, G, X, ks, kws, k, h => by
    simp only [chkk, Bool.and_eq_true, List.isEmpty_iff] at h
    obtain ⟨rfl, rfl⟩ := h
    refine ⟨⟨fun pos pins s σ H P I hq => pk_nil.run pos pins s σ H P I ?_⟩, fun _ _ => rfl⟩
    obtain ⟨ρ, τ, M, hc, hs, hw⟩ := hq
    simp only [evs] at hw
    exact hw ρ H [] (Step.refl _ _) hc rfl rfl
  | .cons e es, c, C, W, G, X, ks, kws, k, h => by
    match ks, kws, h with
    | kk :: ks, ⟨some x, e', kp⟩ :: r, h =>
      simp only [chkk, Bool.and_eq_true, beq_iff_eq] at h
      obtain ⟨⟨rfl, h1⟩, h2⟩ := h
      obtain ⟨b1, b2⟩ := soundK es k h2
      refine ⟨⟨fun pos pins s σ H P I hq => (pk_cons (sound e k h1).pe b1).run pos pins s σ H P I ?_⟩, fun pos env => ?_⟩
      · obtain ⟨ρ, τ, M, hc, hs, hw⟩ := hq
        simp only [evs] at hw
        refine tD_tQ σ H _ (tD_seq hc hs hw fun d M1 ρ1 H1 v st1 c1 s1 r1 h1 => tL_seq c1 s1 h1 fun ds M2 ρ2 H2 vs st2 c2 s2 r2 hl h2 => ?_)
        exact h2 ρ2 H2 (v :: vs) (st1.trans st2) c2 ⟨v, vs, rfl, RelD.mono st2.mono _ _ r1, r2⟩ (by rw [List.length_cons, List.length_cons, hl])
      · have := b2 pos env
        show ((some kk) :: (backToKw pos (keywordEach r env)).map (·.1)) = (some kk) :: ks.map some
        rw [this]
theorem soundO : ∀ (e : Eo) {c : Cfg} {C : Ct} {W : WX} {G : Gam} {X : Cx} {e' : Option Expr}, Cok c C W G X → chko c e e' = true → PO X e' (tO C W (evo G e))
  | .no, c, C, W, G, X, e', k, h => by
    cases e' with
    | none =>
      refine ⟨fun pins s σ H P I ⟨ρ, τ, M, hc, hs, hw⟩ => po_none.run pins s σ H P I ?_⟩
      simp only [evo] at hw
      exact hw ρ H (Step.refl _ _) hc
    | some x => exact Bool.noConfusion h
  | .so e, c, C, W, G, X, e', k, h => by
    cases e' with
    | none => exact Bool.noConfusion h
    | some x =>
      refine ⟨fun pins s σ H P I ⟨ρ, τ, M, hc, hs, hw⟩ => (po_some (sound e k (show chk c e x = true from h)).pe).run pins s σ H P I ?_⟩
      simp only [evo] at hw
      refine tQ_seq hc hs hw fun q1 M1 ρ1 H1 v st1 c1 s1 r1 h1 => ?_
      split at h1
      · exact ⟨_, r1, h1 ρ1 H1 st1 c1⟩
      · exact h1.elim
theorem soundC : ∀ (e : Eo) {c : Cfg} {C : Ct} {W : WX} {G : Gam} {X : Cx} {es' : List Expr}, Cok c C W G X → chkc c e es' = true → PTs X es' (tTe C W (evc G e))
  | .no, c, C, W, G, X, es', k, h => by
    cases es' with
    | nil =>
      refine ⟨fun pins s σ H P I ⟨ρ, τ, M, hc, hs, hw⟩ => pts_nil.run pins s σ H P I ?_⟩
      simp only [evc] at hw
      exact hw ρ H (Step.refl _ _) hc
    | cons x r => exact Bool.noConfusion h
  | .so e, c, C, W, G, X, es', k, h => by
    match es', h with
    | [x], h =>
      refine ⟨fun pins s σ H P I q => (pts_one (sound e k (show chk c e x = true from h)).pt).run pins s σ H P I ?_⟩
      simp only [evc] at q
      exact q
theorem soundI : ∀ (e : It) {c : Cfg} {C : Ct} {W : WX} {G : Gam} {X : Cx} {tg e' : Expr}, Cok c C W G X → chki c e tg e' = true → PI X tg e' (tIt C W (evi G e))
  | .seq a, c, C, W, G, X, tg, e', k, h => by
    refine PI.imp (pi_seq (sound a k (show chk c a e' = true from h)).pe) fun σ H R ⟨ρ, τ, M, hc, hs, hw⟩ => ?_
    simp only [evi] at hw
    refine tQ_seq hc hs hw fun q1 M1 ρ1 H1 v st1 c1 s1 r1 h1 => ?_
    rw [k.K]
    cases e : q1.items M1 with
    | none =>
      unfold Q.src at h1
      rw [e] at h1
      exact h1.elim
    | some xs =>
      obtain ⟨b, vs, rfl, hb, rb, ht, hl⟩ := items_ok c1 r1 e
      have fix : (∀ n, q1 ≠ .v (.ref n)) → srcR (q1.src M1) M1 = .ok ⟨none, xs⟩ M1 := fun hn => by
        unfold Q.src
        rw [e]
        cases q1 with
        | tmp ys => rfl
        | v d => cases d with
          | ref n => exact absurd rfl (hn n)
          | _ => rfl
      refine ⟨b, rfl, ?_⟩
      cases q1 with
      | tmp ys =>
        rw [fix (fun n z => by cases z)] at h1
        obtain ⟨b', vs', e1, h0, ha, hn, r⟩ := r1
        cases e1
        exact .inl ⟨⟨_, SqL.of ha⟩, h1 ρ1 H1 _ st1 c1 (walk_fix (fun ρ' H' st => SqL.of (st.frame _ _ ha hn)) (by cases Option.some.inj e; exact r))⟩
      | v d =>
        cases d with
        | tup ys =>
          rw [fix (fun n z => by cases z)] at h1
          obtain ⟨b', vs', e1, ha, r⟩ := r1
          cases e1
          exact .inr ⟨⟨_, SqT.of ha⟩, h1 ρ1 H1 _ st1 c1 (walk_fixT (SqT.of ha) (by cases Option.some.inj e; exact r))⟩
        | fzl ys =>
          rw [fix (fun n z => by cases z)] at h1
          obtain ⟨b', vs', e1, ha, r⟩ := r1
          cases e1
          have hl : ∀ ρ' H', Step ρ1 H1 ρ' H' → SqL C.K H' b vs' := fun ρ' H' st => by
            rcases ha with ⟨u, ha⟩ | ha
            · exact .inl (.inr ⟨u, st.frzs _ _ _ ha⟩)
            · exact ha H'
          exact .inl ⟨⟨_, hl ρ1 H1 (Step.refl _ _)⟩, h1 ρ1 H1 _ st1 c1 (walk_fix hl (by cases Option.some.inj e; exact r))⟩
        | ref n =>
          have e2 : srcR ((Q.v (.ref n)).src M1) M1 = .ok ⟨some n, xs⟩ M1 := by
            unfold Q.src
            rw [e]; rfl
          rw [e2] at h1
          obtain ⟨b', e1, hn⟩ := r1
          cases e1
          exact .inl ⟨⟨_, hl fun ys z => by cases z⟩, h1 ρ1 H1 _ st1 c1 (walk_live hn.1 hn.2)⟩
        | non => cases e
        | bl _ => cases e
        | int _ => cases e
        | str _ => cases e
        | dct _ _ => cases e
  | .rg1 a, c, C, W, G, X, tg, e', k, h => by
    cases e' with
    | Call fn args kw p =>
      match fn, args, kw, h with
      | .Name x _, [a'], [], h =>
        simp only [chki, Bool.and_eq_true, beq_iff_eq] at h
        obtain ⟨⟨rfl, h1⟩, ha⟩ := h
        obtain ⟨g1, m1⟩ := k.bi h1
        refine PI.imp (pi_range1 g1 m1 (pa1 (sound a k ha).pe (chk_plain ha)) (star_plain (chk_plain ha) _ _)) fun σ H R ⟨ρ, τ, M, hc, hs, hw⟩ => ?_
        simp only [evi] at hw
        refine tQ_seq hc hs hw fun q1 M1 ρ1 H1 v st1 c1 s1 r1 h1 => ?_
        split at h1
        · rename_i n
          split at h1
          · rename_i hr
            unfold rngOk at hr
            simp only [Bool.and_eq_true, decide_eq_true_eq] at hr
            rw [show v = _ from r1]
            refine ⟨n, rfl, hr.1.2, hr.2, ?_⟩
            have := h1 ρ1 H1 _ st1 c1 walk_rng
            rw [show n - 0 = n by omega] at this
            exact this
          · exact h1.elim
        · exact h1.elim
    | _ => exact Bool.noConfusion h
  | .rg2 a b, c, C, W, G, X, tg, e', k, h => by
    cases e' with
    | Call fn args kw p =>
      match fn, args, kw, h with
      | .Name x _, [a', b'], [], h =>
        simp only [chki, Bool.and_eq_true, beq_iff_eq] at h
        obtain ⟨⟨⟨rfl, h1⟩, ha⟩, hb⟩ := h
        obtain ⟨g1, m1⟩ := k.bi h1
        refine PI.imp (pi_range2 g1 m1 (pa2 (sound a k ha).pe (sound b k hb).pe (chk_plain ha) (chk_plain hb)) (by rw [star_plain (chk_plain ha), star_plain (chk_plain hb)]; rfl) (star_plain (chk_plain hb) _ _)) fun σ H R ⟨ρ, τ, M, hc, hs, hw⟩ => ?_
        simp only [evi] at hw
        refine tQ_seq hc hs hw fun q1 M1 ρ1 H1 v st1 c1 s1 r1 h1 => tQ_seq c1 s1 h1 fun q2 M2 ρ2 H2 w st2 c2 s2 r2 h2 => ?_
        have r1' := r1.step st2
        split at h2
        · rename_i lo hi
          split at h2
          · rename_i hr
            unfold rngOk at hr
            simp only [Bool.and_eq_true, decide_eq_true_eq] at hr
            rw [show v = _ from r1', show w = _ from r2]
            exact ⟨lo, hi, rfl, ⟨hr.1.1.1, hr.1.1.2, hr.1.2, hr.2⟩, h2 ρ2 H2 _ (st1.trans st2) c2 walk_rng⟩
          · exact h2.elim
        · exact h2.elim
    | _ => exact Bool.noConfusion h
  | .en a, c, C, W, G, X, tg, e', k, h => by
    cases e' with
    | Call fn args kw p =>
      match fn, args, kw, h with
      | .Name x _, [a'], [], h =>
        simp only [chki, Bool.and_eq_true, beq_iff_eq] at h
        obtain ⟨⟨⟨htg, rfl⟩, h1⟩, ha⟩ := h
        obtain ⟨g1, m1⟩ := k.bi h1
        cases tg with
        | Tuple elts kk tpos =>
          refine PI.imp (pi_enA g1 m1 (pa1 (sound a k ha).pe (chk_plain ha)) (star_plain (chk_plain ha) _ _)) fun σ H R ⟨ρ, τ, M, hc, hs, hw⟩ => ?_
          simp only [evi] at hw
          refine tQ_seq hc hs hw fun q1 M1 ρ1 H1 v st1 c1 s1 r1 h1 => ?_
          rw [k.K]
          split at h1
          · obtain ⟨b', vs', e1, h0, ha, hn, r⟩ := r1
            subst e1
            exact ⟨b', vs', rfl, .inl ⟨SqL.of ha, h1 ρ1 H1 _ st1 c1 (walk_en (fun ρ' H' st => SqL.of (st.frame _ _ ha hn)) r)⟩⟩
          · obtain ⟨b', vs', e1, ha, r⟩ := r1
            subst e1
            exact ⟨b', vs', rfl, .inr ⟨SqT.of ha, h1 ρ1 H1 _ st1 c1 (walk_enT (SqT.of ha) r)⟩⟩
          · exact h1.elim
        | _ => exact Bool.noConfusion htg
    | _ => exact Bool.noConfusion h
  | .zip a b, c, C, W, G, X, tg, e', k, h => by
    cases e' with
    | Call fn args kw p =>
      match fn, args, kw, h with
      | .Name x _, [a', b'], [], h =>
        simp only [chki, Bool.and_eq_true, beq_iff_eq] at h
        obtain ⟨⟨⟨⟨htg, rfl⟩, h1⟩, ha⟩, hb⟩ := h
        obtain ⟨g1, m1⟩ := k.bi h1
        cases tg with
        | Tuple elts kk tpos =>
          refine PI.imp (pi_zipA g1 m1 (pa2 (sound a k ha).pe (sound b k hb).pe (chk_plain ha) (chk_plain hb)) (star_plain (chk_plain ha) _ _) (back_plain _ _ (by simpa using chk_plain hb))) fun σ H R ⟨ρ, τ, M, hc, hs, hw⟩ => ?_
          simp only [evi] at hw
          refine tQ_seq hc hs hw fun q1 M1 ρ1 H1 v st1 c1 s1 r1 h1 => tQ_seq c1 s1 h1 fun q2 M2 ρ2 H2 w st2 c2 s2 r2 h2 => ?_
          rw [k.K]
          have r1' := r1.step st2
          split at h2
          · obtain ⟨x1, vs, rfl, hx, rx⟩ := r1'
            obtain ⟨x2, ws, rfl, hy, ry⟩ := r2
            exact ⟨x1, x2, vs, ws, rfl, .inr ⟨SqT.of hx, SqT.of hy, h2 ρ2 H2 _ (st1.trans st2) c2 (walk_zp (SqT.of hx) (SqT.of hy) rx ry)⟩⟩
          · exact h2.elim
        | _ => exact Bool.noConfusion htg
    | _ => exact Bool.noConfusion h
  | .zip3 a b d, c, C, W, G, X, tg, e', k, h => by
    cases e' with
    | Call fn args kw p =>
      match fn, args, kw, h with
      | .Name x _, [a', b', d'], [], h =>
        simp only [chki, Bool.and_eq_true, beq_iff_eq] at h
        obtain ⟨⟨⟨⟨⟨htg, rfl⟩, h1⟩, ha⟩, hb⟩, hd⟩ := h
        obtain ⟨g1, m1⟩ := k.bi h1
        cases tg with
        | Tuple elts kk tpos =>
          refine PI.imp (pi_zip3 g1 m1 (pa_cons (sound a k ha).pe (pa2 (sound b k hb).pe (sound d k hd).pe (chk_plain hb) (chk_plain hd)) (star_plain (chk_plain ha) _ _)) (star_plain (chk_plain ha) _ _) (by rw [star_plain (chk_plain hb), star_plain (chk_plain hd)]; rfl)) fun σ H R ⟨ρ, τ, M, hc, hs, hw⟩ => ?_
          simp only [evi] at hw
          refine tQ_seq hc hs hw fun q1 M1 ρ1 H1 v st1 c1 s1 r1 h1 => tQ_seq c1 s1 h1 fun q2 M2 ρ2 H2 w st2 c2 s2 r2 h2 => tQ_seq c2 s2 h2 fun q3 M3 ρ3 H3 u st3 c3 s3 r3 h3 => ?_
          rw [k.K]
          have r1' := (r1.step st2).step st3
          have r2' := r2.step st3
          split at h3
          · obtain ⟨x1, vs, rfl, hx, rx⟩ := r1'
            obtain ⟨x2, ws, rfl, hy, ry⟩ := r2'
            obtain ⟨x3, us, rfl, hz, rz⟩ := r3
            exact ⟨x1, x2, x3, vs, ws, us, rfl, SqT.of hx, SqT.of hy, SqT.of hz, h3 ρ3 H3 _ ((st1.trans st2).trans st3) c3 (walk_z3 (SqT.of hx) (SqT.of hy) (SqT.of hz) rx ry rz)⟩
          · exact h3.elim
        | _ => exact Bool.noConfusion htg
    | _ => exact Bool.noConfusion h
end
end Tri

set_option Elab.async false
set_option linter.all false
set_option maxRecDepth 100000
set_option maxHeartbeats 4000000
/-! An own error below ValueError whose __init__ says super().__init__(..) and keeps its fields. (The walk is that of the kit's ExcSuper, for another base.) -/
namespace PySem
namespace TX
open PySem.ESX
abbrev veI : Value := .builtin "ValueError.__init__"
abbrev vw (x : Addr) : Obj := { cls := .type "method-wrapper", dict := none, data := .fields #[veI, .ref x], slots := #[] }
abbrev veTail : List Value := [.type "ValueError", .type "Exception", .type "BaseException", .type "object"]
theorem ve_ty : typeOf veI = pure (.type "wrapper_descriptor") := by show builtinType _ = _; rw [builtinType_eq_fast]; kernel_rfl
theorem ve_nac : (kfb_private% "nameAndClass") veI = (pure (("__init__" : Str), Value.type "ValueError") : Sem (Str × Value)) := by kernel_rfl
section
variable {M : Model} {A : Around} {E : Value → Shared → Prop} {h : Heap} {g : Array GenState} {d : Drawn} {t : Nat} {os : OsState}
theorem bound_ve {x C : Addr} {P : Fin → Shared → Prop} (isV : W.Looks M h (isInstance (.ref x) (.type "ValueError")) true) (fin : P (.done (.ret (.ref h.objs.size))) ⟨h.push (vw x), g, d, t, os⟩) : wpAny M A (Builtin.«wrapper_descriptor.__get__» ⟨[veI, .ref x, .ref C], []⟩) P E ⟨h, g, d, t, os⟩ := by
  unfold Builtin.«wrapper_descriptor.__get__»
  refine wpAny_bind (wpAny_of_eq (a := (veI, some (.ref x), some (.ref C))) (by first | rfl | kernel_rfl) ?_)
  show wpAny M A ((kfb_private% "checkInstance") veI (.ref x) >>= fun _ => newFields "method-wrapper" [veI, .ref x] >>= fun r => ret r) P E _
  refine wpAny_bind ?_
  show wpAny M A ((kfb_private% "nameAndClass") veI >>= _) _ E _
  refine wpAny_bind (wpAny_of_eq ve_nac ?_)
  show wpAny M A (isInstance (.ref x) (.type "ValueError") >>= _) _ E _
  exact wpAny_bind (isV.at (W.KFB.if_not rfl (wpAny_pure (wpAny_bind (wpAny_newObj_type (wpAny_pure fin))))))
end
end TX
end PySem
namespace PySem
namespace TX
open PySem.ESX PySem.W PySem.Calls PyProof.Rows
section
variable {prog : Program} {w : World} {A : Around} {E : Value → Shared → Prop} {h : Heap} {g : Array GenState} {d : Drawn} {t : Nat} {os : OsState}
abbrev soO (D x C : Addr) : Obj := { cls := .type "super", dict := none, data := .fields #[.ref D, .ref x, .ref C], slots := #[] }
/-- what the walk wants of the class's row of bases -/
structure Row (prog : Program) (w : World) (h : Heap) (K : Frag) (D x C : Addr) (l : List Value) : Prop where
  opq : W.Looks (model prog w) h (opaqueClassAbove (.ref C)) none
  mro : ∃ l₀, W.Looks (model prog w) h (mroOf (.ref C)) l₀ ∧ (l₀.dropWhile (· != .ref D)).drop 1 = l
  kin : K.In h
  ali : alongIn K "__init__" l = some (some veI)
  ne : x ≠ C
  isV : W.Looks (model prog w) h (isInstance (.ref x) (.type "ValueError")) true
theorem look_ve {so D x C : Addr} {l : List Value} {K : Frag} {tk : Tok} {Q : Fin → Shared → Prop} (hs : h.get? so = some (soO D x C)) (r : Row prog w h K D x C l) (fin : Q (.done (.ret (.ref h.objs.size))) ⟨h.push (vw x), g, d, t, os⟩) : wpAny (model prog w) A (Builtin.«super.__getattribute__» ⟨[.ref so, .str "__init__" tk], []⟩) Q E ⟨h, g, d, t, os⟩ := by
  obtain ⟨opq, ⟨l₀, mro, cutL⟩, kin, ali, ne, isV⟩ := r
  have look := slot_wd.lookup
  have diff : (Value.ref x == Value.ref C) = false := by simp [ne]
  have nm : (("__init__" : Str) == ("__class__" : Str)) = false := by decide +kernel
  have fnT := ve_ty
  have tyI : Shared.TypeIs ⟨h, g, d, t, os⟩ veI "wrapper_descriptor" := ve_ty
  have dt : (soO D x C).data = .fields #[.ref D, .ref x, .ref C] := rfl
  have c0 : (#[.ref D, .ref x, .ref C] : Array Value)[0]? = some (.ref D) := rfl
  have c1 : (#[.ref D, .ref x, .ref C] : Array Value)[1]? = some (.ref x) := rfl
  have c2 : (#[.ref D, .ref x, .ref C] : Array Value)[2]? = some (.ref C) := rfl
  unfold Builtin.«super.__getattribute__»
  repeat (first | (with_reducible refine wpAny_field hs dt c0 ?_) | (with_reducible refine wpAny_field hs dt c1 ?_) | (with_reducible refine wpAny_field hs dt c2 ?_) | (with_reducible refine ks_wpAny_notOpaque opq ?_) | (with_reducible refine Looks.at mro ?_; rw [cutL]) | (refine ks_forIn_along kin (fun _ _ => rfl) rfl ?_ ali) | (with_reducible refine wpAny_call_entry slot_wd tyI entry_wd ?_ (args_wd _ _ _)) | (with_reducible refine bound_ve isV ?_) | (with_reducible refine ⟨_, rfl, ?_⟩) | (simp only [nm, diff, Bool.or_false, Bool.false_eq_true, if_false]) | wp_step | dsimp only)
  all_goals exact fin
end
end TX
end PySem
namespace PySem
namespace TX
open PySem.ESX PySem.W PySem.Calls PyProof.Rows
section
variable {prog : Program} {w : World} {M : Model} {A : Around} {E : Value → Shared → Prop} {s : Shared} {h : Heap} {g : Array GenState} {d : Drawn} {t : Nat} {os : OsState}
theorem method_ve {so D x C : Addr} {l : List Value} {K : Frag} {pl : Sem Bool} {Q : Value × List Value → Shared → Prop} (hs : h.get? so = some (soO D x C)) (r : Row prog w h K D x C l) (fin : Q (.ref h.objs.size, []) ⟨h.push (vw x), g, d, t + 1, os⟩) : wpAny (model prog w) A (getMethod (.ref so) "__init__" pl) Q E ⟨h, g, d, t, os⟩ := by
  have look := F.ks_slot_super_ga.lookup
  have canon := F.ks_canon_super_ga
  have ty : ∀ t', (⟨h, g, d, t', os⟩ : Shared).TypeIs (.ref so) "super" := fun _ => ⟨_, hs, rfl⟩
  unfold getMethod
  refine wpAny_bind (wpAny_specialOf (ty _) look ?_)
  show wpAny _ _ (if (Manifest.canonical "super.__getattribute__" != "object.__getattribute__") = true then _ else _) _ _ _
  rw [if_pos canon]
  unfold getAttr getAttrBy
  refine wpAny_bind (wpAny_bind (wpAny_mkText (wpAny_holding (wpAny_bind (wpAny_typeOf (ty _) (wpAny_bind (wpAny_of_eq look ?_)))))))
  show wpAny _ _ (getAttrByItsOwn (.ref so) (.str "__init__" t) (.type "super") (.builtin "super.__getattribute__") true false) _ _ _
  unfold getAttrByItsOwn hookBefore callGetattribute boundAndCalled
  refine wpAny_bind (wpAny_of_eq (show (if onTheHeap (.type "super") then typeLookup (.type "super") "__getattr__" else pure none) = pure none from rfl) (wpAny_bind (wpAny_attempt (wpAny_holding ?_))))
  show wpAny _ _ (bindSpecial (.builtin "super.__getattribute__") (.ref so) >>= _) _ _ _
  refine wpAny_bind (wpAny_of_eq (F.ks_slot_super_ga.bind _) ?_)
  refine wpAny_mono (Q := fun v s' => v = .ref h.objs.size ∧ s' = ⟨h.push (vw x), g, d, t + 1, os⟩) (E := fun _ _ => False) (wpAny_call_entry F.ks_slot_super_ga (ty _) F.ks_entry_super_ga (look_ve hs r ⟨_, rfl, rfl, rfl⟩) (F.ks_gaArgs_super _ _)) (fun v s' hv => ?_) fun _ _ z => z.elim
  obtain ⟨rfl, rfl⟩ := hv
  exact wpAny_pure (wpAny_pure fin)
theorem with_vw {pos : Pos} {u x : Addr} {env : Env} {es : List Expr} {Q : Value → Shared → Prop} (pl : (backTo pos (starEach es env)).any (·.1) = false)
    (k : wpAny M A (evalArgs (.ref u) true (backTo pos (starEach es env)) []) (fun a s₁ => s₁.heap.get? u = some (vw x) ∧ wpAny M A (call (.ref u) ([] ++ a.pos) a.kw) Q E s₁) E s) : wpAny M A (callWith pos (.ref u) [] (backTo pos (starEach es env)) []) Q E s := by
  unfold callWith
  refine wpAny_bind (wpAny_holding (wpAny_mono k (fun a s₁ ⟨ho, go⟩ => wpAny_bind (wpAny_standAt ?_)) fun _ _ x => x))
  simp only [pl, List.any_nil, Bool.or_false]
  refine wpAny_bind (m := keeperOf (.ref u)) ?_
  unfold keeperOf
  refine wpAny_bind (wpAny_load ho ?_)
  simp only [vw, show (Value.type "method-wrapper" != Value.type "method") = true by decide, show (Value.type "method-wrapper" == Value.type "builtin_function_or_method" || Value.type "method-wrapper" == Value.type "method-wrapper") = true by decide, if_true]
  exact wpAny_pure (wpAny_bind (wpAny_mono go (fun r s₂ hr => wpAny_bind (wpAny_holding (wpAny_point (wpAny_pure hr)))) fun _ _ x => x))
end
section
variable {prog : Program} {w : World} {A : Around} {E : Value → Shared → Prop} {h : Heap} {g : Array GenState} {d : Drawn} {t : Nat} {os : OsState}
variable {nm q : Str} {C N : Addr} {bs bm : List Value} {hdct : Bool} {sn : List Str} {sub : List Value} {ab : Bool} {col : Option Bool} {dd : Option Addr} {k0 k1 k2 k3 k5 : Option Value}
theorem call_vw {u e t0 : Addr} {rest : List Value} {Q : Value → Shared → Prop} (hC : h.get? C = some (excClassObj nm q C N bs bm hdct sn sub ab col dd k0 k1 k2 k3 k5 "ValueError.__new__")) (he : h.get? e = some (HandSPX.excO C t0)) (hu : h.get? u = some (vw e)) (short : rest.length ≤ sizeLine)
    (fin : ∀ h' t1, (∀ b o, b ≠ e → h.get? b = some o → h'.get? b = some o) → h'.get? e = some (HandSPX.excO C t1) → Q .none ⟨h', g, d, t, os⟩) : wpAny (model prog w) A (call (.ref u) rest) Q E ⟨h, g, d, t, os⟩ := by
  refine wpAny_call (codeAny_of_tree ?_)
  show wpAny _ A.in1 (callAny (.ref u) ⟨rest, []⟩) _ _ _
  simp only [callAny]
  refine wpAny_bind (wpAny_load hu ?_)
  simp only [vw, show (Value.type "method-wrapper" == Value.type "method" || Value.type "method-wrapper" == Value.type "builtin_function_or_method" || Value.type "method-wrapper" == Value.type "method-wrapper") = true by decide, if_true]
  refine W.KFB.if_so (by decide) (wpAny_bind (check_bound F.excBase_ValueError hC he rfl (wpAny_bind (wpAny_pure (wpAny_pure ?_)))))
  refine ⟨Code.quiet_builtin _ (by decide +kernel), codeAny_builtin F.excBase_ValueError.initEntry ?_⟩
  rw [Around.under_plainId F.excBase_ValueError.init.plain _]
  wp_walk
  refine fin _ h.objs.size (fun b o hb ho => (Heap.get?_update_other _ _ (Ne.symm hb)).trans (Heap.get?_push_of_some _ ho)) ?_
  rw [Heap.get?_update_self _ (Heap.get?_push_of_some _ he) rfl]; rfl
end
end TX
end PySem

set_option Elab.async false
set_option linter.all false
set_option maxRecDepth 100000
set_option maxHeartbeats 4000000
/-! An own error's __init__: super().__init__(p, ..), then self.p = p for each. By its shape (positions do not matter). -/
namespace PySem
namespace TX
open PySem.ESX PySem.W PySem.Calls PyProof.Rows
/-! ### the shape -/
def isNames : List Str → List Expr → Bool
  | [], [] => true
  | f :: fs, .Name x _ :: es => x == f && isNames fs es
  | _, _ => false
def isStores : List Str → List Stmt → Bool
  | [], [] => true
  | f :: fs, .Assign [.Attribute (.Name o _) g _] (.Name x _) _ :: r => o == ("self" : Str) && g == f && x == f && isStores fs r
  | _, _ => false
def isInit (fs : List Str) : List Stmt → Bool
  | .Expr (.Call (.Attribute (.Call (.Name su _) [] [] _) i p2) es [] p3) _ :: r => p2.endLine == p3.line && su == ("super" : Str) && i == ("__init__" : Str) && isNames fs es && isStores fs r
  | _ => false
def initScope (fs : List Str) (sc : Scope) : Bool :=
  sc.names.lookup ("super" : Str) == some .globalImplicit && sc.names.lookup ("__class__" : Str) == some .free && sc.names.lookup ("self" : Str) == some .local && fs.all fun f => sc.names.lookup f == some .local
section
variable {M : Model} {A : Around} {E : Value → Shared → Prop} {s : Shared} {env : Env} {m : Str → Option Value}
theorem ld_loc {x : Str} {p : Pos} {v : Value} {Q : Value → Shared → Prop} (hk : env.scope.kind = .function) (hl : env.kindOf x = some .local) (hn : s.heap.Ns env.locals m) (hv : m x = some v) (hd : (x == ("__debug__" : Str)) = false) (h : Q v s) :
    wpAny M A (eval (.Name x p) env) Q E s := wpAny_Name (wpAny_loadName_local hk hl hn hv h) hd
theorem names_run {pos : Pos} (hk : env.scope.kind = .function) (hn : s.heap.Ns env.locals m) : ∀ {fs : List Str} {es : List Expr} {vs : List Value} {Q : List Value → Shared → Prop}, isNames fs es = true → (∀ f ∈ fs, env.kindOf f = some .local ∧ (f == ("__debug__" : Str)) = false) →
    fs.map m = vs.map some → Q vs s → wpAny M A (spliced (backTo pos (starEach es env))) Q E s
  | [], [], [], Q, _, _, _, h => spliced_nil h
  | [], [], v :: vs, Q, _, _, e, _ => by cases e
  | [], e :: es, vs, Q, hi, _, _, _ => by cases hi
  | f :: fs, [], vs, Q, hi, _, _, _ => by cases hi
  | f :: fs, e :: es, [], Q, _, _, hm, _ => by cases hm
  | f :: fs, e :: es, v :: vs, Q, hi, hl, hm, h => by
    cases e with
    | Name x p =>
      simp only [isNames, Bool.and_eq_true, beq_iff_eq] at hi
      obtain ⟨rfl, hi⟩ := hi
      simp only [List.map_cons, List.cons.injEq] at hm
      obtain ⟨h1, h2⟩ := hl x List.mem_cons_self
      exact spliced_more (ld_loc hk h1 hn hm.1 h2 (names_run (pos := pos) hk hn hi (fun f hf => hl f (List.mem_cons_of_mem _ hf)) hm.2 h)) rfl
    | _ => cases hi
end
/-- the exception's object on the way -/
abbrev xob (C t : Addr) (d : Option Addr) : Obj := { cls := .ref C, dict := d, data := .fields #[.ref t, .none, .none, .none, .bool false, .none] }
def Held (h : Heap) (od : Option Addr) (acc : List (Str × Value)) : Prop := match od with
  | none => acc = []
  | some dx => h.Ns1 dx fun y => acc.lookup y
theorem look_more {f : Str} {v : Value} {acc : List (Str × Value)} : (fun y => if y = f then some v else acc.lookup y) = fun y => ((f, v) :: acc).lookup y := by
  funext y
  by_cases h : y = f
  · subst h
    simp [List.lookup]
  · have e : (y == f) = false := by simpa using h
    rw [if_neg h]
    simp [List.lookup, e]
theorem within_acc {acc : List (Str × Value)} : Within (fun y => acc.lookup y) (acc.map (·.1)) := by
  intro y hy
  induction acc with
  | nil => exact absurd rfl hy
  | cons p r ih =>
    obtain ⟨f, v⟩ := p
    by_cases h : y = f
    · subst h
      exact List.mem_cons_self ..
    · have e : (y == f) = false := by simpa using h
      simp only [List.lookup, e] at hy
      exact List.mem_cons_of_mem _ (ih hy)
section
variable {prog : Program} {w : World} {A : Around} {E : Value → Shared → Prop} {g : Array GenState} {d : Drawn} {os : OsState} {K : Frag} {env : Env} {m : Str → Option Value} {x C t1 : Addr}
theorem stores_run {cd : ClassData} (hk : env.scope.kind = .function) (hcd : clsIn K C = some cd) (hmro : HandSPX.refsVE cd.mro = true) (hdct : cd.hasDict = true) (sa : findIn K (.ref C) "__setattr__" = some (some (.builtin "object.__setattr__")))
    (hsl : env.kindOf "self" = some .local) (hms : m "self" = some (.ref x)) (hxL : env.locals ≠ x) (hxK : K.lookup x = none) (n0 : Nat) :
    ∀ (fs : List Str) (body : List Stmt) (vs : List Value) (h : Heap) (t : Nat) (od : Option Addr) (acc : List (Str × Value)) (Q : Flow → Shared → Prop), isStores fs body = true →
      (∀ f ∈ fs, env.kindOf f = some .local ∧ (f == ("__debug__" : Str)) = false ∧ findIn K (.ref C) f = some none) → fs.map m = vs.map some → fs.length + acc.length ≤ 900 → K.In h → h.Ns env.locals m → h.get? x = some (xob C t1 od) → Held h od acc →
      (∀ dx, od = some dx → n0 ≤ dx ∧ dx ≠ x ∧ env.locals ≠ dx ∧ K.lookup dx = none) → n0 ≤ h.objs.size → (od = none → fs ≠ []) →
      (∀ h' tk dx, (∀ b o, b ≠ x → (∀ dy, od = some dy → b ≠ dy) → h.get? b = some o → h'.get? b = some o) → n0 ≤ dx → dx ≠ x → h'.get? x = some (xob C t1 (some dx)) → h'.Ns1 dx (fun y => ((fs.zip vs).reverse ++ acc).lookup y) → Q .next ⟨h', g, d, tk, os⟩) →
      wpAny (model prog w) A (execs body env) Q E ⟨h, g, d, t, os⟩
  | [], body, vs, h, t, od, acc, Q, hb, _, _, _, _, hn, hx, hh, hd, _, hne, q => by
    cases body with
    | cons _ _ => cases hb
    | nil =>
      cases od with
      | none => exact absurd rfl (hne rfl)
      | some dx =>
        obtain ⟨h1, h2, _, _⟩ := hd dx rfl
        exact wpAny_execs_nil (q h t dx (fun b o _ _ e => e) h1 h2 hx (by simpa using (show h.Ns1 dx fun y => acc.lookup y from hh)))
  | f :: fs, body, vs, h, t, od, acc, Q, hb, hf, hm, hlen, X, hn, hx, hh, hd, hsz, hne, q => by
    cases vs with
    | nil => cases hm
    | cons v vs =>
    cases body with
    | nil => cases hb
    | cons st body =>
    obtain ⟨oN, gN, xN, p1, p2, p3, p4, rfl, hb1, rfl, rfl, rfl⟩ : ∃ oN gN xN p1 p2 p3 p4, st = .Assign [.Attribute (.Name oN p1) gN p2] (.Name xN p3) p4 ∧ isStores fs body = true ∧ oN = ("self" : Str) ∧ gN = f ∧ xN = f := by
      unfold isStores at hb
      split at hb
      · cases ‹_ = []›
      · rename_i e1 e2
        obtain ⟨rfl, rfl⟩ := List.cons.inj e1
        obtain ⟨rfl, rfl⟩ := List.cons.inj e2
        simp only [Bool.and_eq_true, beq_iff_eq] at hb
        obtain ⟨⟨⟨h1, h2⟩, h3⟩, h4⟩ := hb
        exact ⟨_, _, _, _, _, _, _, rfl, h4, h1, h2, h3⟩
      · cases hb
    simp only [List.map_cons, List.cons.injEq] at hm
    obtain ⟨hkf, hdf, hno⟩ := hf xN List.mem_cons_self
    refine wpAny_execs_cons (plainObj_wpAny_Assign_Attribute ?_)
    refine ld_loc hk hkf hn hm.1 hdf (ld_loc hk hsl hn hms (by decide +kernel) ?_)
    have hres : (((xN :: fs).zip (v :: vs)).reverse ++ acc) = (fs.zip vs).reverse ++ ((xN, v) :: acc) := by
      simp [List.zip_cons_cons]
    cases od with
    | none =>
      have ea : acc = [] := hh
      subst ea
      refine set_plain X (ox := xob C t1 none) (od := none) ⟨hx, rfl, rfl, trivial⟩ sa ?_
      refine HandSPX.exc_osa X hx hcd hmro hdct hno (fun h3 tk3 dx k3 dn dne hx3 hn3 => ?_)
      have ns3 : h3.Ns env.locals m := by
        obtain ⟨oL, es, ep, hL, r⟩ := hn
        exact ⟨oL, es, ep, k3 _ _ hxL hL, r⟩
      have ldx : env.locals ≠ dx := by
        obtain ⟨oL, es, ep, hL, r⟩ := hn
        exact Nat.ne_of_lt (Nat.lt_of_lt_of_le (Heap.lt_size hL) dn)
      have kdx : K.lookup dx = none := by
        cases e : K.lookup dx with
        | none => rfl
        | some o => exact absurd (Heap.lt_size (X _ _ e)) (Nat.not_lt.mpr dn)
      have X3 : K.In h3 := fun a o e => k3 a o (fun z => by rw [z, hxK] at e; cases e) (X a o e)
      have hsz3 : n0 ≤ h3.objs.size := by
        obtain ⟨_, _, _, hL, _⟩ := hn3
        exact Nat.le_trans hsz (Nat.le_trans dn (Nat.le_of_lt (Heap.lt_size hL)))
      refine stores_run hk hcd hmro hdct sa hsl hms hxL hxK n0 fs body vs h3 tk3 (some dx) [(xN, v)] Q hb1 (fun f hf' => hf f (List.mem_cons_of_mem _ hf')) hm.2 (by simp only [List.length_cons, List.length_nil] at hlen ⊢; omega) X3 ns3 hx3 ?_ ?_ hsz3 (fun z => by cases z) ?_
      · show h3.Ns1 dx _
        have := hn3
        rw [show (fun y => if y = xN then some v else none) = fun y => List.lookup y [(xN, v)] from look_more (acc := [])] at this
        exact this
      · rintro dy e
        cases e
        exact ⟨Nat.le_trans hsz dn, dne, ldx, kdx⟩
      · intro h' tk dy k1 n1 n2 hx' hn'
        refine q h' tk dy (fun b o hb _ e => k1 b o hb (fun dz ez => ?_) (k3 b o hb e)) n1 n2 hx' (by rw [hres]; exact hn')
        cases ez
        exact Nat.ne_of_lt (Nat.lt_of_lt_of_le (Heap.lt_size e) dn)
    | some dx =>
      obtain ⟨d1, d2, d3, d4⟩ := hd dx rfl
      have hns : h.Ns1 dx fun y => acc.lookup y := hh
      obtain ⟨oD, _, _, hoD, _, _⟩ := hns.count within_acc
      refine set_plain X (ox := xob C t1 (some dx)) (od := some oD) ⟨hx, rfl, rfl, hoD⟩ sa ?_
      refine OEX.osa_old X hx hns within_acc (by rw [List.length_map]; simp only [List.length_cons] at hlen; omega) hcd hmro hdct hno (fun h3 tk3 k3 hn3 => ?_)
      have ns3 : h3.Ns env.locals m := by
        obtain ⟨oL, es, ep, hL, r⟩ := hn
        exact ⟨oL, es, ep, k3 _ _ d3 hL, r⟩
      have X3 : K.In h3 := fun a o e => k3 a o (fun z => by rw [z, d4] at e; cases e) (X a o e)
      have hsz3 : n0 ≤ h3.objs.size := by
        obtain ⟨_, _, _, hL, _⟩ := hn3
        exact Nat.le_trans d1 (Nat.le_of_lt (Heap.lt_size hL))
      rw [look_more] at hn3
      refine stores_run hk hcd hmro hdct sa hsl hms hxL hxK n0 fs body vs h3 tk3 (some dx) ((xN, v) :: acc) Q hb1 (fun f hf' => hf f (List.mem_cons_of_mem _ hf')) hm.2 (by simp only [List.length_cons] at hlen ⊢; omega) X3 ns3 (k3 _ _ (Ne.symm d2) hx) hn3 ?_ hsz3 (fun z => by cases z) ?_
      · rintro dy e
        cases e
        exact ⟨d1, d2, d3, d4⟩
      · intro h' tk dy k1 n1 n2 hx' hn'
        exact q h' tk dy (fun b o hb hnd e => k1 b o hb hnd (k3 b o (hnd dx rfl) e)) n1 n2 hx' (by rw [hres]; exact hn')
end

theorem lookup_mem {y : Str} {v : Value} : ∀ {l : List (Str × Value)}, (y, v) ∈ l → (l.map (·.1)).Nodup → l.lookup y = some v
  | [], h, _ => by cases h
  | (z, u) :: r, h, hn => by
    simp only [List.map_cons, List.nodup_cons] at hn
    rcases List.mem_cons.mp h with e | h
    · cases e
      simp [List.lookup]
    · have ne : y ≠ z := fun e => hn.1 (List.mem_map.mpr ⟨(y, v), h, e⟩)
      have e : (y == z) = false := by simpa using ne
      simp only [List.lookup, e]
      exact lookup_mem h hn.2
theorem zip_fst {fs : List Str} {vs : List Value} (hl : vs.length = fs.length) : (fs.zip vs).map (·.1) = fs := by
  rw [List.map_fst_zip]
  omega
theorem nodup_rev : ∀ {l : List Str}, l.Nodup → l.reverse.Nodup
  | [], _ => List.nodup_nil
  | a :: r, h => by
    rw [List.reverse_cons, List.nodup_append]
    obtain ⟨h1, h2⟩ := List.nodup_cons.mp h
    refine ⟨nodup_rev h2, by simp, fun x hx y hy => ?_⟩
    rw [List.mem_singleton.mp hy]
    exact fun e => h1 (e ▸ List.mem_reverse.mp hx)
theorem rev_map {fs : List Str} {vs : List Value} (hl : vs.length = fs.length) (hn : fs.Nodup) : fs.map (fun y => (fs.zip vs).reverse.lookup y) = vs.map some := by
  apply List.ext_getElem
  · simp [hl]
  · intro i h1 h2
    simp only [List.getElem_map]
    have hi : i < fs.length := by simpa using h1
    have hi2 : i < vs.length := by omega
    refine lookup_mem (List.mem_reverse.mpr ?_) (by rw [List.map_reverse, zip_fst hl]; exact nodup_rev hn)
    exact List.mem_iff_getElem.mpr ⟨i, by simp; omega, by simp⟩
theorem call_eq {fs : List Str} {es : List Expr} {p0 p1 p2 p3 : Pos} {env : Env} (hi : isNames fs es = true) (h2 : fs.length ≤ 2) (hp : (p2.endLine == p3.line) = true) : eval (.Call (.Attribute (.Call (.Name "super" p0) [] [] p1) "__init__" p2) es [] p3) env = (do
      let ov ← attributeBase (.Call (.Name "super" p0) [] [] p1) "__init__" env (eval (.Call (.Name "super" p0) [] [] p1) env)
      standAt p2.atName
      let (f, first) ← holding [ov] (getMethod ov "__init__" (do return (← importBound (.Call (.Name "super" p0) [] [] p1) env).getD true))
      callWith p3 f first (backTo p3 (starEach es env)) []) := by
  have key : ∀ es : List Expr, methodCallForm (es.length + 0) (backTo p3 (starEach es env)) [] = true → eval (.Call (.Attribute (.Call (.Name "super" p0) [] [] p1) "__init__" p2) es [] p3) env = (do
      let ov ← attributeBase (.Call (.Name "super" p0) [] [] p1) "__init__" env (eval (.Call (.Name "super" p0) [] [] p1) env)
      standAt p2.atName
      let (f, first) ← holding [ov] (getMethod ov "__init__" (do return (← importBound (.Call (.Name "super" p0) [] [] p1) env).getD true))
      callWith p3 f first (backTo p3 (starEach es env)) []) := fun es he => by
    show (do
      let ov ← attributeBase (.Call (.Name "super" p0) [] [] p1) "__init__" env (eval (.Call (.Name "super" p0) [] [] p1) env)
      standAt p2.atName
      methodCall (.Call (.Name "super" p0) [] [] p1) "__init__" p2 p3 env ov (es.length + 0) (backTo p3 (starEach es env)) []) = _
    have e : ∀ ov, methodCall (.Call (.Name "super" p0) [] [] p1) "__init__" p2 p3 env ov (es.length + 0) (backTo p3 (starEach es env)) [] = (do
      let (f, first) ← holding [ov] (getMethod ov "__init__" (do return (← importBound (.Call (.Name "super" p0) [] [] p1) env).getD true))
      callWith p3 f first (backTo p3 (starEach es env)) []) := fun ov => by
      unfold methodCall methodCallPos
      rw [he, hp]
      rfl
    simp only [e]
  refine key es ?_
  cases es with
  | nil => rfl
  | cons e1 es =>
    cases fs with
    | nil => cases hi
    | cons f fs =>
      cases e1 with
      | Name x q =>
        simp only [isNames, Bool.and_eq_true] at hi
        cases es with
        | nil => rfl
        | cons e2 es =>
          cases fs with
          | nil => exact absurd hi.2 (by simp [isNames])
          | cons f2 fs =>
            cases e2 with
            | Name x2 q2 =>
              simp only [isNames, Bool.and_eq_true] at hi
              cases es with
              | nil => rfl
              | cons e3 es =>
                cases fs with
                | nil => exact absurd hi.2.2 (by simp [isNames])
                | cons f3 fs => simp at h2
            | _ => exact absurd hi.2 (by simp [isNames])
      | _ => cases hi
/-- what the written part says of an own error's class at C and of its __init__ at fI -/
structure Ini (prog : Program) (K : Frag) (C fI : Addr) (fs : List Str) : Prop where
  cls : ∃ nm q N bs bm sn sub ab col dd k0 k1 k2 k3 k5, K.lookup C = some (excClassObj nm q C N bs bm true sn sub ab col dd k0 k1 k2 k3 k5 "ValueError.__new__") ∧ HandSPX.refsVE bm = true
  sa : findIn K (.ref C) "__setattr__" = some (some (.builtin "object.__setattr__"))
  noF : ∀ f ∈ fs, findIn K (.ref C) f = some none
  up : ks_superIn K C C "__init__" = some (some veI)
  stat : nsIn K cStatics "thirdparty.any" = some none
  sup : nsIn K mainGlobals "super" = some none
  iC : findIn K (.ref C) "__init__" = some (some (.ref fI))
  tC : typeIn K (.ref fI) = some (.type "function")
  nd : (("self" : Str) :: fs).Nodup
  dbg : ∀ f ∈ fs, (f == ("__debug__" : Str)) = false
  few : fs.length ≤ 2
  some_ : fs ≠ []
  top : (prog.main.scope.names.lookup ("super" : Str)).isSome = false
  fn : ∃ (oc : Value) (od : Option Addr) (osl : Array (Option Value)) (qual : Str) (params : Arguments) (body : List Stmt) (scope : Scope) (dV kV doc pm ct : Value) (an : Option Addr) (cc cda : Addr) (ccl : Value) (cdd : Option Addr) (vs : Array Value) (ccs : Array (Option Value)) (file : Str) (tf : Tok) (cl : Value) (cld : Option Addr) (csl : Array (Option Value)) (ar : Arg),
    K.lookup fI = some ⟨oc, od, .func (ksFn "__init__" qual params body scope dV kV doc pm an (.ref cda) ct cc), osl⟩ ∧ codeIn K (.ref cda) qual = true ∧ isInit fs body = true ∧ initScope fs scope = true ∧ scope.kind = .function ∧ scope.isCoroutine = false ∧ scope.isGenerator = false ∧ (∀ x ∈ scope.names, x.2 ≠ .cell) ∧
    (params.posonlyargs ++ params.args).head? = some ar ∧ ar.arg = ("self" : Str) ∧ K.lookup cda = some ⟨ccl, cdd, .fields vs, ccs⟩ ∧ vs[2]? = some (.str file tf) ∧ ((prog.main.file : Str) == file) = true ∧ K.lookup cc = some ⟨cl, cld, .cell (some (.ref C)), csl⟩ ∧
    ∀ us : List Value, us.length = fs.length + 1 → bindArgs (ksFn "__init__" qual params body scope dV kV doc pm an (.ref cda) ct cc) ⟨us, []⟩ = pure ((("self" : Str) :: fs).zip us)
section
variable {prog : Program} {w : World} {A : Around} {E : Value → Shared → Prop} {R : Result → Shared → Prop} {s : Shared} {K : Frag} {C fI x t0 : Addr} {fs : List Str} {mg mb : Str → Option Value}
theorem init_run (T : Ini prog K C fI fs) {vs : List Value} (X : K.In s.heap) (G : s.heap.Ns mainGlobals mg) (B : s.heap.Ns builtinsNs mb) (hb : ∀ x : Str, x ≠ "__name__" → mb x = bootBuiltins x) (hlim : s.heap.NoLimit) (hx : s.heap.get? x = some (HandSPX.excO C t0)) (hnx : K.lookup x = none)
    (hroom : A.depth < recursionLimit) (hl : vs.length = fs.length)
    (hq : ∀ h' tk dx t1, (∀ b o, b ≠ x → s.heap.get? b = some o → h'.get? b = some o) → s.heap.objs.size ≤ dx → dx ≠ x → h'.get? x = some (xob C t1 (some dx)) → h'.Ns1 dx (fun y => (fs.zip vs).reverse.lookup y) → R (.ok (.ret .none)) { s with heap := h', toks := tk }) :
    codeAny (model prog w) A (.call (.ref fI) ⟨.ref x :: vs, []⟩) R s := by
  obtain ⟨oc, od, osl, qual, params, body, scope, dV, kV, doc, pm, ct, an, cc, cda, ccl, cdd, cvs, ccs, file, tf, cl, cld, csl, ar, ho, hcd, hini, hsc, hk, hco, hgen, hcell, hp, har, hcode, hvs, hfile, hcc, hbind⟩ := T.fn
  obtain ⟨nm, q, N, bs, bm, sn, sub, ab, col, dd, k0, k1, k2, k3, k5, hC, hbm⟩ := T.cls
  have hcl : clsIn K C = some { name := nm, bases := bs, mro := .ref C :: bm, ns := N, qualname := q, hasDict := true, slotNames := sn, subclasses := sub, abstract := ab, collection := col, hasDel := false } := by unfold clsIn; rw [hC] <;> rfl
  have hmr : HandSPX.refsVE (.ref C :: bm) = true := hbm
  simp only [initScope, Bool.and_eq_true, beq_iff_eq, List.all_eq_true] at hsc
  obtain ⟨⟨⟨s1, s2⟩, s3⟩, s4⟩ := hsc
  have nd2 : fs.Nodup := (List.nodup_cons.mp T.nd).2
  refine ks_codeAny_call_defAt (fd := ksFn "__init__" qual params body scope dV kV doc pm an (.ref cda) ct cc) (body := body) (binds := (("self" : Str), Value.ref x) :: fs.zip vs) hroom (X _ _ ho) rfl hlim (codeRec_of X hcd) rfl
    (.of_eq (hbind (.ref x :: vs) (by simp [hl]))) hcell (fun y hy => ?_) (fun h₁ hns hk₁ => ?_) hco hgen hk
  · rcases List.mem_cons.mp hy with rfl | hy
    · exact s3
    · exact s4 y.1 (List.of_mem_zip (show (y.1, y.2) ∈ fs.zip vs from hy)).1
  · obtain ⟨m, hm⟩ : ∃ m : Str → Option Value, m = fun y => ((("self" : Str), Value.ref x) :: fs.zip vs).reverse.lookup y := ⟨_, rfl⟩
    rw [← hm] at hns
    have mself : m "self" = some (.ref x) := by
      rw [hm]
      exact lookup_mem (List.mem_reverse.mpr List.mem_cons_self) (by rw [List.map_reverse, List.map_cons, zip_fst hl]; exact nodup_rev T.nd)
    have mfs : fs.map m = vs.map some := by
      have := rev_map (fs := ("self" : Str) :: fs) (vs := .ref x :: vs) (by simp [hl]) T.nd
      simp only [List.zip_cons_cons, List.map_cons, List.cons.injEq] at this
      rw [hm]
      exact this.2
    have X₁ : K.In h₁ := X.keeps hk₁
    have hx₁ := hk₁ _ _ hx
    have xC : x ≠ C := by
      rintro rfl
      rw [hnx] at hC
      cases hC
    have Lx : s.heap.objs.size ≠ x := Nat.ne_of_gt (Heap.lt_size hx)
    have hlen : vs.length ≤ sizeLine := by
      rw [hl, sizeLine_eq]
      have := T.few
      omega
    unfold isInit at hini
    split at hini
    · rename_i su pu pa ni pn es pe ps rest
      simp only [Bool.and_eq_true, beq_iff_eq] at hini
      obtain ⟨⟨⟨⟨hline, rfl⟩, rfl⟩, hnames⟩, hst⟩ := hini
      have hkL : ∀ f ∈ fs, (ksEnv qual scope s.heap.objs.size fI (.ref cda) cc).kindOf f = some .local ∧ (f == ("__debug__" : Str)) = false := fun f hf => ⟨s4 f hf, T.dbg f hf⟩
      have he := call_eq (p0 := pu) (p1 := pa) (p2 := pn) (p3 := pe) (env := ksEnv qual scope s.heap.objs.size fI (.ref cda) cc) hnames T.few (beq_iff_eq.mpr hline)
      refine ks_wpAt_execs_cons (ks_wpAt_Expr_any (ks_wpAt_MethodCall ?_ he) (by show (scope.kind == .module && _) = false; rw [hk]; rfl))
      refine ks_wpAt_super_base (env := ksEnv qual scope s.heap.objs.size fI (.ref cda) cc) s1 s2 (by decide +kernel) rfl (X₁ _ _ ho) rfl hp rfl (X₁ _ _ hcode) rfl hvs hfile T.top ?_
      refine ks_loadName_global hk s1 (loadGlobal_builtin (env := ksEnv qual scope s.heap.objs.size fI (.ref cda) cc) (G.keeps hk₁) (mg_none_of X G T.sup) (B.keeps hk₁) ((hb _ (by decide)).trans (show bootBuiltins "super" = some (.type "super") by kernel_rfl)) ⟨rfl, ?_⟩)
      refine wpAny_loadName_free hk s2 rfl ⟨_, X₁ _ _ hcc, rfl⟩ ?_
      rw [har]
      refine wpAny_loadName_local hk s3 hns mself ?_
      have hC₁ := X₁ _ _ hC
      refine ks_wpAny_isType_cls hC₁ rfl ⟨rfl, ?_⟩
      refine ks_wpAny_call_super hC₁ rfl hx₁ rfl (fun c e => by cases e) (looks_mroIn X₁ (by unfold mroIn; rw [hcl]; simp)) (fun h₂ e₂ kk₂ => ?_)
      have X₂ : K.In h₂ := X₁.keeps kk₂
      have hx₂ := kk₂ _ _ hx₁
      have hns₂ : h₂.Ns s.heap.objs.size m := hns.keeps kk₂
      have up := T.up
      unfold ks_superIn at up
      rw [hcl] at up
      have I : InstAt h₂ x (HandSPX.excO C t0) C none := ⟨hx₂, rfl, rfl, trivial⟩
      have sub : W.Looks (model prog w) h₂ (isInstance (.ref x) (.type "ValueError")) true := I.type.andThen (looks_subIn X₂ (by
        show mroIn K C (.type "ValueError") = some true
        unfold mroIn
        rw [hcl, Option.bind_some]
        show (if (Value.ref C :: bm).isEmpty = true then none else some ((Value.ref C :: bm).contains (.type "ValueError"))) = some true
        rw [if_neg (by simp), HandSPX.refsVE_contains "ValueError" _ hmr]
        decide +kernel))
      have row : Row prog w h₂ K C x C (((Value.ref C :: bm).dropWhile (· != .ref C)).drop 1) :=
        { opq := looks_opaque X₂ T.stat, mro := ⟨_, fun A Q E s k q => wpAny_bind ((looks_clsIn X₂ hcl) A _ E s k (wpAny_pure q)), rfl⟩, kin := X₂, ali := up, ne := xC, isV := sub }
      refine method_ve e₂ row ?_
      have hx₃ : (h₂.push (vw x)).get? x = some (HandSPX.excO C t0) := Heap.get?_push_of_some _ hx₂
      have hu₃ : (h₂.push (vw x)).get? h₂.objs.size = some (vw x) := Heap.get?_push_at rfl rfl
      have kk₃ : ∀ b o, h₂.get? b = some o → (h₂.push (vw x)).get? b = some o := fun b o e => Heap.get?_push_of_some _ e
      have hns₃ : (h₂.push (vw x)).Ns s.heap.objs.size m := hns₂.keeps kk₃
      have X₃ : K.In (h₂.push (vw x)) := X₂.keeps kk₃
      have plainA : ∀ {fs : List Str} {es : List Expr}, isNames fs es = true → (backTo pe (starEach es (ksEnv qual scope s.heap.objs.size fI (.ref cda) cc))).any (·.1) = false := by
        intro fs es
        induction es generalizing fs with
        | nil => intro _; rfl
        | cons e es ih =>
          intro hi
          cases fs with
          | nil => cases hi
          | cons f fs =>
            cases e with
            | Name x q =>
              simp only [isNames, Bool.and_eq_true] at hi
              have := ih hi.2
              show (false || (backTo pe (starEach es _)).any (·.1)) = false
              rw [this]; rfl
            | _ => cases hi
      refine with_vw (x := x) (plainA hnames) ?_
      obtain ⟨y1, q1, es1, rfl⟩ : ∃ y1 q1 es1, es = .Name y1 q1 :: es1 := by
        cases fs with
        | nil => exact absurd rfl T.some_
        | cons f fs =>
          cases es with
          | nil => cases hnames
          | cons e1 es1 =>
            cases e1 with
            | Name y q => exact ⟨_, _, _, rfl⟩
            | _ => cases hnames
      refine evalArgs_plain ?_
      show wpAny _ _ (spliced (backTo pe (starEach (.Name y1 q1 :: es1) (ksEnv qual scope s.heap.objs.size fI (.ref cda) cc)))) _ _ _
      refine names_run (env := ksEnv qual scope s.heap.objs.size fI (.ref cda) cc) (m := m) hk hns₃ hnames hkL mfs ⟨hu₃, ?_⟩
      refine call_vw (X₃ _ _ hC) hx₃ hu₃ hlen (fun h₄ t4 kk₄ hx₄ => ?_)
      refine wpAt_of_wpAny ?_
      have ns₄ : h₄.Ns s.heap.objs.size m := by
        obtain ⟨oL, esL, ep, hL, r⟩ := hns₃
        exact ⟨oL, esL, ep, kk₄ _ _ Lx hL, r⟩
      have X₄ : K.In h₄ := fun a o e => kk₄ a o (fun z => by rw [z, hnx] at e; cases e) (X₃ a o e)
      have z4 : s.heap.objs.size ≤ h₄.objs.size := by
        obtain ⟨_, _, _, hL, _⟩ := ns₄
        exact Nat.le_of_lt (Heap.lt_size hL)
      refine stores_run (env := ksEnv qual scope s.heap.objs.size fI (.ref cda) cc) hk hcl hmr rfl T.sa s3 mself Lx hnx s.heap.objs.size fs rest vs h₄ _ none [] _ hst (fun f hf => ⟨s4 f hf, T.dbg f hf, T.noF f hf⟩) mfs (by have := T.few; simp; omega) X₄ ns₄ hx₄ rfl (fun dx e => by cases e) z4 (fun _ => T.some_) ?_
      intro h' tk dx k1 d1 d2 hx' hn'
      refine hq h' tk dx t4 (fun b o hb e => k1 b o hb (fun dy z => by cases z) (kk₄ b o hb (kk₃ b o (kk₂ b o (hk₁ b o e))))) d1 d2 hx' (by simpa using hn')
    · cases hini
end
end TX
end PySem

set_option Elab.async false
set_option linter.all false
set_option maxRecDepth 100000
set_option maxHeartbeats 4000000
/-! An own error made by a call of its class, by place. -/
namespace PySem
namespace TX
open PySem.ESX PySem.W PySem.Calls PyProof.Rows
/-- a made error -/
structure Made (h h' : Heap) (e C d : Addr) (l : List (Str × Value)) : Prop where
  keep : ∀ b o, h.get? b = some o → h'.get? b = some o
  new : h.objs.size ≤ e
  obj : ∃ t1, h'.get? e = some (xob C t1 (some d))
  dbig : h.objs.size ≤ d
  dne : d ≠ e
  ns : h'.Ns1 d (fun y => l.reverse.lookup y)
section
variable {prog : Program} {w : World} {A : Around} {E : Value → Shared → Prop} {R : Result → Shared → Prop} {s : Shared} {K : Frag} {C fI : Addr} {fs : List Str} {mg mb : Str → Option Value}
theorem made_run (T : Ini prog K C fI fs) {vs : List Value} (X : K.In s.heap) (G : s.heap.Ns mainGlobals mg) (B : s.heap.Ns builtinsNs mb) (hb : ∀ x : Str, x ≠ "__name__" → mb x = bootBuiltins x) (hlim : s.heap.NoLimit) (hroom : A.depth + 1 < recursionLimit) (hl : vs.length = fs.length)
    (hq : ∀ h' tk e d, Made s.heap h' e C d (fs.zip vs) → R (.ok (.ret (.ref e))) { s with heap := h', toks := tk }) : codeAny (model prog w) A (.call (.ref C) ⟨vs, []⟩) R s := by
  obtain ⟨nm, q, N, bs, bm, sn, sub, ab, col, dd, k0, k1, k2, k3, k5, hC, hbm⟩ := T.cls
  obtain ⟨hp, g, dr, tk, os⟩ := s
  have k : ∀ b o, hp.get? b = some o → ((hp.push (kdv_tup vs)).push (HandSPX.excO C hp.objs.size)).get? b = some o := fun b o e => Heap.get?_push_of_some _ (Heap.get?_push_of_some _ e)
  have hget : ((hp.push (kdv_tup vs)).push (HandSPX.excO C hp.objs.size)).get? (hp.objs.size + 1) = some (HandSPX.excO C hp.objs.size) := by heap_get
  have hnx : K.lookup (hp.objs.size + 1) = none := by
    cases e : K.lookup (hp.objs.size + 1) with
    | none => rfl
    | some o =>
      have z : hp.get? (hp.objs.size + 1) = some o := X _ _ e
      exact absurd (Nat.lt_of_succ_lt (Heap.lt_size z)) (Nat.lt_irrefl _)
  have hlen : vs.length ≤ sizeLine := by
    rw [hl, sizeLine_eq]
    have := T.few
    omega
  refine HandSPX.call_own F.excBase_ValueError (fun X => HandSPX.refsVE_contains X bm hbm) (X _ _ hC) (looks_findIn X T.iC) (fun self => bind_fn X self T.tC) hlen ?_
  refine init_run (s := ⟨(hp.push (kdv_tup vs)).push (HandSPX.excO C hp.objs.size), g, dr, tk, os⟩) T (X.keeps k) (G.keeps k) (B.keeps k) hb (hlim.keeps k) hget hnx ?_ hl fun h' tk' dx t1 k' dn dne hx hns => ?_
  · show A.depth + 1 < recursionLimit
    exact hroom
  · have old : ∀ b o, hp.get? b = some o → h'.get? b = some o := fun b o e => k' b o (Nat.ne_of_lt (Nat.lt_succ_of_lt (Heap.lt_size e))) (k b o e)
    have z : hp.objs.size + 1 + 1 ≤ dx := by
      first
        | (simpa only [Heap.size_push] using dn)
        | exact dn
        | (have q := dn; rw [Heap.size_push, Heap.size_push] at q; exact q)
    exact ⟨rfl, hq h' tk' (hp.objs.size + 1) dx ⟨old, Nat.le_succ _, ⟨_, hx⟩, Nat.le_trans (Nat.le_trans (Nat.le_succ _) (Nat.le_succ _)) z, dne, hns⟩⟩
end
end TX
end PySem
namespace L2
open PySem PySem.Spec PyProof.Rows PySem.TX
theorem look_rev {y : Str} : ∀ {l : List (Str × Value)}, (l.map (·.1)).Nodup → l.reverse.lookup y = l.lookup y := by
  intro l hn
  cases e : l.lookup y with
  | some v =>
    have hm : (y, v) ∈ l := by
      clear hn
      induction l with
      | nil => cases e
      | cons p r ih =>
        obtain ⟨z, u⟩ := p
        by_cases h : y = z
        · subst h
          simp [List.lookup] at e
          rw [e]
          exact List.mem_cons_self ..
        · have q : (y == z) = false := by simpa using h
          simp only [List.lookup, q] at e
          exact List.mem_cons_of_mem _ (ih e)
    exact lookup_mem (List.mem_reverse.mpr hm) (by rw [List.map_reverse]; exact nodup_rev hn)
  | none =>
    cases e2 : l.reverse.lookup y with
    | none => rfl
    | some v =>
      have hm : ∀ {l : List (Str × Value)}, l.lookup y = some v → (y, v) ∈ l := by
        intro l
        induction l with
        | nil => intro e; cases e
        | cons p r ih =>
          intro e
          obtain ⟨z, u⟩ := p
          by_cases h : y = z
          · subst h
            simp [List.lookup] at e
            rw [e]
            exact List.mem_cons_self ..
          · have q : (y == z) = false := by simpa using h
            simp only [List.lookup, q] at e
            exact List.mem_cons_of_mem _ (ih e)
      rw [lookup_mem (List.mem_reverse.mp (hm e2)) hn] at e
      cases e
theorem zip_rel {y : Str} : ∀ {fs : List Str} {vs : List V} {us : List Value}, Vals vs us → RelO ((fs.zip vs).lookup y) ((fs.zip us).lookup y)
  | [], vs, us, _ => by simp [List.lookup]; trivial
  | f :: fs, [], _, r => by cases r; simp [List.lookup]; trivial
  | f :: fs, v :: vs, _, r => by
    cases r with
    | @cons _ u _ us rv rr =>
      simp only [List.zip_cons_cons]
      by_cases h : y = f
      · subst h
        simp [List.lookup]
        exact rv
      · have q : (y == f) = false := by simpa using h
        simp only [List.lookup, q]
        exact zip_rel rr
/-- C(e, ..), C an own error's class whose __init__ keeps fs -/
def tMkE (C : Addr) (fs : List Str) (ta : TA) : St → Hp → XK → Prop := fun σ H Q => ta σ H fun vs H1 => vs.length = fs.length ∧ ∀ d, H1 d = none → Q (.ref C) (some d) (upd H1 d (.xd (fs.zip vs)))
theorem pmk_E {X : Cx} {C fI : Addr} {fs : List Str} {x : Str} {a : Expr} {es : List Expr} {ta : TA} {p pos : Pos} {k : Nat} (T : Ini X.prog X.K C fI fs) (gC : X.mg x = some (.ref C)) (kC : PySem.W.keepIn X.K (.ref C) = true) (exC : PySem.W.subIn X.K (.ref C) (.type "BaseException") = some true) (tyC : PySem.W.typeIn X.K (.ref C) = some (.type "type"))
    (hr : Room k X.A) (hk : 1 ≤ k) (ha : PA X (a :: es) ta) (hg : Gl X x) (hdb : (x == ("__debug__" : Str)) = false)
    (he : starEach (a :: es) X.env = (false, eval a X.env) :: starEach es X.env) (hpl : (backTo pos (starEach es X.env)).any (·.1) = false) :
    PMk X (.Call (.Name x p) (a :: es) [] pos) (tMkE C fs ta) := by
  intro pins s σ H Q I h
  refine wpAny_Call_Name_kw (ld_glob I hg gC ?_ hdb)
  refine PySem.W.callWith_K (h₀ := X.base) I.ok.mod.kin kC (thn (ha.run pos pins s σ H _ I h) fun us s1 hh => ?_) he hpl
  obtain ⟨vs, H1, I1, r1, hl, q1⟩ := hh
  refine ⟨I1.kIn, ?_⟩
  show wpAny _ _ (call (.ref C) us) _ _ _
  have hlim := I1.nolimit
  obtain ⟨mb, b1, b2⟩ := I1.mod.blt
  have hG := I1.mod.glob.keeps I1.bk
  have hB := b1.keeps I1.bk
  obtain ⟨hp, g, dr, tk, os⟩ := s1
  refine wpAny_call (made_run T I1.kIn hG hB b2 hlim (by have := hr.dp; omega) (by rw [← hl, ← r1.length]) fun h' tk' e d M => ?_)
  show MkP X pins σ Q (.ref e) ⟨h', g, dr, tk', os⟩
  obtain ⟨t1, hoe⟩ := M.obj
  have hns := M.ns
  obtain ⟨G', g1, g2⟩ := restrict h' fun b => decide (b ≠ e)
  have gk : ∀ b, b ≠ e → G'.get? b = h'.get? b := fun b hb => g1 b (decide_eq_true hb)
  have ge : G'.get? e = none := g2 e (by simp)
  have old : ∀ b o, hp.get? b = some o → G'.get? b = some o := fun b o q => (gk b (Nat.ne_of_lt (Nat.lt_of_lt_of_le (Heap.lt_size q) M.new))).trans (M.keep b o q)
  have ob : ObjOk X.prog X.w (upd H1 d (.xd (fs.zip vs))) G' d (.xd (fs.zip vs)) :=
    ⟨_, hns.at (fun o q => (gk d M.dne).trans q), fun f => by
      rw [look_rev (by rw [zip_fst (by rw [← hl, ← r1.length])]; exact (List.nodup_cons.mp T.nd).2)]
      exact zip_rel r1⟩
  have J : Inv X pins σ (upd H1 d (.xd (fs.zip vs))) ⟨G', g, dr, tk', os⟩ := I1.laid (t' := tk') old M.dbig ob
  refine ⟨e, _, _, ⟨G', g, dr, tk', os⟩, _, .ref C, some d, rfl, J, fun b o q => ?_, ge, hoe, ⟨rfl, rfl⟩, rfl, rfl, ?_, rfl, I1.bare, raises_own exC tyC, q1 d (I1.hok.fresh M.dbig)⟩
  · by_cases hb : b = e
    · have q' : G'.get? b = some o := q
      rw [hb, ge] at q'; cases q'
    · exact (gk b hb).symm.trans q
  · rw [upd_ne (Ne.symm M.dne)]
    exact I1.hok.fresh M.new
end L2

set_option Elab.async false
set_option linter.all false
set_option maxRecDepth 100000
set_option maxHeartbeats 4000000
/-! try with any clauses, each with a name or without. (The kit's proofs for one named clause and for many without a name, put together.) -/
namespace L2
open PySem PySem.Spec PyProof.Rows
abbrev ClT := Value × Option Nat × (Addr → Value → Option Addr → TS)
/-- the ends behind a named clause: the name goes -/
def goneE (i : Nat) (D : Ends) : Ends := { nx := fun u G => D.nx (u.set i none) G, rt := D.rt, bk := fun u G => D.bk (u.set i none) G, ct := fun u G => D.ct (u.set i none) G }
def wAll (K : PySem.W.Frag) (Wo : WX) (D : Ends) : List ClT → WX
  | [] => Wo
  | (c, none, ts) :: r => fun cl d u G => ∃ y, PySem.W.exmOne K cl c = some y ∧ (y = true → ∀ a, G a = none → ts a cl d D u G) ∧ (y = false → wAll K Wo D r cl d u G)
  | (c, some i, ts) :: r => fun cl d u G => ∃ y, PySem.W.exmOne K cl c = some y ∧ (y = true → ∀ a, G a = none → ts a cl d (goneE i D) (u.set i (some (.ref a))) G) ∧ (y = false → wAll K Wo D r cl d u G)
inductive ClOk (X : Cx) : List ExceptHandler → List ClT → Prop
  | nil : ClOk X [] []
  | bare {x : Str} {c : Value} {ts : Addr → Value → Option Addr → TS} {st : Stmt} {sts : List Stmt} {q1 q2 : Pos} {hs : List ExceptHandler} {l : List ClT} (hc : Names X x c)
      (su : ∀ (a : Addr) (o : Obj) (cl : Value) (d : Option Addr) (pn : List (Addr × Obj)), Zc cl d o → (∃ vs, o.data = .fields vs) → PSs (X.suite a ((a, o) :: pn)) (st :: sts) (ts a cl d)) (r : ClOk X hs l) :
      ClOk X (.ExceptHandler (some (.Name x q1)) none (st :: sts) q2 :: hs) ((c, none, ts) :: l)
  | named {x n : Str} {i : Nat} {c : Value} {ts : Addr → Value → Option Addr → TS} {st : Stmt} {sts : List Stmt} {q1 q2 : Pos} {hs : List ExceptHandler} {l : List ClT} (hc : Names X x c) (hi : X.N[i]? = some n) (hl : X.env.kindOf n = some .local)
      (su : ∀ (a : Addr) (o : Obj) (cl : Value) (d : Option Addr) (pn : List (Addr × Obj)), Zc cl d o → (∃ vs, o.data = .fields vs) → PSs (X.suite a ((a, o) :: pn)) (st :: sts) (ts a cl d)) (r : ClOk X hs l) :
      ClOk X (.ExceptHandler (some (.Name x q1)) (some n) (st :: sts) q2 :: hs) ((c, some i, ts) :: l)
section
variable {X : Cx} {body : List Stmt} {e0 : ExceptHandler} {es : List ExceptHandler} {l : List ClT} {pos : Pos} {tb : WX → TS} {Wo : WX}
theorem ps_try_g (stk : X.stack = X.env :: X.outer) (frm : X.env.frame = some X.env.locals) (nd : X.N.Nodup) (tk : Takes X Wo)
    (bd : ∀ (W : WX) (pn : List (Addr × Obj)) (xe : Value → Shared → Prop), Takes (X.tr pn xe) W → PassesOwn (model X.prog X.w) X.A X.env xe → PSs (X.tr pn xe) body (tb W))
    (cl : ClOk X (e0 :: es) l) : PS X (.Try body (e0 :: es) [] [] pos) (fun D u G => tb (wAll X.K Wo D l) D u G) := by
  constructor
  intro pins s u G D I hyp
  have okX := I.ok
  have frs0 : X.A.frames = some (X.env :: X.outer) := okX.frames.trans (congrArg some stk)
  refine wpAny_Try_except (wpAny_mono ((bd (wAll X.K Wo D l) (X.pn ++ pins) (fun er t1 => wpAny (model X.prog X.w) X.A (noteFrame er X.env) (fun _ t2 => wpAny (model X.prog X.w) X.A (setFlight er none) (fun _ t3 =>
    wpAny (model X.prog X.w) X.A (handleBy er X.env (e0 :: es)) (SP X pins D) X.xe t3) X.xe t2) X.xe t1) (fun v t up => ?_) PassesOwn.looking).run [] s u G D (I.toTry _) hyp) (fun fl t1 out => ?_) (fun er t1 he => he))
  · obtain ⟨a, B, sI, pins2, u2, G2, cv, dv, rfl, J0, ground, upto, air, freeA, hos, bareG, wish⟩ := up
    have J : Inv X pins u2 G2 sI := J0.ofTry okX
    have air2 : Sky B (X.env :: X.outer) a (Zc cv dv) X.env.locals t.heap := stk ▸ air
    show wpAny (model X.prog X.w) X.A (noteFrame (.ref a) X.env) _ _ _
    refine Sky.land Zc.steady frs0 frm air2 fun hA fA uA => ?_
    have JA : Inv X pins u2 G2 { t with heap := hA } := J.landed ground fA.1 (upto.trans uA) hos bareG
    obtain ⟨oA, vA, gA, zA, dA⟩ := fA.there
    have away : a ∉ frs (X.env :: X.outer) := fun hm => by
      obtain ⟨_, o', e', nf⟩ := fA.2.2.1.mem hm
      rw [gA] at e'
      cases e'
      exact nf _ dA
    have n1 : a ≠ X.env.locals := fun z => away (List.mem_filterMap.mpr ⟨X.env, List.mem_cons_self, frm.trans (congrArg some z.symm)⟩)
    have n2 : a ∉ X.fs := fun hm => by
      obtain ⟨ev, he, q⟩ := List.mem_filterMap.mp hm
      exact away (List.mem_filterMap.mpr ⟨ev, List.mem_cons_of_mem _ he, q⟩)
    have SA := JA.suite gA dA freeA n1 n2
    have typ : PySem.W.Looks (model X.prog X.w) hA (typeOf (.ref a)) cv := fun A Q E s k q => wpAny_typeOf_ref (k _ _ gA) (by rw [zA.1]; exact q)
    have test : ∀ {x : Str} {c : Value} {p : Pos} {Q : Value → Shared → Prop} {E : Value → Shared → Prop}, Names X x c → Q c { t with heap := hA } → wpAny (model X.prog X.w) (X.A.mark (some (.ref a))) (eval (.Name x p) X.env) Q E { t with heap := hA } := fun {x c p Q E} hc q => by
      obtain ⟨g1, g2, g3 | ⟨g3, g4, g5⟩⟩ := hc
      · exact ld_glob (X := X.suite a ((a, oA) :: (X.pn ++ pins))) SA g1 g3 q g2
      · exact ld_blt (X := X.suite a ((a, oA) :: (X.pn ++ pins))) SA g1 g3 g4 q g5 g2
    have go : ∀ {hs : List ExceptHandler} {l' : List ClT}, ClOk X hs l' → wAll X.K Wo D l' cv dv u2 G2 → wpAny (model X.prog X.w) X.A (handleBy (.ref a) X.env hs) (SP X pins D) X.xe { t with heap := hA } := by
      intro hs l' ok'
      induction ok' with
      | nil =>
        intro w
        refine wpAny_handleBy_nil ?_
        obtain ⟨_, _, _, ox, vx, T, oT, tx, q1, q2, q3, q4, q5⟩ := id fA
        unfold PySem.passOn
        refine wpAny_bind (wpAny_field q1 q3 q4 ?_)
        rw [if_neg (show ¬ ((Value.ref T == Value.none) = true) by simp)]
        have last : wpAny (model X.prog X.w) X.A (setFlight (.ref a) X.env.frame) (fun _ t4 => wpAny (model X.prog X.w) X.A (throw (.ref a) : Sem Flow) (SP X pins D) X.xe t4) X.xe { t with heap := hA } := by
          rw [frm]
          exact HandSPX.setFlight_upZ fA fun hB held uB => wpAny_throw (tk _ _ ⟨a, B, sI, pins, u2, G2, cv, dv, rfl, J, ground, (upto.trans uA).trans uB, .inr (.inr (stk ▸ held)), freeA, hos, bareG, w⟩)
        first | exact wpAny_bind (wpAny_pure (wpAny_bind last)) | exact wpAny_bind last
      | @bare x c ts st sts q1 q2 hs' l2 hc su r ih =>
        rintro ⟨y, y1, y2, y3⟩
        refine wpAny_handleBy_cons (codeAny_handlers_test (test hc ((PySem.W.exm_one (M := model X.prog X.w) JA.kIn typ y1).here ?_))) (by intro q; cases q)
        cases y with
        | false => exact ih (y3 rfl)
        | true =>
          refine codeAny_handlers_suite (HandSPX.lands_againZ fA fun hB fB uB => ?_)
          have JB : Inv X pins u2 G2 { t with heap := hB } := J.landed ground fB.1 ((upto.trans uA).trans uB) hos bareG
          obtain ⟨oB, vB, gB, zB, dB⟩ := fB.there
          refine wpAny_mono ((su a oB cv dv (X.pn ++ pins) zB ⟨_, dB⟩).run [] _ _ G2 _ (JB.suite gB dB freeA n1 n2) (y2 rfl a freeA)) (fun fl t6 out => ?_) (fun _ _ z => z.elim)
          cases fl with
          | next => exact let ⟨u6, G6, S6, z⟩ := out; ⟨u6, G6, S6.unsuite okX, z⟩
          | brk => exact let ⟨u6, G6, S6, z⟩ := out; ⟨u6, G6, S6.unsuite okX, z⟩
          | cont => exact let ⟨u6, G6, S6, z⟩ := out; ⟨u6, G6, S6.unsuite okX, z⟩
          | ret _ => exact let ⟨v6, u6, G6, S6, r6, z⟩ := out; ⟨v6, u6, G6, S6.unsuite okX, r6, z⟩
      | @named x n i c ts st sts q1 q2 hs' l2 hc hi hl su r ih =>
        rintro ⟨y, y1, y2, y3⟩
        refine wpAny_handleBy_cons (codeAny_handlers_test (test hc ((PySem.W.exm_one (M := model X.prog X.w) JA.kIn typ y1).here ?_))) (by intro q; cases q)
        cases y with
        | false => exact ih (y3 rfl)
        | true =>
          refine codeAny_handlers_suite_as (HandSPX.lands_againZ fA fun hB fB uB => ?_)
          have JB : Inv X pins u2 G2 { t with heap := hB } := J.landed ground fB.1 ((upto.trans uA).trans uB) hos bareG
          obtain ⟨oB, vB, gB, zB, dB⟩ := fB.there
          refine store_ok (X := X.suite a ((a, oB) :: (X.pn ++ pins))) (v := .ref a) (JB.suite gB dB freeA n1 n2) nd hi (.inl hl) rfl (fun t5 S5 => ?_) (.inr hl)
          refine wpAny_mono ((su a oB cv dv (X.pn ++ pins) zB ⟨_, dB⟩).run [] t5 _ G2 _ S5 (y2 rfl a freeA)) (fun fl t6 out => ?_) (fun _ _ z => z.elim)
          have away6 : ∀ {u6 : St} {G6 : Hp} {Q : Shared → Prop}, Inv (X.suite a ((a, oB) :: (X.pn ++ pins))) [] u6 G6 t6 → (∀ t7, Inv X pins (u6.set i none) G6 t7 → Q t7) →
              wpAny (model X.prog X.w) X.A (do bindName X.env n .none; unbindBehindTheSuite X.env n q2) (fun _ t7 => Q t7) X.xe t6 := fun {u6 G6 Q} S6 q => gone_ok (S6.unsuite okX) nd hi hl q
          cases fl with
          | next => exact let ⟨u6, G6, S6, z⟩ := out; away6 S6 fun t7 J7 => ⟨_, _, J7, z⟩
          | brk => exact let ⟨u6, G6, S6, z⟩ := out; away6 S6 fun t7 J7 => ⟨_, _, J7, z⟩
          | cont => exact let ⟨u6, G6, S6, z⟩ := out; away6 S6 fun t7 J7 => ⟨_, _, J7, z⟩
          | ret _ => exact let ⟨v6, u6, G6, S6, r6, z⟩ := out; away6 S6 fun t7 J7 => ⟨_, _, _, J7, r6, z⟩
    exact go cl wish
  · cases fl with
    | next => exact let ⟨u6, G6, J6, z⟩ := out; wpAny_execs_nil ⟨u6, G6, J6.ofTry okX, z⟩
    | brk => exact let ⟨u6, G6, J6, z⟩ := out; ⟨u6, G6, J6.ofTry okX, z⟩
    | cont => exact let ⟨u6, G6, J6, z⟩ := out; ⟨u6, G6, J6.ofTry okX, z⟩
    | ret _ => exact let ⟨v6, u6, G6, J6, r6, z⟩ := out; ⟨v6, u6, G6, J6.ofTry okX, r6, z⟩
end
end L2

set_option Elab.async false
set_option linter.all false
set_option maxRecDepth 100000
set_option maxHeartbeats 4000000
/-! The program's own errors in the tree: raised, caught, asked. -/
namespace Tri
open PySem PySem.Spec PyProof.Rows L2 RZ
def xad (K : PySem.W.Frag) (x : Xc) : Addr := He.ga K x.str
/-- what the written part says of the errors' classes; xcs: those that are raised, xall: those that are named -/
structure Xf (P : Program) (K : PySem.W.Frag) (mg : Str → Option Value) (xcs xall : List Xc) : Prop where
  own : ∀ x ∈ xcs, ∃ fI, PySem.TX.Ini P K (xad K x) fI (x.fds.map Fd.str)
  keep : ∀ x ∈ xcs, PySem.W.keepIn K (.ref (xad K x)) = true
  exC : ∀ x ∈ xcs, PySem.W.subIn K (.ref (xad K x)) (.type "BaseException") = some true
  tyC : ∀ x ∈ xcs, PySem.W.typeIn K (.ref (xad K x)) = some (.type "type")
  hdC : ∀ x ∈ xcs, PySem.W.hasDictIn K (xad K x) = true
  isC : ∀ x ∈ xcs, (PySem.W.clsIn K (xad K x)).isSome = true
  ga : ∀ x ∈ xcs, PySem.W.findIn K (.ref (xad K x)) "__getattribute__" = some (some (.builtin "BaseException.__getattribute__"))
  gg : ∀ x ∈ xcs, PySem.W.findIn K (.ref (xad K x)) "__getattr__" = some none
  cl : ∀ x ∈ xcs, PySem.W.findIn K (.ref (xad K x)) "__class__" = some (some (.builtin "object.__class__"))
  ob : ∀ x ∈ xcs, PySem.W.mroIn K (xad K x) (.type "object") = some true
  sp : ∀ x ∈ xcs, PySem.W.specialIn K (.builtin "object.__class__") "__get__" = some (some (.builtin "getset_descriptor.__get__")) ∧ PySem.W.takesIn K (.builtin "object.__class__") = some true
  glb : ∀ x ∈ xall, mg x.str = some (.ref (xad K x))
  inn : ∀ x ∈ xcs, x ∈ xall
  exm : ∀ x ∈ xcs, ∀ y ∈ xall, PySem.W.exmOne K (.ref (xad K x)) (.ref (xad K y)) = some (x.isA y)
  kit : ∀ x ∈ xcs, ∀ y ∈ xall, PySem.W.kitOne K (.ref (xad K x)) (.ref (xad K y)) = some (x.isA y)
theorem xstr_dbg (x : Xc) : (x.str == ("__debug__" : Str)) = false := by cases x <;> decide +kernel
theorem fd_inj : ∀ f g : Fd, (f.str == g.str) = (f == g) := by
  intro f g
  cases f <;> cases g <;> decide +kernel
/-- what a caught (a flying) error is -/
def xrOf (K : PySem.W.Frag) (xcs : List Xc) : XRel := fun c ds ρ H cls d => c ∈ xcs ∧ ds.length = c.fds.length ∧ cls = .ref (xad K c) ∧ ∃ (dd : Addr) (vs : List V), d = some dd ∧ H dd = some (.xd ((c.fds.map Fd.str).zip vs)) ∧ (∀ n, ρ n ≠ some dd) ∧ RelDs K ρ H ds vs
theorem xr_step {K : PySem.W.Frag} {xcs : List Xc} {c : Xc} {ds : List D} {ρ ρ' : Rho} {H H' : Hp} {cls : Value} {d : Option Addr} (s : Step ρ H ρ' H') (h : xrOf K xcs c ds ρ H cls d) : xrOf K xcs c ds ρ' H' cls d := by
  obtain ⟨h1, h2, h3, dd, vs, h4, h5, h6, h7⟩ := h
  refine ⟨h1, h2, h3, dd, vs, h4, s.frame dd _ h5 h6, fun n z => ?_, RelDs.mono s.mono _ _ h7⟩
  rcases s.new n dd z with z | z
  · exact h6 n z
  · rw [h5] at z
    cases z
/-! ### a suite -/
structure Sx (c : Cfg) (K : PySem.W.Frag) (X : Cx) (en : Option Str) (si : Option Nat) (a : Addr) (oe : Obj) : Prop where
  N : X.N = c.N
  nd : X.N.Nodup
  sc : X.env.scope = c.sc
  kk : X.K = K
  free : ∀ x, x ∈ c.free → X.mg x = none
  xf : Xf X.prog K X.mg c.xcs c.xall
  hf : ∃ vs, oe.data = .fields vs
  pn : (a, oe) ∈ X.pn
  enm : ∀ n, en = some n → ∃ i, si = some i ∧ X.N[i]? = some n ∧ X.env.scope.names.lookup n = some .local
  dbg : ∀ n, en = some n → (n == ("__debug__" : Str)) = false ∧ (n == ("__classdict__" : Str)) = false
section
variable {c : Cfg} {K : PySem.W.Frag} {X : Cx} {en : Option Str} {si : Option Nat} {a : Addr} {oe : Obj} {cls : Value} {d : Option Addr}
theorem Sx.gl (k : Sx c K X en si a oe) {x : Str} (h : c.gl x = true) : Gl X x := by
  unfold Cfg.gl at h
  unfold Gl Env.kindOf
  rw [k.sc]
  exact beq_iff_eq.mp h
theorem Sx.bi (k : Sx c K X en si a oe) {x : Str} (h : c.bi x = true) : Gl X x ∧ X.mg x = none := by
  unfold Cfg.bi at h
  obtain ⟨h1, h2⟩ := Bool.and_eq_true_iff.mp h
  exact ⟨k.gl h1, k.free x (List.contains_iff_mem.mp h2)⟩
theorem Sx.vis (k : Sx c K X en si a oe) {i : Nat} {x : Str} (h : c.vis i x = true) : X.N[i]? = some x ∧ Vis X.env.scope x ∧ (x == ("__debug__" : Str)) = false ∧ (x == ("__classdict__" : Str)) = false := by
  unfold Cfg.vis at h
  simp only [Bool.and_eq_true, Bool.or_eq_true, Bool.not_eq_true', beq_iff_eq] at h
  obtain ⟨⟨⟨h1, h2⟩, h3⟩, h4⟩ := h
  refine ⟨by rw [k.N]; exact h1, ?_, h3, h4⟩
  unfold Vis
  rw [k.sc]
  rcases h2 with (h | h) | h
  · exact .inl h
  · exact .inr (.inl h)
  · exact .inr (.inr h)
/-- the state of a suite -/
structure At (K : PySem.W.Frag) (xcs : List Xc) (si : Option Nat) (a : Addr) (cls : Value) (d : Option Addr) (ρ : Rho) (H : Hp) (τ : Sl) (M : Store) (σ : L2.St) (x : Xc) (ds : List D) : Prop where
  conc : Conc K ρ M H
  slots : Slots K ρ H τ σ
  xr : xrOf K xcs x ds ρ H cls d
  at_ : ∀ i, si = some i → σ[i]? = some (some (.ref a))
theorem At.step {xcs : List Xc} {ρ ρ' : Rho} {H H' : Hp} {τ : Sl} {M : Store} {σ : L2.St} {x : Xc} {ds : List D} (h : At K xcs si a cls d ρ H τ M σ x ds) (s : Step ρ H ρ' H') (c' : Conc K ρ' M H') : At K xcs si a cls d ρ' H' τ M σ x ds :=
  ⟨c', h.slots.mono s.mono, xr_step s h.xr, h.at_⟩
def tX (K : PySem.W.Frag) (xcs : List Xc) (si : Option Nat) (a : Addr) (cls : Value) (d : Option Addr) (f : Xc → List D → Sl → Option Q) : TE := fun σ H P => ∃ ρ τ M x ds, At K xcs si a cls d ρ H τ M σ x ds ∧ ∃ q, f x ds τ = some q ∧ Post K ρ H P q M
def tXT (K : PySem.W.Frag) (xcs : List Xc) (si : Option Nat) (a : Addr) (cls : Value) (d : Option Addr) (f : Xc → Bool) : TT := fun σ H P => ∃ ρ τ M x ds, At K xcs si a cls d ρ H τ M σ x ds ∧ ∀ ρ1 H1, Step ρ H ρ1 H1 → Conc K ρ1 M H1 → P (f x) H1
/-- isinstance(e, C), e the caught error -/
def rIsE (K : PySem.W.Frag) (xcs xall : List Xc) (a : Addr) (cls : Value) (d : Option Addr) : List V → Hp → VK → Prop := fun xs H Q => ∃ (x y : Xc) (ds : List D) (ρ : Rho), xs = [.ref a, .ref (xad K y)] ∧ y ∈ xall ∧ xrOf K xcs x ds ρ H cls d ∧ Q (.bl (x.isA y)) H
def rIsEs (K : PySem.W.Frag) (xcs xall : List Xc) (a : Addr) (cls : Value) (d : Option Addr) : List V → Hp → VK → Prop := fun xs H Q => ∃ (x : Xc) (ys : List Xc) (ds : List D) (ρ : Rho) (tp : Addr), xs = [.ref a, .ref tp] ∧ H tp = some (.tup (ys.map fun y => V.ref (xad K y))) ∧ (∀ y ∈ ys, y ∈ xall) ∧ xrOf K xcs x ds ρ H cls d ∧ Q (.bl (ys.any fun y => x.isA y)) H
theorem inst_at {P : Program} {w : World} {H : Hp} {h : Heap} {x : Xc} {ds : List D} {ρ : Rho} {xcs : List Xc} (hok : HOk P w H h) (ha : h.get? a = some oe) (hz : Zc cls d oe) (hf : ∃ vs, oe.data = .fields vs) (xr : xrOf K xcs x ds ρ H cls d) : ∃ od, PySem.W.InstAt h a oe (xad K x) (some od) := by
  obtain ⟨_, _, rfl, dd, vs, rfl, hd, _, _⟩ := xr
  obtain ⟨vs', hf⟩ := hf
  obtain ⟨m, hns, _⟩ := (show ObjOk P w H h dd (.xd _) from hok dd _ hd)
  obtain ⟨od, _, _, ho, _⟩ := hns
  exact ⟨od, ha, hz.1, by unfold PySem.W.notCls; rw [hf] <;> rfl, by rw [hz.2]; exact ho⟩
theorem kit_all {x : Xc} {xall : List Xc} (hk : ∀ y ∈ xall, PySem.W.kitOne K (.ref (xad K x)) (.ref (xad K y)) = some (x.isA y)) : ∀ ys : List Xc, (∀ y ∈ ys, y ∈ xall) → PySem.W.kitAny K (.ref (xad K x)) (ys.map fun y => Value.ref (xad K y)) = some (ys.any fun y => x.isA y)
  | [], _ => rfl
  | y :: ys, h => by
    have ih := kit_all hk ys fun z hz => h z (List.mem_cons_of_mem _ hz)
    rw [List.map_cons]
    unfold PySem.W.kitAny
    rw [hk y (h y List.mem_cons_self), List.any_cons]
    cases x.isA y with
    | true => rfl
    | false => exact ih
theorem refs_rel {ys : List Xc} : ∀ {us : List Value}, Vals (ys.map fun y => V.ref (xad K y)) us → us = ys.map fun y => Value.ref (xad K y) := by
  induction ys with
  | nil =>
    intro us h
    cases h
    rfl
  | cons y ys ih =>
    intro us h
    cases h with
    | cons r t =>
      cases (show _ = Value.ref (xad K y) from r)
      rw [ih t]
      rfl
theorem call_isE (k : Sx c K X en si a oe) (hz : Zc cls d oe) : CallR X (.builtin "isinstance") (rIsE K c.xcs c.xall a cls d) := by
  intro pins s σ H xs us Q I r h
  obtain ⟨x, y, ds, ρ, rfl, hy, xr, q⟩ := h
  obtain ⟨u1, u2, rfl, r1, r2⟩ := vals2 r
  cases (show u1 = Value.ref a from r1)
  cases (show u2 = Value.ref (xad K y) from r2)
  have hx := xr.1
  obtain ⟨ha, _⟩ := I.pin (a, oe) (List.mem_append_left _ k.pn)
  obtain ⟨od, J⟩ := inst_at I.hok ha hz k.hf xr
  obtain ⟨s1, s2⟩ := k.xf.sp x hx
  have hkin : K.In s.heap := k.kk ▸ I.kIn
  exact PySem.W.kia_one (PySem.W.kitx_exc (k.xf.isC x hx) (k.xf.ga x hx) (k.xf.gg x hx) (k.xf.exC x hx) (k.xf.cl x hx) s1 s2 (k.xf.ob x hx)) hkin J (k.xf.kit x hx y hy) (fun z => nomatch z) fun tk => ⟨.bl (x.isA y), H, I.tok tk, rfl, q⟩
theorem call_isEs (k : Sx c K X en si a oe) (hz : Zc cls d oe) : CallR X (.builtin "isinstance") (rIsEs K c.xcs c.xall a cls d) := by
  intro pins s σ H xs us Q I r h
  obtain ⟨x, ys, ds, ρ, tp, rfl, hT, hy, xr, q⟩ := h
  obtain ⟨u1, u2, rfl, r1, r2⟩ := vals2 r
  cases (show u1 = Value.ref a from r1)
  cases (show u2 = Value.ref tp from r2)
  have hx := xr.1
  obtain ⟨ha, _⟩ := I.pin (a, oe) (List.mem_append_left _ k.pn)
  obtain ⟨od, J⟩ := inst_at I.hok ha hz k.hf xr
  obtain ⟨s1, s2⟩ := k.xf.sp x hx
  have hkin : K.In s.heap := k.kk ▸ I.kIn
  obtain ⟨_, its, rv, o, h1, h2, n, h3⟩ := (show ObjOk X.prog X.w H s.heap tp (.tup _) from I.hok tp _ hT)
  have e3 := refs_rel rv
  subst e3
  obtain ⟨oc, od2, dt, sl⟩ := o
  simp only at h2 h3
  subst h2 h3
  exact PySem.W.kia_tup (PySem.W.kitx_exc (k.xf.isC x hx) (k.xf.ga x hx) (k.xf.gg x hx) (k.xf.exC x hx) (k.xf.cl x hx) s1 s2 (k.xf.ob x hx)) hkin J h1 (kit_all (k.xf.kit x hx) ys hy) (fun z => nomatch z) fun tk => ⟨.bl (ys.any fun y => x.isA y), H, I.tok tk, rfl, q⟩
/-- e.f, e the caught error -/
def tFld (K : PySem.W.Frag) (xcs : List Xc) (a : Addr) (cls : Value) (d : Option Addr) (f : Fd) (te : TE) : TE := fun σ H P => te σ H fun v H1 => v = .ref a ∧ ∃ (x : Xc) (ds : List D) (ρ : Rho), xrOf K xcs x ds ρ H1 cls d ∧ ∃ y, (x.fds.zip ds).lookup f = some y ∧ ∀ w, RelD K ρ H1 y w → P w H1
theorem fld_look {K : PySem.W.Frag} {ρ : Rho} {H : Hp} {f : Fd} {y : D} : ∀ {fs : List Fd} {ds : List D} {vs : List V}, RelDs K ρ H ds vs → (fs.zip ds).lookup f = some y → ∃ v, ((fs.map Fd.str).zip vs).lookup f.str = some v ∧ RelD K ρ H y v
  | [], ds, vs, _, e => by cases e
  | g :: fs, [], vs, _, e => by cases e
  | g :: fs, d :: ds, _, ⟨v, vs, rfl, h1, h2⟩, e => by
    simp only [List.zip_cons_cons, List.map_cons, List.lookup] at e ⊢
    rw [fd_inj f g]
    cases q : (f == g) with
    | true =>
      rw [q] at e
      cases e
      exact ⟨v, rfl, h1⟩
    | false =>
      rw [q] at e
      exact fld_look h2 e
theorem pe_fld (k : Sx c K X en si a oe) (hz : Zc cls d oe) {f : Fd} {e : Expr} {te : TE} {pos : Pos} (he : PE X e te) (hb : attributeBase e f.str X.env (eval e X.env) = eval e X.env) : PE X (.Attribute e f.str pos) (tFld K c.xcs a cls d f te) := by
  refine ⟨fun pins s σ H Q I h => ?_⟩
  refine attr_of hb (thn (he.run pins s σ H _ I h) fun u s1 hh => ?_)
  obtain ⟨v, H1, I1, rv, ev, x, ds, ρ, xr, y, hy, q⟩ := hh
  subst ev
  obtain rfl : u = Value.ref a := rv
  obtain ⟨ha, _⟩ := I1.pin (a, oe) (List.mem_append_left _ k.pn)
  obtain ⟨od0, J⟩ := inst_at I1.hok ha hz k.hf xr
  obtain ⟨hx, hl, rfl, dd, vs, rfl, hd, _, rel⟩ := xr
  obtain ⟨w, hw, rw'⟩ := fld_look rel hy
  obtain ⟨mA, hns, hr⟩ := (show ObjOk X.prog X.w H1 s1.heap dd (.xd _) from I1.hok dd _ hd)
  obtain ⟨od, ho, hlk⟩ := lookIn_ns hns
  obtain ⟨u, hu, ru⟩ := RelO.some_of (v := w) (o := mA f.str) (by rw [← hw]; exact hr f.str)
  have J2 : PySem.W.InstAt s1.heap a oe (xad K x) (some od) := ⟨ha, hz.1, J.no, by rw [hz.2]; exact ho⟩
  have noF : PySem.W.findIn K (.ref (xad K x)) f.str = some none := by
    obtain ⟨fI, T⟩ := k.xf.own x hx
    refine T.noF f.str ?_
    have : f ∈ x.fds := by
      have key : ∀ {fs : List Fd} {ds : List D}, (fs.zip ds).lookup f = some y → f ∈ fs := by
        intro fs
        induction fs with
        | nil => intro ds e; cases e
        | cons g fs ih =>
          intro ds e
          cases ds with
          | nil => cases e
          | cons d ds =>
            simp only [List.zip_cons_cons, List.lookup] at e
            cases q : (f == g) with
            | true => rw [beq_iff_eq.mp q]; exact List.mem_cons_self ..
            | false => rw [q] at e; exact List.mem_cons_of_mem _ (ih e)
      exact key hy
    exact List.mem_map.mpr ⟨f, this, rfl⟩
  have hkin : K.In s1.heap := k.kk ▸ I1.kIn
  exact HandSPX.exc_get hkin J2 (k.xf.ga x hx) (k.xf.gg x hx) (k.xf.exC x hx) (PySem.W.findObj_own (k.xf.hdC x hx) noF rfl (by rw [hlk, hu])) (handed_of ru) ⟨w, H1, I1.tok _, ru, q w rw'⟩
end
end Tri

set_option Elab.async false
set_option linter.all false
set_option maxRecDepth 100000
set_option maxHeartbeats 4000000
/-! Except suites: what the checker lets is what the interpreter says. -/
namespace Tri
open PySem PySem.Spec PyProof.Rows L2 RZ
section
variable {c : Cfg} {K : PySem.W.Frag} {X : Cx} {en : Option Str} {si : Option Nat} {a : Addr} {oe : Obj} {cls : Value} {d : Option Addr}
theorem Sx.enV (k : Sx c K X en si a oe) {y : Str} (h : en = some y) {p : Pos} : ∃ i, si = some i ∧ PE X (.Name y p) (tVar i) := by
  obtain ⟨i, e1, e2, e3⟩ := k.enm y h
  exact ⟨i, e1, pe_var e2 (.inl e3) (k.dbg y h).1 (k.dbg y h).2⟩
/-- class names, one after the other -/
theorem soundCs (k : Sx c K X en si a oe) : ∀ {ds : List Xc} {es : List Expr}, chkCs c ds es = true → PA X es (fun _ H P => P (ds.map fun y => V.ref (xad K y)) H) ∧ (∀ y ∈ ds, y ∈ c.xall) ∧ ds.length = es.length
  | [], [], _ => ⟨PA.imp pa_nil fun σ H P h => h, fun y h => absurd h (by simp), rfl⟩
  | [], _ :: _, h => by cases h
  | _ :: _, [], h => by cases h
  | y :: ds, e :: es, h => by
    cases e with
    | Name z p =>
      simp only [chkCs, Bool.and_eq_true, beq_iff_eq] at h
      obtain ⟨⟨⟨rfl, hg⟩, hc⟩, hr⟩ := h
      obtain ⟨h1, h2, h3⟩ := soundCs k hr
      have hy : y ∈ c.xall := List.contains_iff_mem.mp hc
      have hn : PE X (.Name y.str p) (tC (.ref (xad K y))) := pe_glob (k.gl hg) (k.xf.glb y hy) rfl (xstr_dbg y)
      refine ⟨PA.imp (pa_cons hn h1 (star_plain rfl _ _)) fun σ H P h => h, fun z hz => ?_, by rw [List.length_cons, List.length_cons, h3]⟩
      rcases List.mem_cons.mp hz with rfl | hz
      · exact hy
      · exact h2 z hz
    | _ => cases h
structure BT (c : Cfg) (K : PySem.W.Frag) (X : Cx) (si : Option Nat) (a : Addr) (cls : Value) (d : Option Addr) (t : XT) (e' : Expr) : Prop where
  pt : PT X e' (tXT K c.xcs si a cls d fun x => xt x t)
  pw : ∀ op l p, e' = .BoolOp op l p → PW X e' (tXT K c.xcs si a cls d fun x => xt x t)
theorem tXT_seq {f g : Xc → Bool} {σ : L2.St} {H : Hp} {P P' : Bool → Hp → Prop} {ρ : Rho} {τ : Sl} {M : Store} {x : Xc} {ds : List D} (h : At K c.xcs si a cls d ρ H τ M σ x ds) (w : ∀ ρ1 H1, Step ρ H ρ1 H1 → Conc K ρ1 M H1 → P (f x) H1) : tXT K c.xcs si a cls d f σ H P := ⟨ρ, τ, M, x, ds, h, w⟩
theorem soundT (k : Sx c K X en si a oe) (hz : Zc cls d oe) : ∀ (t : XT) {e' : Expr}, chkT c en t e' = true → BT c K X si a cls d t e'
  | .isx y, e', h => by
    cases e' with
    | Call f args kw p =>
      match f, args, kw, h with
      | .Name z1 p1, [.Name z2 p2, .Name z3 p3], [], h =>
        simp only [chkT, Bool.and_eq_true, beq_iff_eq] at h
        obtain ⟨⟨⟨⟨⟨rfl, h1⟩, h2⟩, rfl⟩, h3⟩, h4⟩ := h
        obtain ⟨g1, m1⟩ := k.bi h1
        have hy : y ∈ c.xall := List.contains_iff_mem.mp h4
        obtain ⟨i, ei, hi⟩ := k.enV (p := p2) h2
        have hn : PE X (.Name y.str p3) (tC (.ref (xad K y))) := pe_glob (k.gl h3) (k.xf.glb y hy) rfl (xstr_dbg y)
        refine ⟨PT.imp (pt_val (pe_callB (call_isE k hz) g1 m1 (by decide +kernel) (pa2 hi hn rfl rfl) (by decide) (by decide) (star_plain rfl _ _) rfl) (true_plain rfl)) fun σ H P hq => ?_, fun _ _ _ z => by cases z⟩
        obtain ⟨ρ, τ, M, x, ds, hA, hw⟩ := hq
        exact ⟨_, hA.at_ i ei, x, y, ds, ρ, rfl, hy, hA.xr, _, rfl, hw ρ H (Step.refl _ _) hA.conc⟩
    | _ => exact Bool.noConfusion h
  | .isxs ys, e', h => by
    cases e' with
    | Call f args kw p =>
      match f, args, kw, h with
      | .Name z1 p1, [.Name z2 p2, .Tuple es p3 p4], [], h =>
        simp only [chkT, Bool.and_eq_true, beq_iff_eq, decide_eq_true_eq] at h
        obtain ⟨⟨⟨⟨rfl, h1⟩, h2⟩, h3⟩, h4⟩ := h
        obtain ⟨g1, m1⟩ := k.bi h1
        obtain ⟨i, ei, hi⟩ := k.enV (p := p2) h2
        obtain ⟨hC, hy, hlen⟩ := soundCs k h4
        refine ⟨PT.imp (pt_val (pe_callB (call_isEs k hz) g1 m1 (by decide +kernel) (pa2 hi (pe_tup hC) rfl rfl) (by decide) (by decide) (star_plain rfl _ _) rfl) (true_plain rfl)) fun σ H P hq => ?_, fun _ _ _ z => by cases z⟩
        obtain ⟨ρ, τ, M, x, ds, hA, hw⟩ := hq
        refine ⟨_, hA.at_ i ei, by rw [List.length_map, hlen, sizeLine_eq]; omega, fun q hq => ?_⟩
        have st := Step.laid (ρ := ρ) (o := .tup (ys.map fun y => V.ref (xad K y))) hq
        exact ⟨x, ys, ds, ρ, q, rfl, upd_same, hy, xr_step st hA.xr, _, rfl, hw ρ _ st (hA.conc.laid hq)⟩
    | _ => exact Bool.noConfusion h
  | .not t, e', h => by
    cases e' with
    | UnaryOp op a' p =>
      cases op with
      | Not =>
        refine ⟨PT.imp (pt_not (soundT k hz t (show chkT c en t a' = true from h)).pt) fun σ H P ⟨ρ, τ, M, x, ds, hA, hw⟩ => ⟨ρ, τ, M, x, ds, hA, hw⟩, fun _ _ _ z => by cases z⟩
      | _ => exact Bool.noConfusion h
    | _ => exact Bool.noConfusion h
  | .and t u, e', h => by
    have key : ∀ {y1 y2 : Expr} {r : List Expr} {p : Pos}, chkT c en t y1 = true → PW X (.BoolOp .And (y2 :: r) p) (tXT K c.xcs si a cls d fun x => xt x u) → BT c K X si a cls d (.and t u) (.BoolOp .And (y1 :: y2 :: r) p) := fun {y1 y2 r p} h1 hb => by
      have pw : PW X (.BoolOp .And (y1 :: y2 :: r) p) (tXT K c.xcs si a cls d fun x => xt x (.and t u)) := by
        refine ⟨fun wh pins s σ H P I hq => (pw_and (soundT k hz t h1).pt hb).run wh pins s σ H P I ?_⟩
        obtain ⟨ρ, τ, M, x, ds, hA, hw⟩ := hq
        refine ⟨ρ, τ, M, x, ds, hA, fun ρ1 H1 st1 c1 => ?_⟩
        show if xt x t = true then _ else _
        cases e : xt x t with
        | true =>
          refine iteT ⟨ρ1, τ, M, x, ds, hA.step st1 c1, fun ρ2 H2 st2 c2 => ?_⟩
          have := hw ρ2 H2 (st1.trans st2) c2
          simpa only [xt, e, Bool.true_and] using this
        | false =>
          refine iteF ?_
          have := hw ρ1 H1 st1 c1
          simpa only [xt, e, Bool.false_and] using this
      exact ⟨pw.pt, fun _ _ _ _ => pw⟩
    cases e' with
    | BoolOp op l p =>
      cases op with
      | Or => exact Bool.noConfusion h
      | And =>
        match l, h with
        | [], h => exact Bool.noConfusion h
        | [_], h => exact Bool.noConfusion h
        | [y1, y2], h =>
          obtain ⟨h1, h2⟩ := Bool.and_eq_true_iff.mp (show (chkT c en t y1 && chkT c en u y2) = true from h)
          exact key h1 (pw_and1 (soundT k hz u h2).pt)
        | y1 :: y2 :: y3 :: r, h =>
          obtain ⟨h1, h2⟩ := Bool.and_eq_true_iff.mp (show (chkT c en t y1 && chkT c en u (.BoolOp .And (y2 :: y3 :: r) p)) = true from h)
          exact key h1 ((soundT k hz u h2).pw _ _ _ rfl)
    | _ => exact Bool.noConfusion h
  | .or t u, e', h => by
    have key : ∀ {y1 y2 : Expr} {r : List Expr} {p : Pos}, chkT c en t y1 = true → PW X (.BoolOp .Or (y2 :: r) p) (tXT K c.xcs si a cls d fun x => xt x u) → BT c K X si a cls d (.or t u) (.BoolOp .Or (y1 :: y2 :: r) p) := fun {y1 y2 r p} h1 hb => by
      have pw : PW X (.BoolOp .Or (y1 :: y2 :: r) p) (tXT K c.xcs si a cls d fun x => xt x (.or t u)) := by
        refine ⟨fun wh pins s σ H P I hq => (pw_or (soundT k hz t h1).pt hb).run wh pins s σ H P I ?_⟩
        obtain ⟨ρ, τ, M, x, ds, hA, hw⟩ := hq
        refine ⟨ρ, τ, M, x, ds, hA, fun ρ1 H1 st1 c1 => ?_⟩
        show if xt x t = true then _ else _
        cases e : xt x t with
        | true =>
          refine iteT ?_
          have := hw ρ1 H1 st1 c1
          simpa only [xt, e, Bool.true_or] using this
        | false =>
          refine iteF ⟨ρ1, τ, M, x, ds, hA.step st1 c1, fun ρ2 H2 st2 c2 => ?_⟩
          have := hw ρ2 H2 (st1.trans st2) c2
          simpa only [xt, e, Bool.false_or] using this
      exact ⟨pw.pt, fun _ _ _ _ => pw⟩
    cases e' with
    | BoolOp op l p =>
      cases op with
      | And => exact Bool.noConfusion h
      | Or =>
        match l, h with
        | [], h => exact Bool.noConfusion h
        | [_], h => exact Bool.noConfusion h
        | [y1, y2], h =>
          obtain ⟨h1, h2⟩ := Bool.and_eq_true_iff.mp (show (chkT c en t y1 && chkT c en u y2) = true from h)
          exact key h1 (pw_or1 (soundT k hz u h2).pt)
        | y1 :: y2 :: y3 :: r, h =>
          obtain ⟨h1, h2⟩ := Bool.and_eq_true_iff.mp (show (chkT c en t y1 && chkT c en u (.BoolOp .Or (y2 :: y3 :: r) p)) = true from h)
          exact key h1 ((soundT k hz u h2).pw _ _ _ rfl)
    | _ => exact Bool.noConfusion h
end
end Tri

set_option Elab.async false
set_option linter.all false
set_option maxRecDepth 100000
set_option maxHeartbeats 4000000
/-! Except suites: values, statements, the clauses. -/
namespace Tri
open PySem PySem.Spec PyProof.Rows L2 RZ
theorem chkX_plain {c : Cfg} {en : Option Str} {e : XE} {e' : Expr} (h : chkX c en e e' = true) : plain e' = true := by
  cases e' <;> first | rfl | (cases e <;> exact Bool.noConfusion h)
section
variable {c : Cfg} {K : PySem.W.Frag} {X : Cx} {en : Option Str} {si : Option Nat} {a : Addr} {oe : Obj} {cls : Value} {d : Option Addr}
def tXs (K : PySem.W.Frag) (xcs : List Xc) (si : Option Nat) (a : Addr) (cls : Value) (d : Option Addr) (f : Xc → List D → Sl → Option (List D)) : TA := fun σ H P => ∃ ρ τ M x ds, At K xcs si a cls d ρ H τ M σ x ds ∧ ∃ zs, f x ds τ = some zs ∧ ∀ ρ1 H1 vs, Step ρ H ρ1 H1 → Conc K ρ1 M H1 → RelDs K ρ1 H1 zs vs → P vs H1
theorem tX_const {q : D} {v : V} {f : Xc → List D → Sl → Option Q} (hf : ∀ x ds τ, f x ds τ = some (.v q)) (hr : ∀ ρ H, RelD K ρ H q v) (σ : L2.St) (H : Hp) (P : VK) (h : tX K c.xcs si a cls d f σ H P) : P v H := by
  obtain ⟨ρ, τ, M, x, ds, hA, q', e, hp⟩ := h
  rw [hf] at e
  cases e
  exact hp ρ H v (Step.refl _ _) hA.conc (hr ρ H)
mutual
theorem soundX (k : Sx c K X en si a oe) (hz : Zc cls d oe) : ∀ (e : XE) {e' : Expr}, chkX c en e e' = true → PE X e' (tX K c.xcs si a cls d fun x ds τ => xev x ds τ e)
  | .non, e', h => by
    cases e' with
    | Constant v n p =>
      cases v with
      | none => exact PE.imp pe_non fun σ H P q => tX_const (q := .non) (v := .non) (fun _ _ _ => rfl) (fun _ _ => rfl) σ H P q
      | _ => exact Bool.noConfusion h
    | _ => exact Bool.noConfusion h
  | .bl b, e', h => by
    cases e' with
    | Constant v n p =>
      cases v with
      | bool b' =>
        have e : b = b' := eq_of_beq (show (b == b') = true from h)
        subst e
        exact PE.imp pe_bl fun σ H P q => tX_const (q := .bl b) (v := .bl b) (fun _ _ _ => rfl) (fun _ _ => rfl) σ H P q
      | _ => exact Bool.noConfusion h
    | _ => exact Bool.noConfusion h
  | .int i, e', h => by
    cases e' with
    | Constant v n p =>
      cases v with
      | int j =>
        have e : i = j := eq_of_beq (show (i == j) = true from h)
        subst e
        exact PE.imp pe_int fun σ H P q => tX_const (q := .int i) (v := .int i) (fun _ _ _ => rfl) (fun _ _ => rfl) σ H P q
      | _ => exact Bool.noConfusion h
    | _ => exact Bool.noConfusion h
  | .str z, e', h => by
    cases e' with
    | Constant v n p =>
      cases v with
      | str j =>
        have e : z = j := eq_of_beq (show (z == j) = true from h)
        subst e
        exact PE.imp pe_str fun σ H P q => tX_const (q := .str z) (v := .str z) (fun _ _ _ => rfl) (fun _ _ => rfl) σ H P q
      | _ => exact Bool.noConfusion h
    | _ => exact Bool.noConfusion h
  | .var i, e', h => by
    cases e' with
    | Name x p =>
      obtain ⟨h1, h2⟩ := Bool.and_eq_true_iff.mp (show (c.vis i x && en != some x) = true from h)
      obtain ⟨b1, b2, b3, b4⟩ := k.vis h1
      refine PE.imp (pe_var b1 b2 b3 b4) fun σ H P ⟨ρ, τ, M, x, ds, hA, q, e, hp⟩ => ?_
      simp only [xev] at e
      cases ht : τ[i]? with
      | none => rw [ht] at e; cases e
      | some o =>
        cases o with
        | none => rw [ht] at e; cases e
        | some y =>
          rw [ht] at e
          cases e
          obtain ⟨v, e1, r⟩ := hA.slots.2 i y ht
          exact ⟨v, e1, hp ρ H v (Step.refl _ _) hA.conc r⟩
    | _ => exact Bool.noConfusion h
  | .fld f, e', h => by
    cases e' with
    | Attribute o g p =>
      cases o with
      | Name y p2 =>
        simp only [chkX, Bool.and_eq_true, beq_iff_eq] at h
        obtain ⟨h1, rfl⟩ := h
        obtain ⟨i, ei, hi⟩ := k.enV (p := p2) h1
        refine PE.imp (pe_fld k hz hi rfl) fun σ H P ⟨ρ, τ, M, x, ds, hA, q, e, hp⟩ => ?_
        simp only [xev, Option.map_eq_some_iff] at e
        obtain ⟨y, ey, rfl⟩ := e
        exact ⟨_, hA.at_ i ei, rfl, x, ds, ρ, hA.xr, y, ey, fun w r => hp ρ H w (Step.refl _ _) hA.conc r⟩
      | _ => exact Bool.noConfusion h
    | _ => exact Bool.noConfusion h
  | .ife t u v, e', h => by
    cases e' with
    | IfExp t' u' v' p =>
      simp only [chkX, Bool.and_eq_true] at h
      obtain ⟨⟨h1, h2⟩, h3⟩ := h
      refine PE.imp (pe_ifExp (soundT k hz t h1).pt (soundX k hz u h2) (soundX k hz v h3)) fun σ H P ⟨ρ, τ, M, x, ds, hA, q, e, hp⟩ => ?_
      refine ⟨ρ, τ, M, x, ds, hA, fun ρ1 H1 st1 c1 => ?_⟩
      have hp1 : Post K ρ1 H1 P q M := Post.step st1 hp
      simp only [xev] at e
      cases et : xt x t with
      | true =>
        rw [et] at e
        show if xt x t = true then _ else _
        rw [if_pos et]
        exact ⟨ρ1, τ, M, x, ds, hA.step st1 c1, q, by simpa using e, hp1⟩
      | false =>
        rw [et] at e
        show if xt x t = true then _ else _
        rw [if_neg (by rw [et]; exact Bool.false_ne_true)]
        exact ⟨ρ1, τ, M, x, ds, hA.step st1 c1, q, by simpa using e, hp1⟩
    | _ => exact Bool.noConfusion h
  | .tup es, e', h => by
    cases e' with
    | Tuple es' n p =>
      refine PE.imp (pe_tup (soundXs k hz es (show chkXs c en es es' = true from h))) fun σ H P ⟨ρ, τ, M, x, ds, hA, q, e, hp⟩ => ?_
      simp only [xev] at e
      cases ez : xevs x ds τ es with
      | none => rw [ez] at e; cases e
      | some zs =>
        rw [ez] at e
        dsimp only at e
        split at e
        · rename_i hl
          cases e
          refine ⟨ρ, τ, M, x, ds, hA, zs, ez, fun ρ1 H1 vs st1 c1 r => ⟨?_, fun q hq => ?_⟩⟩
          · rw [← r.length, sizeLine_eq]
            omega
          · exact hp ρ1 _ _ (st1.trans (Step.laid hq)) (c1.laid hq) ⟨q, vs, rfl, upd_same, RelDs.mono (Step.laid hq).mono _ _ r⟩
        · cases e
    | _ => exact Bool.noConfusion h
  | .lst es, e', h => by
    cases e' with
    | List es' p =>
      refine PE.imp (pe_lst (soundXs k hz es (show chkXs c en es es' = true from h))) fun σ H P ⟨ρ, τ, M, x, ds, hA, q, e, hp⟩ => ?_
      simp only [xev] at e
      cases ez : xevs x ds τ es with
      | none => rw [ez] at e; cases e
      | some zs =>
        rw [ez] at e
        dsimp only at e
        split at e
        · rename_i hl
          cases e
          refine ⟨ρ, τ, M, x, ds, hA, zs, ez, fun ρ1 H1 vs st1 c1 r => ⟨?_, fun q hq => ?_⟩⟩
          · rw [← r.length, sizeLine_eq]
            omega
          · exact hp ρ1 _ _ (st1.trans (Step.laid hq)) (c1.laid hq) ⟨q, vs, rfl, st1.there q hq, upd_same, c1.notin hq, RelDs.mono (Step.laid hq).mono _ _ r⟩
        · cases e
    | _ => exact Bool.noConfusion h
theorem soundXs (k : Sx c K X en si a oe) (hz : Zc cls d oe) : ∀ (es : XEs) {es' : List Expr}, chkXs c en es es' = true → PA X es' (tXs K c.xcs si a cls d fun x ds τ => xevs x ds τ es)
  | .nil, es', h => by
    cases es' with
    | nil =>
      refine PA.imp pa_nil fun σ H P ⟨ρ, τ, M, x, ds, hA, zs, e, hp⟩ => ?_
      cases e
      exact hp ρ H [] (Step.refl _ _) hA.conc rfl
    | cons _ _ => exact Bool.noConfusion h
  | .cons e es, es', h => by
    cases es' with
    | nil => exact Bool.noConfusion h
    | cons e1 r =>
      obtain ⟨h1, h2⟩ := Bool.and_eq_true_iff.mp (show (chkX c en e e1 && chkXs c en es r) = true from h)
      refine PA.imp (pa_cons (soundX k hz e h1) (soundXs k hz es h2) (star_plain (chkX_plain h1) _ _)) fun σ H P ⟨ρ, τ, M, x, ds, hA, zs, ez, hp⟩ => ?_
      simp only [xevs] at ez
      cases e1 : xev x ds τ e with
      | none => rw [e1] at ez; cases ez
      | some q =>
        cases q with
        | tmp _ => rw [e1] at ez; cases ez
        | v y =>
          rw [e1] at ez
          dsimp only at ez
          cases e2 : xevs x ds τ es with
          | none => rw [e2] at ez; cases ez
          | some ys =>
            rw [e2] at ez
            cases ez
            refine ⟨ρ, τ, M, x, ds, hA, .v y, e1, fun ρ1 H1 v st1 c1 r1 => ?_⟩
            refine ⟨ρ1, τ, M, x, ds, hA.step st1 c1, ys, e2, fun ρ2 H2 vs st2 c2 r2 => ?_⟩
            exact hp ρ2 H2 (v :: vs) (st1.trans st2) c2 ⟨v, vs, rfl, RelD.mono st2.mono _ _ r1, r2⟩
end
/-- what is wanted of a suite's outcome -/
def WhX (K : PySem.W.Frag) (ρ : Rho) (H : Hp) (Z : Ends) (σ : L2.St) (M : Store) : XR → Prop
  | .nx => ∀ ρ1 H1, Step ρ H ρ1 H1 → Conc K ρ1 M H1 → Z.nx σ H1
  | .rt q => Post K ρ H Z.rt q M
  | .no => False
theorem WhX.step {ρ ρ1 : Rho} {H H1 : Hp} {Z : Ends} {σ : L2.St} {M : Store} (s : Step ρ H ρ1 H1) {r : XR} (h : WhX K ρ H Z σ M r) : WhX K ρ1 H1 Z σ M r := by
  cases r with
  | nx => exact fun ρ2 H2 st c2 => h ρ2 H2 (s.trans st) c2
  | rt q => exact Post.step s h
  | no => exact h
def tXS (K : PySem.W.Frag) (xcs : List Xc) (si : Option Nat) (a : Addr) (cls : Value) (d : Option Addr) (f : Xc → List D → Sl → XR) : TS := fun Z σ H => ∃ ρ τ M x ds, At K xcs si a cls d ρ H τ M σ x ds ∧ WhX K ρ H Z σ M (f x ds τ)
mutual
theorem soundXS (k : Sx c K X en si a oe) (hz : Zc cls d oe) : ∀ (s : XS) {s' : Stmt}, chkXS c en s s' = true → PS X s' (tXS K c.xcs si a cls d fun x ds τ => xrun x ds τ s)
  | .ret e, s', h => by
    cases s' with
    | Return e' p =>
      cases e' with
      | none => exact Bool.noConfusion h
      | some e' =>
        refine PS.imp (ps_ret (soundX k hz e (show chkX c en e e' = true from h))) fun Z σ H ⟨ρ, τ, M, x, ds, hA, hw⟩ => ?_
        simp only [xrun] at hw
        cases ez : xev x ds τ e with
        | none => rw [ez] at hw; exact hw.elim
        | some q =>
          rw [ez] at hw
          exact ⟨ρ, τ, M, x, ds, hA, q, ez, hw⟩
    | _ => exact Bool.noConfusion h
  | .pass, s', h => by
    cases s' with
    | Pass p => exact PS.imp ps_pass fun Z σ H ⟨ρ, τ, M, x, ds, hA, hw⟩ => hw ρ H (Step.refl _ _) hA.conc
    | _ => exact Bool.noConfusion h
  | .ife t u v, s', h => by
    cases s' with
    | If t' u' v' p =>
      simp only [chkXS, Bool.and_eq_true] at h
      obtain ⟨⟨h1, h2⟩, h3⟩ := h
      refine PS.imp (ps_if (soundT k hz t h1).pt (soundXSs k hz u h2) (soundXSs k hz v h3)) fun Z σ H ⟨ρ, τ, M, x, ds, hA, hw⟩ => ?_
      refine ⟨ρ, τ, M, x, ds, hA, fun ρ1 H1 st1 c1 => ?_⟩
      simp only [xrun] at hw
      cases et : xt x t with
      | true =>
        rw [et] at hw
        show if xt x t = true then _ else _
        rw [if_pos et]
        exact ⟨ρ1, τ, M, x, ds, hA.step st1 c1, WhX.step st1 (by simpa using hw)⟩
      | false =>
        rw [et] at hw
        show if xt x t = true then _ else _
        rw [if_neg (by rw [et]; exact Bool.false_ne_true)]
        exact ⟨ρ1, τ, M, x, ds, hA.step st1 c1, WhX.step st1 (by simpa using hw)⟩
    | _ => exact Bool.noConfusion h
theorem soundXSs (k : Sx c K X en si a oe) (hz : Zc cls d oe) : ∀ (l : List XS) {l' : List Stmt}, chkXSs c en l l' = true → PSs X l' (tXS K c.xcs si a cls d fun x ds τ => xruns x ds τ l)
  | [], l', h => by
    cases l' with
    | nil => exact PSs.imp pss_nil fun Z σ H ⟨ρ, τ, M, x, ds, hA, hw⟩ => hw ρ H (Step.refl _ _) hA.conc
    | cons _ _ => exact Bool.noConfusion h
  | s :: r, l', h => by
    cases l' with
    | nil => exact Bool.noConfusion h
    | cons s' r' =>
      obtain ⟨h1, h2⟩ := Bool.and_eq_true_iff.mp (show (chkXS c en s s' && chkXSs c en r r') = true from h)
      refine PSs.imp (pss_cons (soundXS k hz s h1) (soundXSs k hz r h2)) fun Z σ H ⟨ρ, τ, M, x, ds, hA, hw⟩ => ?_
      refine ⟨ρ, τ, M, x, ds, hA, ?_⟩
      simp only [xruns] at hw
      show WhX K ρ H _ σ M (xrun x ds τ s)
      cases e : xrun x ds τ s with
      | nx =>
        rw [e] at hw
        exact fun ρ1 H1 st1 c1 => ⟨ρ1, τ, M, x, ds, hA.step st1 c1, WhX.step st1 hw⟩
      | rt q => rw [e] at hw; exact hw
      | no => rw [e] at hw; exact hw.elim
end
end
end Tri

set_option Elab.async false
set_option linter.all false
set_option maxRecDepth 100000
namespace Tri
open PySem PySem.Spec PyProof.Rows L2 RZ

/-- what is wanted of a statement's outcome, at (ρ, H) -/
def WhS (C : Ct) (W : WX) (ρ : Rho) (H : Hp) (Z : Ends) : RS → Prop
  | .nx τ M => ∀ ρ' H' σ', Step ρ H ρ' H' → Conc C.K ρ' M H' → Slots C.K ρ' H' τ σ' → Z.nx σ' H'
  | .rt d M => ∀ ρ' H' v, Step ρ H ρ' H' → Conc C.K ρ' M H' → RelD C.K ρ' H' d v → Z.rt v H'
  | .bk τ M => ∀ ρ' H' σ', Step ρ H ρ' H' → Conc C.K ρ' M H' → Slots C.K ρ' H' τ σ' → Z.bk σ' H'
  | .ct τ M => ∀ ρ' H' σ', Step ρ H ρ' H' → Conc C.K ρ' M H' → Slots C.K ρ' H' τ σ' → Z.ct σ' H'
  | .ex c fs τ M => ∀ ρ' H' σ' cls d, Step ρ H ρ' H' → Conc C.K ρ' M H' → Slots C.K ρ' H' τ σ' → C.xr c fs ρ' H' cls d → W cls d σ' H'
  | .no => False
theorem WhS.step {C : Ct} {W : WX} {ρ ρ1 : Rho} {H H1 : Hp} {Z : Ends} (s : Step ρ H ρ1 H1) {r : RS} (h : WhS C W ρ H Z r) : WhS C W ρ1 H1 Z r := by
  cases r with
  | nx τ M => exact fun ρ' H' σ' st => h ρ' H' σ' (s.trans st)
  | rt d M => exact fun ρ' H' v st => h ρ' H' v (s.trans st)
  | bk τ M => exact fun ρ' H' σ' st => h ρ' H' σ' (s.trans st)
  | ct τ M => exact fun ρ' H' σ' st => h ρ' H' σ' (s.trans st)
  | ex c fs τ M => exact fun ρ' H' σ' cls d st => h ρ' H' σ' cls d (s.trans st)
  | no => exact h
def tS (C : Ct) (W : WX) (f : Sl → Store → RS) : TS := fun Z σ H => ∃ ρ τ M, Conc C.K ρ M H ∧ Slots C.K ρ H τ σ ∧ WhS C W ρ H Z (f τ M)
theorem st_sat {α : Type} {C : Ct} {W : WX} {ρ : Rho} {H : Hp} {Z : Ends} {r : R α} {τ : Sl} {σ : L2.St} {f : α → Store → RS} (hs : Slots C.K ρ H τ σ) (h : WhS C W ρ H Z (r.st τ f)) : r.sat (fun a M => WhS C W ρ H Z (f a M)) (XW C W ρ H σ) := by
  cases r with
  | ok a M => exact h
  | ex c fs M => exact fun ρ' H' cls d st c' x => h ρ' H' σ cls d st c' (hs.mono st.mono) x
  | no => exact h
section
variable {C : Ct} {W : WX} {ρ : Rho} {H : Hp} {Z : Ends} {τ : Sl} {σ : L2.St} {M : Store}
theorem tQ_st {f : Sl → Store → R Q} {k : Q → Store → RS} {P : VK} (hc : Conc C.K ρ M H) (hs : Slots C.K ρ H τ σ) (h : WhS C W ρ H Z ((f τ M).st τ k))
    (hk : ∀ q M1 ρ1 H1 v, Step ρ H ρ1 H1 → Conc C.K ρ1 M1 H1 → Slots C.K ρ1 H1 τ σ → RelQ C.K H ρ1 H1 q v → WhS C W ρ1 H1 Z (k q M1) → P v H1) : tQ C W f σ H P :=
  ⟨ρ, τ, M, hc, hs, sat_mono (st_sat hs h) (fun q M1 hq ρ1 H1 v st c1 r => hk q M1 ρ1 H1 v st c1 (hs.mono st.mono) r (hq.step st)) fun _ _ _ x => x⟩
theorem tD_st {f : Sl → Store → R Q} {k : D → Store → RS} {P : VK} (hc : Conc C.K ρ M H) (hs : Slots C.K ρ H τ σ) (h : WhS C W ρ H Z ((evD (f τ M)).st τ k))
    (hk : ∀ d M1 ρ1 H1 v, Step ρ H ρ1 H1 → Conc C.K ρ1 M1 H1 → Slots C.K ρ1 H1 τ σ → RelD C.K ρ1 H1 d v → WhS C W ρ1 H1 Z (k d M1) → P v H1) : tQ C W f σ H P :=
  tD_tQ σ H P ⟨ρ, τ, M, hc, hs, sat_mono (st_sat hs h) (fun q M1 hq ρ1 H1 v st c1 r => hk q M1 ρ1 H1 v st c1 (hs.mono st.mono) r (hq.step st)) fun _ _ _ x => x⟩
theorem tT_st {f : Sl → Store → R Bool} {k : Bool → Store → RS} {P : Bool → Hp → Prop} (hc : Conc C.K ρ M H) (hs : Slots C.K ρ H τ σ) (h : WhS C W ρ H Z ((f τ M).st τ k))
    (hk : ∀ b M1 ρ1 H1, Step ρ H ρ1 H1 → Conc C.K ρ1 M1 H1 → Slots C.K ρ1 H1 τ σ → WhS C W ρ1 H1 Z (k b M1) → P b H1) : tTe C W f σ H P :=
  ⟨ρ, τ, M, hc, hs, sat_mono (st_sat hs h) (fun q M1 hq ρ1 H1 st c1 => hk q M1 ρ1 H1 st c1 (hs.mono st.mono) (hq.step st)) fun _ _ _ x => x⟩
end
/-! ### side conditions of statements -/
theorem swap_plain {e : Expr} (hp : plain e = true) (hl : isLc e = false) (t : Option Expr) (l : Nat) (env : Env) : swapsWith e t l env = pure false := by
  cases e <;> first | rfl | (exact Bool.noConfusion hp) | (exact Bool.noConfusion hl)
theorem swap_name {c : Cfg} {e : Expr} {x : Str} {p : Pos} {l : Nat} {env : Env} (hp : plain e = true) (hsc : env.scope = c.sc) (h : swB c e x p = false) : swapsWith e (some (.Name x p)) l env = pure false := by
  cases e with
  | ListComp elt gs s q =>
    show (pure (env.blockKind == .function && env.kindOf x == some .local && p.line == q.line && !(s.names.any fun (n, k) => n == x && (k == .local || k == .cell))) : Sem Bool) = pure false
    have h' : (c.sc.names.lookup x == some .local && p.line == q.line && !(s.names.any fun (n, k) => n == x && (k == .local || k == .cell))) = false := h
    have e : (env.blockKind == .function && env.kindOf x == some .local && p.line == q.line && !(s.names.any fun (n, k) => n == x && (k == .local || k == .cell))) = false := by
      unfold Env.kindOf
      rw [hsc]
      cases (env.blockKind == .function)
      · rfl
      · simpa using h'
    rw [e]
  | DictComp key elt gs s q =>
    show (pure (env.blockKind == .function && env.kindOf x == some .local && p.line == q.line && !(s.names.any fun (n, k) => n == x && (k == .local || k == .cell))) : Sem Bool) = pure false
    have h' : (c.sc.names.lookup x == some .local && p.line == q.line && !(s.names.any fun (n, k) => n == x && (k == .local || k == .cell))) = false := h
    have e : (env.blockKind == .function && env.kindOf x == some .local && p.line == q.line && !(s.names.any fun (n, k) => n == x && (k == .local || k == .cell))) = false := by
      unfold Env.kindOf
      rw [hsc]
      cases (env.blockKind == .function)
      · rfl
      · simpa using h'
    rw [e]
  | _ => exact swap_plain hp rfl _ _ _
theorem stores_plain {e : Expr} {ts : List Expr} {k : Nat} {p : Pos} {env : Env} (h : isTup e = false) : swappedStores [.Tuple ts k p] e env = pure none := by
  cases e <;> first | rfl | (exact Bool.noConfusion h)
theorem stores_sub {e o i : Expr} {p : Pos} {env : Env} : swappedStores [.Subscript o i p] e env = pure none := by
  cases e <;> rfl
theorem stores_name {e : Expr} {x : Str} {p : Pos} {env : Env} : swappedStores [.Name x p] e env = pure none := by
  cases e <;> rfl

theorem sole_plain {e : Expr} (hp : plain e = true) (hl : isLc e = false) (t : Expr) (l : Nat) (env : Env) : swapsWithSole [t] e l env = pure false := swap_plain hp hl (some t) l env
theorem assign_sub {o i : Expr} {p : Pos} {env : Env} (hs : ∀ a b c p, i ≠ .Slice a b c p) (v : Value) : assign (.Subscript o i p) env v = (do
      let ov ← holding [v] (eval o env)
      let iv ← holding [v, ov] (eval i env)
      standAt p
      holding [v, ov, iv] (setItem ov iv v)
      release [v, ov, iv] []) := by
  cases i <;> first | rfl | (exact absurd rfl (hs _ _ _ _))
structure Sok (c : Cfg) (C : Ct) (W : WX) (G : Gam) (X : Cx) : Prop extends Cok c C W G X where
  pass : PassesOwn (model X.prog X.w) X.A X.env X.xe
  kind : X.env.scope.kind = .function
  xf : Xf X.prog C.K X.mg c.xcs c.xall
  xr : C.xr = xrOf C.K c.xcs
  stk : X.stack = X.env :: X.outer
  frm : X.env.frame = some X.env.locals
  room : Room 1 X.A
/-- a try's body -/
theorem Sok.tr {c : Cfg} {C : Ct} {W W' : WX} {G : Gam} {X : Cx} (k : Sok c C W G X) {pn : List (Addr × Obj)} {xe : Value → Shared → Prop} (tk : Takes (X.tr pn xe) W') (ps : PassesOwn (model X.prog X.w) X.A X.env xe) : Sok c C W' G (X.tr pn xe) where
  N := k.N
  nd := k.nd
  sc := k.sc
  K := k.K
  calm := k.calm
  fn := k.fn
  free := k.free
  cons := k.cons
  fns := k.fns
  tk := tk
  units := k.units
  pass := ps
  kind := k.kind
  xf := k.xf
  xr := k.xr
  stk := k.stk
  frm := k.frm
  room := k.room
/-- an except suite -/
theorem Sok.sx {c : Cfg} {C : Ct} {W : WX} {G : Gam} {X : Cx} (k : Sok c C W G X) {en : Option Str} {si : Option Nat} {a : Addr} {oe : Obj} {pn : List (Addr × Obj)} (hf : ∃ vs, oe.data = .fields vs) (enm : ∀ n, en = some n → ∃ i, si = some i ∧ X.N[i]? = some n ∧ X.env.scope.names.lookup n = some .local)
    (dbg : ∀ n, en = some n → (n == ("__debug__" : Str)) = false ∧ (n == ("__classdict__" : Str)) = false) : Sx c C.K (X.suite a ((a, oe) :: pn)) en si a oe where
  N := k.N
  nd := k.nd
  sc := k.sc
  kk := k.K
  free := k.free
  xf := k.xf
  hf := hf
  pn := List.mem_cons_self
  enm := enm
  dbg := dbg
/-- the clauses as the library wants them -/
def clT (K : PySem.W.Frag) (xcs : List Xc) (hs : List Hd) : List ClT := hs.map fun h => (.ref (xad K h.cls), h.slot, fun a cls d => tXS K xcs h.slot a cls d fun x ds τ => xruns x ds τ h.body)
theorem cl_ok {c : Cfg} {C : Ct} {W : WX} {G : Gam} {X : Cx} (k : Sok c C W G X) : ∀ {hs : List Hd} {l : List ExceptHandler}, chkHs c hs l = true → ClOk X l (clT C.K c.xcs hs) ∧ ∀ h ∈ hs, h.cls ∈ c.xall
  | [], l, h => by
    cases l with
    | nil => exact ⟨.nil, fun h hh => by cases hh⟩
    | cons _ _ => exact Bool.noConfusion h
  | hd :: hs, l, h => by
    cases l with
    | nil => exact Bool.noConfusion h
    | cons e r =>
      obtain ⟨cl, si, body⟩ := hd
      cases e with
      | ExceptHandler ty n sts p =>
        cases ty with
        | none => exact Bool.noConfusion h
        | some ty =>
          cases ty with
          | Name y py =>
            cases sts with
            | nil => exact Bool.noConfusion h
            | cons st sts =>
              simp only [chkHs, Bool.and_eq_true, beq_iff_eq] at h
              obtain ⟨⟨⟨⟨⟨h1, rfl⟩, h2⟩, h3⟩, h4⟩, h5⟩ := h
              have hc : cl ∈ c.xall := List.contains_iff_mem.mp h1
              obtain ⟨i1, i2⟩ := cl_ok k h5
              have nm : Names X cl.str (.ref (xad C.K cl)) := ⟨k.toCok.gl h2, xstr_dbg cl, .inl (k.xf.glb cl hc)⟩
              refine ⟨?_, fun h hh => ?_⟩
              · cases si with
                | none =>
                  cases n with
                  | some x => exact Bool.noConfusion h3
                  | none =>
                    exact ClOk.bare nm (fun a o cls d pn hz hf => soundXSs (k.sx (en := none) (si := none) hf (fun n e => by cases e) fun n e => by cases e) hz body h4) i1
                | some i =>
                  cases n with
                  | none => exact Bool.noConfusion h3
                  | some x =>
                    simp only [Bool.and_eq_true, beq_iff_eq, Bool.not_eq_true'] at h3
                    obtain ⟨⟨⟨h31, h32⟩, h33⟩, h34⟩ := h3
                    have hN : X.N[i]? = some x := by rw [k.N]; exact h31
                    have hl : X.env.kindOf x = some .local := by
                      unfold Env.kindOf
                      rw [k.sc]
                      exact h32
                    exact ClOk.named nm hN hl (fun a o cls d pn hz hf => soundXSs (k.sx (en := some x) (si := some i) hf (fun n e => by cases e; exact ⟨i, rfl, hN, hl⟩) fun n e => by cases e; exact ⟨h33, h34⟩) hz body h4) i1
              · rcases List.mem_cons.mp hh with rfl | hh
                · exact hc
                · exact i2 h hh
          | _ => exact Bool.noConfusion h
theorem slots_none {K : PySem.W.Frag} {ρ : Rho} {H : Hp} {τ : Sl} {σ : L2.St} (h : Slots K ρ H τ σ) (i : Nat) (o : Option V) : Slots K ρ H (τ.set i none) (σ.set i o) := by
  refine ⟨by rw [List.length_set, List.length_set]; exact h.1, fun j x e => ?_⟩
  by_cases hj : i = j
  · subst hj
    rw [List.getElem?_set] at e
    simp only [if_true] at e
    split at e <;> cases e
  · rw [List.getElem?_set_ne hj] at e ⊢
    exact h.2 j x e
theorem slots_none2 {K : PySem.W.Frag} {ρ : Rho} {H : Hp} {τ : Sl} {σ : L2.St} {i : Nat} (h : Slots K ρ H (τ.set i none) σ) : Slots K ρ H (τ.set i none) (σ.set i none) := by
  have := slots_none h i none
  rwa [List.set_set] at this
/-- what the clauses make of an error is what the library's reading asks -/
theorem wall_ok {c : Cfg} {C : Ct} {W : WX} {ρ : Rho} {H : Hp} {τ : Sl} {σ : L2.St} {M : Store} {x : Xc} {ds : List D} {cls : Value} {d : Option Addr} {Z : Ends} {P : Program} {mg : Str → Option Value} (xf : Xf P C.K mg c.xcs c.xall) (xr : C.xr = xrOf C.K c.xcs) (hc : Conc C.K ρ M H) (hs : Slots C.K ρ H τ σ) (hx : C.xr x ds ρ H cls d) :
    ∀ {hs : List Hd}, (∀ h ∈ hs, h.cls ∈ c.xall) → WhS C W ρ H Z (hands x ds τ M hs) → wAll C.K W Z (clT C.K c.xcs hs) cls d σ H
  | [], _, hw => hw ρ H σ cls d (Step.refl _ _) hc hs hx
  | ⟨cl, si, body⟩ :: r, hall, hw => by
    have hx' : xrOf C.K c.xcs x ds ρ H cls d := by rw [← xr]; exact hx
    have hin := hx'.1
    have hcl := hx'.2.2.1
    have e1 := xf.exm x hin cl (hall _ List.mem_cons_self)
    simp only [hands] at hw
    have rt_ok : ∀ (τ' : Sl) (q : Q), WhS C W ρ H Z (xend τ' M (.rt q)) → Post C.K ρ H Z.rt q M := fun τ' q h => by
      cases q with
      | v y => exact h
      | tmp zs =>
        intro ρ1 H1 v st1 c1 r1
        obtain ⟨p, vs, e, h0, ha, hn, rr⟩ := r1
        exact h (ext ρ1 M.length p) H1 v (st1.named c1.free h0) (c1.named ha hn rr) ⟨p, e, ext_same, _, ha, rfl⟩
    cases si with
    | none =>
      refine ⟨x.isA cl, by rw [hcl]; exact e1, fun hb a ha => ?_, fun hb => ?_⟩
      · rw [hb] at hw
        simp only [if_true, slotOk] at hw
        refine ⟨ρ, τ, M, x, ds, ⟨hc, hs, hx', fun i e => by cases e⟩, ?_⟩
        show WhX C.K ρ H Z σ M (xruns x ds τ body)
        have hw' : WhS C W ρ H Z (xend τ M (xruns x ds τ body)) := hw
        cases e : xruns x ds τ body with
        | nx => rw [e] at hw'; exact fun ρ1 H1 st1 c1 => hw' ρ1 H1 σ st1 c1 (hs.mono st1.mono)
        | rt q => rw [e] at hw'; exact rt_ok τ q hw'
        | no => rw [e] at hw'; exact hw'.elim
      · rw [hb] at hw
        simp only [Bool.false_eq_true, if_false] at hw
        exact wall_ok xf xr hc hs hx (fun h hh => hall h (List.mem_cons_of_mem _ hh)) hw
    | some i =>
      refine ⟨x.isA cl, by rw [hcl]; exact e1, fun hb a ha => ?_, fun hb => ?_⟩
      · rw [hb] at hw
        simp only [if_true] at hw
        have hok : decide (i < τ.length) = true := by
          cases q : decide (i < τ.length) with
          | true => rfl
          | false =>
            have q' : slotOk (some i) τ = false := q
            rw [q'] at hw
            exact hw.elim
        have q' : slotOk (some i) τ = true := hok
        rw [q'] at hw
        simp only [if_true] at hw
        refine ⟨ρ, τ.set i none, M, x, ds, ⟨hc, slots_none hs i _, hx', fun j e => ?_⟩, ?_⟩
        · cases e
          exact List.getElem?_set_self (by rw [← hs.1]; exact of_decide_eq_true hok)
        · show WhX C.K ρ H (goneE i Z) (σ.set i (some (.ref a))) M (xruns x ds (τ.set i none) body)
          have hw' : WhS C W ρ H Z (xend (τ.set i none) M (xruns x ds (τ.set i none) body)) := hw
          cases e : xruns x ds (τ.set i none) body with
          | nx =>
            rw [e] at hw'
            exact fun ρ1 H1 st1 c1 => hw' ρ1 H1 _ st1 c1 (slots_none2 ((slots_none hs i _).mono st1.mono))
          | rt q => rw [e] at hw'; exact rt_ok _ q hw'
          | no => rw [e] at hw'; exact hw'.elim
      · rw [hb] at hw
        simp only [Bool.false_eq_true, if_false] at hw
        exact wall_ok xf xr hc hs hx (fun h hh => hall h (List.mem_cons_of_mem _ hh)) hw
section
variable {C : Ct} {W : WX} {G : Gam}
theorem whl_ok {cf : Sl → Store → R Bool} {bf : Sl → Store → RS} {σ : L2.St} {H : Hp} {Z : Ends} (h : tS C W (while_ cf bf) Z σ H) : tWhile (tTe C W cf) (tS C W bf) Z σ H := by
  obtain ⟨ρ, τ, M, hc, hs, hw⟩ := h
  have ne : while_ cf bf τ M ≠ .no := fun e => by rw [e] at hw; exact hw
  obtain ⟨n, e⟩ := of_while ne
  rw [e] at hw
  refine ⟨fun m σ' H' => ∃ ρ' τ' M', Conc C.K ρ' M' H' ∧ Slots C.K ρ' H' τ' σ' ∧ WhS C W ρ' H' Z (whileN cf bf m τ' M'), ⟨n, ρ, τ, M, hc, hs, hw⟩, ?_⟩
  rintro m σ' H' ⟨ρ', τ', M', c', s', hw'⟩
  cases m with
  | zero => exact hw'.elim
  | succ m =>
    simp only [whileN] at hw'
    refine tT_st c' s' hw' fun b M1 ρ1 H1 st1 c1 s1 h1 => ?_
    cases b with
    | false =>
      simp only [Bool.false_eq_true, if_false] at h1
      exact iteF (h1 ρ1 H1 σ' (Step.refl _ _) c1 s1)
    | true =>
      simp only [if_true] at h1
      refine iteT ⟨fun σ2 H2 => ∃ m', m' < m + 1 ∧ ∃ ρ' τ' M', Conc C.K ρ' M' H2 ∧ Slots C.K ρ' H2 τ' σ2 ∧ WhS C W ρ' H2 Z (whileN cf bf m' τ' M'), fun σ2 H2 hN => hN, ρ1, τ', M1, c1, s1, ?_⟩
      cases hb : bf τ' M1 with
      | nx τ2 M2 =>
        rw [hb] at h1
        exact fun ρ2 H2 σ2 st2 c2 s2 => ⟨m, Nat.lt_succ_self m, ρ2, τ2, M2, c2, s2, WhS.step st2 h1⟩
      | ct τ2 M2 =>
        rw [hb] at h1
        exact fun ρ2 H2 σ2 st2 c2 s2 => ⟨m, Nat.lt_succ_self m, ρ2, τ2, M2, c2, s2, WhS.step st2 h1⟩
      | bk τ2 M2 => rw [hb] at h1; exact h1
      | rt d M2 => rw [hb] at h1; exact h1
      | ex cl fs τ2 M2 => rw [hb] at h1; exact h1
      | no => rw [hb] at h1; exact h1
theorem for_ok {f : Sl → Store → R Src} {t : Tg} {bf : Sl → Store → RS} {σ : L2.St} {H : Hp} {Z : Ends} (h : tS C W (fun τ M => (f τ M).st τ fun s M1 => forLoop s.live s.xs.length t bf 0 s.xs τ M1) Z σ H) : tFor (tIt C W f) (gT C t) (tS C W bf) Z σ H := by
  obtain ⟨ρ, τ, M, hc, hs, hw⟩ := h
  refine ⟨ρ, τ, M, hc, hs, sat_mono (st_sat hs hw) (fun s M1 hq ρ1 H1 J st1 c1 wk => ?_) fun _ _ _ x => x⟩
  refine ⟨fun i m σ' H' => m = s.xs.length - i ∧ i ≤ s.xs.length ∧ ∃ ρ' τ' M', Step ρ1 H1 ρ' H' ∧ Conc C.K ρ' M' H' ∧ Slots C.K ρ' H' τ' σ' ∧ WhS C W ρ' H' Z (forLoop s.live s.xs.length t bf i (s.xs.drop i) τ' M'),
    ⟨s.xs.length, rfl, Nat.zero_le _, ρ1, τ, M1, Step.refl _ _, c1, hs.mono st1.mono, WhS.step st1 hq⟩, ?_⟩
  rintro i m σ' H' ⟨rfl, hi, ρ', τ', M', st', c', s', hl⟩
  by_cases lt : i < s.xs.length
  · refine .inr ?_
    have ex : s.xs[i]? = some s.xs[i] := List.getElem?_eq_getElem lt
    rw [List.drop_eq_getElem_cons lt] at hl
    simp only [forLoop] at hl
    cases ep : pick s.live s.xs.length i s.xs[i] M' with
    | none => rw [ep] at hl; exact hl.elim
    | some d =>
      rw [ep] at hl
      simp only [Option.bind_some] at hl
      cases ea : asgT t d τ' with
      | none => rw [ea] at hl; exact hl.elim
      | some τ1 =>
        rw [ea] at hl
        simp only at hl
        obtain ⟨g1, g2⟩ := wk.go i ρ' M' H' d _ st' c' ex ep
        refine ⟨g1, fun σ2 H2 => ∃ m', m' < s.xs.length - i ∧ m' = s.xs.length - (i + 1) ∧ i + 1 ≤ s.xs.length ∧ ∃ ρ' τ' M', Step ρ1 H1 ρ' H2 ∧ Conc C.K ρ' M' H2 ∧ Slots C.K ρ' H2 τ' σ2 ∧ WhS C W ρ' H2 Z (forLoop s.live s.xs.length t bf (i + 1) (s.xs.drop (i + 1)) τ' M'), fun σ2 H2 hN => hN, fun v H2 hy => ?_⟩
        obtain ⟨st2, c2, rd⟩ := g2 v H2 hy
        refine ⟨ρ', τ', M', d, τ1, c2, s'.mono st2.mono, rd, ea, fun σ2 hs2 _ => ⟨ρ', τ1, M', c2, hs2, ?_⟩⟩
        have hl2 := WhS.step st2 hl
        have fwd : ∀ τ2 M2 ρ3 H3 σ3, WhS C W ρ' H2 Z (forLoop s.live s.xs.length t bf (i + 1) (s.xs.drop (i + 1)) τ2 M2) → Step ρ' H2 ρ3 H3 → Conc C.K ρ3 M2 H3 → Slots C.K ρ3 H3 τ2 σ3 →
            ∃ m', m' < s.xs.length - i ∧ m' = s.xs.length - (i + 1) ∧ i + 1 ≤ s.xs.length ∧ ∃ ρ' τ' M', Step ρ1 H1 ρ' H3 ∧ Conc C.K ρ' M' H3 ∧ Slots C.K ρ' H3 τ' σ3 ∧ WhS C W ρ' H3 Z (forLoop s.live s.xs.length t bf (i + 1) (s.xs.drop (i + 1)) τ' M') :=
          fun τ2 M2 ρ3 H3 σ3 hh st3 c3 s3 => ⟨_, Nat.sub_lt_sub_left lt (Nat.lt_succ_self i), rfl, lt, ρ3, τ2, M2, (st'.trans st2).trans st3, c3, s3, WhS.step st3 hh⟩
        cases hb : bf τ1 M' with
        | nx τ2 M2 => rw [hb] at hl2; exact fun ρ3 H3 σ3 st3 c3 s3 => fwd _ _ _ _ _ hl2 st3 c3 s3
        | ct τ2 M2 => rw [hb] at hl2; exact fun ρ3 H3 σ3 st3 c3 s3 => fwd _ _ _ _ _ hl2 st3 c3 s3
        | bk τ2 M2 => rw [hb] at hl2; exact hl2
        | rt d M2 => rw [hb] at hl2; exact hl2
        | ex cl fs τ2 M2 => rw [hb] at hl2; exact hl2
        | no => rw [hb] at hl2; exact hl2
  · have e : i = s.xs.length := by omega
    subst e
    rw [List.drop_length] at hl
    simp only [forLoop] at hl
    split at hl
    · rename_i he
      exact .inl ⟨wk.stop ρ' M' H' st' c' he, hl ρ' H' σ' (Step.refl _ _) c' s'⟩
    · exact hl.elim
end
theorem setIx_ok {C : Ct} {W : WX} {H0 : Hp} {ρ : Rho} {M M' : Store} {H : Hp} {q1 q2 : Q} {d : D} {v w u : V} {P : Hp → Prop} (hc : Conc C.K ρ M H) (r1 : RelQ C.K H0 ρ H q1 v) (r2 : RelQ C.K H0 ρ H q2 w) (r3 : RelD C.K ρ H d u) (e : setIxQ q1 q2 d M = some M')
    (hP : ∀ H', Step ρ H ρ H' → Conc C.K ρ M' H' → P H') : rSetL v w u H P := by
  unfold setIxQ at e
  split at e
  · rename_i n k
    cases hm : M[n]? with
    | none => rw [hm] at e; cases e
    | some o =>
      cases o with
      | lst xs =>
        rw [hm] at e
        dsimp only at e
        cases hj : ixNat xs.length k with
        | none => rw [hj] at e; cases e
        | some j =>
          rw [hj] at e
          cases e
          obtain ⟨a, vs, rfl, hn, ha, ra⟩ := ref_ok hc r1 hm
          exact ⟨a, vs, k, j, rfl, r2, ha, by rw [ixNat_eq, ← ra.length]; exact hj, hP _ (Step.wr hn ha) (hc.wr hm hn ha (ra.set r3 j))⟩
  · cases e
/-- name = an expression that is stored plainly -/
theorem ps_set' {X : Cx} {i : Nat} {x : Str} {e : Expr} {te : TE} {p pos : Pos} (hN : X.N.Nodup) (hi : X.N[i]? = some x) (hx : L2.Loc X.env.scope x) (he : PE X e te) (hs : swapsWith e (some (.Name x p)) pos.line X.env = pure false) (hf : X.fn x = true ∨ X.env.scope.names.lookup x = some .local) :
    PS X (.Assign [.Name x p] e pos) (tAsg te (gName i)) := ps_set hN hi hx he hs hf
mutual
theorem soundStmt : ∀ (s : S) {c : Cfg} {C : Ct} {W : WX} {G : Gam} {X : Cx} {s' : Stmt}, Sok c C W G X → chkS c s s' = true → PS X s' (tS C W (run G s))
  | .expr e, c, C, W, G, X, s', k, h => by
    cases s' with
    | Expr e' p =>
      simp only [chkS, Bool.and_eq_true, Bool.not_eq_true'] at h
      obtain ⟨h1, h2⟩ := h
      refine PS.imp (ps_expr (sound e k.toCok h2).pe (swap_plain (chk_plain h2) h1 _ _ _)) fun Z σ H ⟨ρ, τ, M, hc, hs, hw⟩ => ?_
      simp only [run] at hw
      exact tQ_st hc hs hw fun q M1 ρ1 H1 v st1 c1 s1 r1 h1 => h1 ρ1 H1 σ (Step.refl _ _) c1 s1
    | _ => exact Bool.noConfusion h
  | .ret e, c, C, W, G, X, s', k, h => by
    cases s' with
    | Return e' p =>
      cases e' with
      | none => exact Bool.noConfusion h
      | some e' =>
        refine PS.imp (ps_ret (sound e k.toCok (show chk c e e' = true from h)).pe) fun Z σ H ⟨ρ, τ, M, hc, hs, hw⟩ => ?_
        simp only [run] at hw
        exact tD_st hc hs hw fun d M1 ρ1 H1 v st1 c1 s1 r1 h1 => h1 ρ1 H1 v (Step.refl _ _) c1 r1
    | _ => exact Bool.noConfusion h
  | .retN, c, C, W, G, X, s', k, h => by
    cases s' with
    | Return e' p =>
      cases e' with
      | none =>
        refine PS.imp ps_retN fun Z σ H ⟨ρ, τ, M, hc, hs, hw⟩ => ?_
        simp only [run] at hw
        exact hw ρ H .non (Step.refl _ _) hc rfl
      | some e' => exact Bool.noConfusion h
    | _ => exact Bool.noConfusion h
  | .pass, c, C, W, G, X, s', k, h => by
    cases s' with
    | Pass p =>
      refine PS.imp ps_pass fun Z σ H ⟨ρ, τ, M, hc, hs, hw⟩ => ?_
      simp only [run] at hw
      exact hw ρ H σ (Step.refl _ _) hc hs
    | _ => exact Bool.noConfusion h
  | .brk, c, C, W, G, X, s', k, h => by
    cases s' with
    | Break p =>
      refine PS.imp ps_break fun Z σ H ⟨ρ, τ, M, hc, hs, hw⟩ => ?_
      simp only [run] at hw
      exact hw ρ H σ (Step.refl _ _) hc hs
    | _ => exact Bool.noConfusion h
  | .cont, c, C, W, G, X, s', k, h => by
    cases s' with
    | Continue p =>
      refine PS.imp ps_continue fun Z σ H ⟨ρ, τ, M, hc, hs, hw⟩ => ?_
      simp only [run] at hw
      exact hw ρ H σ (Step.refl _ _) hc hs
    | _ => exact Bool.noConfusion h
  | .set i e, c, C, W, G, X, s', k, h => by
    cases s' with
    | Assign ts e' sp =>
      match ts, h with
      | [.Name x p], h =>
        simp only [chkS, Bool.and_eq_true] at h
        obtain ⟨⟨h1, h2⟩, h3⟩ := h
        obtain ⟨a1, a2, a3⟩ := k.toCok.loc h1
        have fin : ∀ Z σ H, tS C W (run G (.set i e)) Z σ H → tAsg (tQ C W (evq G e)) (gName i) Z σ H := fun Z σ H ⟨ρ, τ, M, hc, hs, hw⟩ => by
          simp only [run] at hw
          exact tD_st hc hs hw fun d M1 ρ1 H1 v st1 c1 s1 r1 h1 => h1 ρ1 H1 _ (Step.refl _ _) c1 (s1.set i r1)
        by_cases hsw : swB c e' x p = true
        · cases e' with
          | ListComp elt' gs scope q =>
            cases e with
            | lc elt tg it cond own =>
              match gs, h2 with
              | [⟨tg', it', ifs, as⟩], h2 =>
                simp only [chk, Bool.and_eq_true, beq_iff_eq] at h2
                obtain ⟨⟨⟨⟨⟨⟨has, hown⟩, hblk⟩, hi⟩, ht⟩, hcd⟩, he⟩ := h2
                have e0 : as = 0 := has
                subst e0
                have ok := blkOk_by hblk
                rw [← k.N, ← k.sc] at ok
                simp only [swB, Bool.and_eq_true, beq_iff_eq, Bool.not_eq_true'] at hsw
                obtain ⟨⟨w1, w2⟩, w3⟩ := hsw
                have hy : X.env.scope.names.lookup x = some .local := by rw [k.sc]; exact w1
                have base := ps_setLc (spos := sp) k.calm k.nd a1 hy (sw_true k.kind hy (by rw [w2]; exact beq_self_eq_true _) w3) (soundI it k.toCok hi) ok (fun s H a cl fp => tg_ok (k.toCok.blk scope s H a cl fp) tg tg' ht) (fun s H a cl fp => soundC cond (k.toCok.blk scope s H a cl fp) hcd)
                  (fun s H a cl fp => (sound elt (k.toCok.blk scope s H a cl fp) he).pe) (fun x => fold_plain (chki_plain hi) _ x) (pos := q)
                rw [own_map] at base
                refine PS.imp base fun Z σ H hq => ?_
                have hq2 := fin Z σ H hq
                unfold tAsg at hq2
                simp only [evq] at hq2
                exact lc_ok hown hq2
            | _ => exact Bool.noConfusion h2
          | DictComp key val gs scope q => cases e <;> exact Bool.noConfusion h2
          | _ => exact Bool.noConfusion hsw
        · exact PS.imp (ps_set' k.nd a1 a2 (sound e k.toCok h2).pe (swap_name (chk_plain h2) k.sc (by simpa using hsw)) a3) fin
    | _ => exact Bool.noConfusion h
  | .asg t e, c, C, W, G, X, s', k, h => by
    cases s' with
    | Assign ts e' sp =>
      match ts, h with
      | [.Tuple es kk p], h =>
        simp only [chkS, Bool.and_eq_true, Bool.not_eq_true'] at h
        obtain ⟨⟨⟨h1, h2⟩, h3⟩, h4⟩ := h
        refine PS.imp (ps_asg (sound e k.toCok h2).pe (tg_ok k.toCok t _ h1) (sole_plain (chk_plain h2) h3 _ _ _) (stores_plain h4) rfl) fun Z σ H ⟨ρ, τ, M, hc, hs, hw⟩ => ?_
        simp only [run] at hw
        refine tD_st hc hs hw fun d M1 ρ1 H1 v st1 c1 s1 r1 h1 => ?_
        cases ea : asgT t d τ with
        | none => rw [ea] at h1; exact h1.elim
        | some τ1 =>
          rw [ea] at h1
          exact ⟨ρ1, τ, M1, d, τ1, c1, s1, r1, ea, fun σ' hs' _ => h1 ρ1 H1 σ' (Step.refl _ _) c1 hs'⟩
    | _ => exact Bool.noConfusion h
  | .par i j a b, c, C, W, G, X, s', k, h => Bool.noConfusion (show false = true from by cases s' <;> exact h)
  | .setIx o i e, c, C, W, G, X, s', k, h => by
    cases s' with
    | Assign ts e' sp =>
      match ts, h with
      | [.Subscript o' i' p], h =>
        simp only [chkS, Bool.and_eq_true, Bool.not_eq_true'] at h
        obtain ⟨⟨⟨h1, h2⟩, h3⟩, h4⟩ := h
        refine PS.imp (ps_asg (sound e k.toCok h3).pe (pg_sub (sound o k.toCok h1).pe (sound i k.toCok h2).pe set_list (assign_sub fun x y z p e => by subst e; exact chk_slice h2)) (sole_plain (chk_plain h3) h4 _ _ _) stores_sub rfl) fun Z σ H ⟨ρ, τ, M, hc, hs, hw⟩ => ?_
        simp only [run] at hw
        refine tD_st hc hs hw fun d M1 ρ1 H1 u st1 c1 s1 r1 h1 => tQ_st c1 s1 h1 fun q1 M2 ρ2 H2 v st2 c2 s2 r2 h2 => tQ_st c2 s2 h2 fun q2 M3 ρ3 H3 w st3 c3 s3 r3 h3 => ?_
        cases e : setIxQ q1 q2 d M3 with
        | none => rw [e] at h3; exact h3.elim
        | some M4 =>
          rw [e] at h3
          exact setIx_ok (W := W) c3 (r2.step st3) (r3.back st2) (RelD.mono (st2.trans st3).mono _ _ r1) e fun H' st' c' => h3 ρ3 H' σ st' c' (s3.mono st'.mono)
    | _ => exact Bool.noConfusion h
  | .dset d kx e, c, C, W, G, X, s', k, h => by
    cases s' with
    | Assign ts e' sp =>
      match ts, h with
      | [.Subscript d' k' p], h =>
        simp only [chkS, Bool.and_eq_true, Bool.not_eq_true'] at h
        obtain ⟨⟨⟨h1, h2⟩, h3⟩, h4⟩ := h
        refine PS.imp (ps_dput (by have := k.toCok.units; omega) (sound d k.toCok h1).pe (sound kx k.toCok h2).pe (sound e k.toCok h3).pe (swap_plain (chk_plain h3) h4 _ _ _)) fun Z σ H ⟨ρ, τ, M, hc, hs, hw⟩ => ?_
        simp only [run] at hw
        refine tD_st hc hs hw fun d M1 ρ1 H1 u st1 c1 s1 r1 h1 => tQ_st c1 s1 h1 fun q1 M2 ρ2 H2 v st2 c2 s2 r2 h2 => tQ_st c2 s2 h2 fun q2 M3 ρ3 H3 w st3 c3 s3 r3 h3 => ?_
        cases e : dsetQ q1 q2 d M3 with
        | none => rw [e] at h3; exact h3.elim
        | some M4 =>
          rw [e] at h3
          exact dset_ok c3 (r2.step st3) r3 (RelD.mono (st2.trans st3).mono _ _ r1) e fun H' st' c' => h3 ρ3 H' σ st' c' (s3.mono st'.mono)
    | _ => exact Bool.noConfusion h
  | .aug i op e, c, C, W, G, X, s', k, h => by
    cases s' with
    | AugAssign tg op' e' p =>
      cases tg with
      | Name x px =>
        simp only [chkS, Bool.and_eq_true, Bool.or_eq_true, beq_iff_eq] at h
        obtain ⟨⟨⟨h1, rfl⟩, h2⟩, h3⟩ := h
        obtain ⟨a1, a2, a3⟩ := k.toCok.loc h1
        have key : ∀ (ti : TIp), (∀ x y H P, (∃ i j, x = V.int i ∧ y = V.int j ∧ P (.int (if op = .Add then i + j else i - j)) H) → ti x y H P) → ∀ Z σ H, tS C W (run G (.aug i op e)) Z σ H → tAug i (tQ C W (evq G e)) ti Z σ H := fun ti hti Z σ H ⟨ρ, τ, M, hc, hs, hw⟩ => by
          simp only [run] at hw
          cases ht : τ[i]? with
          | none => rw [ht] at hw; exact hw.elim
          | some o =>
            cases o with
            | none => rw [ht] at hw; exact hw.elim
            | some d =>
              rw [ht] at hw
              obtain ⟨v, e1, r⟩ := hs.2 i d ht
              refine ⟨v, e1, tQ_st hc hs hw fun q M1 ρ1 H1 w st1 c1 s1 r1 h1 => hti _ _ _ _ ?_⟩
              cases d with
              | int n =>
                cases q with
                | tmp xs => exact h1.elim
                | v d2 =>
                  cases d2 with
                  | int m =>
                    rcases h2 with rfl | rfl
                    · exact ⟨n, m, r, r1, h1 ρ1 H1 _ (Step.refl _ _) c1 (s1.set i (d := .int (n + m)) rfl)⟩
                    · exact ⟨n, m, r, r1, h1 ρ1 H1 _ (Step.refl _ _) c1 (s1.set i (d := .int (n - m)) rfl)⟩
                  | _ => exact h1.elim
              | _ => exact h1.elim
        rcases h2 with rfl | rfl
        · exact PS.imp (ps_aug k.nd a1 a2 (sound e k.toCok h3).pe ip_add a3) (key _ fun x y H P ⟨i, j, e1, e2, q⟩ => ⟨i, j, e1, e2, q⟩)
        · exact PS.imp (ps_aug k.nd a1 a2 (sound e k.toCok h3).pe ip_sub a3) (key _ fun x y H P ⟨i, j, e1, e2, q⟩ => ⟨i, j, e1, e2, q⟩)
      | _ => exact Bool.noConfusion h
    | _ => exact Bool.noConfusion h
  | .ife e a b, c, C, W, G, X, s', k, h => by
    cases s' with
    | If e' a' b' p =>
      simp only [chkS, Bool.and_eq_true] at h
      obtain ⟨⟨h1, h2⟩, h3⟩ := h
      refine PS.imp (ps_if (sound e k.toCok h1).pt (soundStmts a k h2) (soundStmts b k h3)) fun Z σ H ⟨ρ, τ, M, hc, hs, hw⟩ => ?_
      simp only [run] at hw
      refine tT_st hc hs hw fun t M1 ρ1 H1 st1 c1 s1 h1 => ?_
      cases t with
      | true => exact iteT ⟨ρ1, τ, M1, c1, s1, h1⟩
      | false => exact iteF ⟨ρ1, τ, M1, c1, s1, h1⟩
    | _ => exact Bool.noConfusion h
  | .whl e b, c, C, W, G, X, s', k, h => by
    cases s' with
    | While e' b' o p =>
      match o, h with
      | [], h =>
        simp only [chkS, Bool.and_eq_true] at h
        obtain ⟨h1, h2⟩ := h
        refine PS.imp (ps_while k.pass (sound e k.toCok h1).pt (soundStmts b k h2)) fun Z σ H hq => ?_
        simp only [run] at hq
        exact whl_ok hq
    | _ => exact Bool.noConfusion h
  | .for_ t it b, c, C, W, G, X, s', k, h => by
    cases s' with
    | For t' it' b' o p =>
      match o, h with
      | [], h =>
        simp only [chkS, Bool.and_eq_true] at h
        obtain ⟨⟨h1, h2⟩, h3⟩ := h
        refine PS.imp (ps_for k.pass k.calm (soundI it k.toCok h2) (tg_ok k.toCok t t' h1) (soundStmts b k h3) (fun x => fold_plain (chki_plain h2) _ x)) fun Z σ H hq => ?_
        simp only [run] at hq
        exact for_ok hq
    | _ => exact Bool.noConfusion h
  | .rais x es, c, C, W, G, X, s', k, h => by
    cases s' with
    | Raise e' f' p =>
      match e', f', h with
      | some (.Call (.Name y py) (a' :: es') [] pc), none, h =>
        simp only [chkS, Bool.and_eq_true, beq_iff_eq] at h
        obtain ⟨⟨⟨h1, rfl⟩, h2⟩, h3⟩ := h
        have hx : x ∈ c.xcs := List.contains_iff_mem.mp h1
        obtain ⟨fI, T⟩ := k.xf.own x hx
        have T' : PySem.TX.Ini X.prog X.K (xad C.K x) fI (x.fds.map Fd.str) := by rw [k.K]; exact T
        have pl := chks_plain h3
        have mk := pmk_E (x := x.str) (p := py) (pos := pc) (a := a') (es := es') T' (k.xf.glb x (k.xf.inn x hx)) (by rw [k.K]; exact k.xf.keep x hx) (by rw [k.K]; exact k.xf.exC x hx) (by rw [k.K]; exact k.xf.tyC x hx) k.room (Nat.le_refl 1) (soundS es k.toCok h3) (k.toCok.gl h2) (xstr_dbg x) (star_plain (pl _ List.mem_cons_self) _ _) (back_plain _ _ fun y hy => pl y (List.mem_cons_of_mem _ hy))
        refine PS.imp (ps_raise k.calm k.tk mk) fun Z σ H ⟨ρ, τ, M, hc, hs, hw⟩ => ?_
        simp only [run] at hw
        refine ⟨ρ, τ, M, hc, hs, sat_mono (st_sat hs hw) (fun ds M1 hq ρ1 H1 vs st1 c1 r1 hl => ?_) fun _ _ _ x => x⟩
        split at hq
        · rename_i hlen
          refine ⟨by rw [← r1.length, hlen, List.length_map], fun dd hd => ?_⟩
          refine hq ρ1 _ σ _ _ (st1.trans (Step.laid hd)) (c1.laid hd) (hs.mono (st1.trans (Step.laid hd)).mono) ?_
          rw [k.xr]
          exact ⟨hx, hlen, rfl, dd, vs, rfl, upd_same, c1.notin hd, RelDs.mono (Step.laid hd).mono _ _ r1⟩
        · exact hq.elim
    | _ => exact Bool.noConfusion h
  | .tryX b hs, c, C, W, G, X, s', k, h => by
    cases s' with
    | Try b' hs' o f p =>
      match hs', o, f, h with
      | h' :: hs', [], [], h =>
        obtain ⟨h1, h2⟩ := Bool.and_eq_true_iff.mp (show (chkSs c b b' && chkHs c hs (h' :: hs')) = true from h)
        obtain ⟨c1, c2⟩ := cl_ok k h2
        refine PS.imp (ps_try_g (tb := fun W' => tS C W' (runs G b)) k.stk k.frm k.nd k.tk (fun W' pn xe tk ps => soundStmts b (k.tr tk ps) h1) c1) fun Z σ H ⟨ρ, τ, M, hc, hsl, hw⟩ => ?_
        simp only [run] at hw
        refine ⟨ρ, τ, M, hc, hsl, ?_⟩
        rw [k.K]
        cases e : runs G b τ M with
        | nx τ2 M2 => rw [e] at hw; exact hw
        | ct τ2 M2 => rw [e] at hw; exact hw
        | bk τ2 M2 => rw [e] at hw; exact hw
        | rt d M2 => rw [e] at hw; exact hw
        | ex cl fs τ2 M2 =>
          rw [e] at hw
          exact fun ρ2 H2 σ2 cls d st2 cc2 ss2 xx => wall_ok k.xf k.xr cc2 ss2 xx c2 (WhS.step st2 hw)
        | no => rw [e] at hw; exact hw.elim
    | _ => exact Bool.noConfusion h
theorem soundStmts : ∀ (l : List S) {c : Cfg} {C : Ct} {W : WX} {G : Gam} {X : Cx} {l' : List Stmt}, Sok c C W G X → chkSs c l l' = true → PSs X l' (tS C W (runs G l))
  | [], c, C, W, G, X, l', k, h => by
    cases l' with
    | nil =>
      refine PSs.imp pss_nil fun Z σ H ⟨ρ, τ, M, hc, hs, hw⟩ => ?_
      simp only [runs] at hw
      exact hw ρ H σ (Step.refl _ _) hc hs
    | cons x r => exact Bool.noConfusion h
  | s :: r, c, C, W, G, X, l', k, h => by
    cases l' with
    | nil => exact Bool.noConfusion h
    | cons s' r' =>
      simp only [chkSs, Bool.and_eq_true] at h
      obtain ⟨h1, h2⟩ := h
      refine PSs.imp (pss_cons (soundStmt s k h1) (soundStmts r k h2)) fun Z σ H ⟨ρ, τ, M, hc, hs, hw⟩ => ?_
      simp only [runs] at hw
      refine ⟨ρ, τ, M, hc, hs, ?_⟩
      cases e : run G s τ M with
      | nx τ2 M2 => rw [e] at hw; exact fun ρ1 H1 σ1 st1 c1 s1 => ⟨ρ1, τ2, M2, c1, s1, WhS.step st1 hw⟩
      | ct τ2 M2 => rw [e] at hw; exact hw
      | bk τ2 M2 => rw [e] at hw; exact hw
      | rt d M2 => rw [e] at hw; exact hw
      | ex cl fs τ2 M2 => rw [e] at hw; exact hw
      | no => rw [e] at hw; exact hw
end
end Tri

set_option Elab.async false
set_option linter.all false
set_option maxRecDepth 100000
namespace Tri
open PySem PySem.Spec PyProof.Rows L2 RZ

/-- a def of the text: its name, parameters, local names by slot, statement, and what it is as a tree -/
structure DefI where
  name : Str
  ps : List Str
  N : List Str
  st : Stmt
  body : List S
  kw : List KwSig := []
def sig (d : DefI) : Str × List Str := (d.name, d.ps)
structure DefI.Ok (free : List Str) (cons : List (Str × Int)) (prev : List DefI) (d : DefI) (xcs xall : List Xc) : Prop where
  sc : FnScope d.N d.ps (defScope d.st)
  chk : chkSs ⟨d.N, defScope d.st, free, prev.map sig, cons, prev.map (·.kw), none, xcs, xall⟩ d.body (defBody d.st) = true
  bind : ∀ (kV doc pm : Value) (an : Option Addr) (cdv ct : Value) (us : List Value), us.length = d.ps.length → bindArgs (PySem.W.fnOf d.name d.name (defArgs d.st) (defBody d.st) (defScope d.st) .none kV doc pm an cdv ct) ⟨us, []⟩ = pure (d.ps.zip us)
  bindk : ∀ n ks perm, (n, ks, perm) ∈ d.kw → ∀ (kV doc pm : Value) (an : Option Addr) (cdv ct : Value) (us ws : List Value), us.length = n → ws.length = ks.length → bindArgs (PySem.W.fnOf d.name d.name (defArgs d.st) (defBody d.st) (defScope d.st) .none kV doc pm an cdv ct) ⟨us, ks.zip ws⟩ = pure (d.ps.zip (permD perm (us ++ ws)))
/-- the defs of a text, each over those ahead of it, and what they give -/
inductive Tow (free : List Str) (cons : List (Str × Int)) (xcs xall : List Xc) : List DefI → Gam → Prop
  | nil : Tow free cons xcs xall [] []
  | snoc {ds : List DefI} {G : Gam} {d : DefI} : Tow free cons xcs xall ds G → d.Ok free cons ds xcs xall → Tow free cons xcs xall (ds ++ [d]) (G ++ [fnR G d.N.length d.body])
theorem Tow.length {free : List Str} {cons : List (Str × Int)} {xcs xall : List Xc} {ds : List DefI} {G : Gam} (t : Tow free cons xcs xall ds G) : G.length = ds.length := by
  induction t with
  | nil => rfl
  | snoc _ _ ih => rw [List.length_append, List.length_append, ih]; rfl
section
variable {P : Program} {w : World} {K : PySem.W.Frag} {mg : Str → Option Value} {base : Heap} {C : Ct}
theorem fn_sound {free : List Str} {cons : List (Str × Int)} {xcs xall : List Xc} {prev : List DefI} {d : DefI} {G : Gam} {f : Addr} {fd : FuncData} {k : Nat} (hK : K = C.K) (hk1 : 1 ≤ k) (xf : Xf P C.K mg xcs xall) (hxr : C.xr = xrOf C.K xcs) (o : d.Ok free cons prev xcs xall) (F : FunD K d.name d.name (defArgs d.st) (defBody d.st) (defScope d.st) [] [] f fd)
    (hfree : ∀ x, x ∈ free → mg x = none) (hcons : ∀ x i, (x, i) ∈ cons → ∃ t, mg x = some (.int i t))
    (hfns : ∀ (f : Nat) x ps, (prev.map sig)[f]? = some (x, ps) → ∃ g a fd, G[f]? = some g ∧ mg x = some (.ref a) ∧ PySem.W.keepIn K (.ref a) = true ∧ Binds K fd ps [] ∧ (∀ l n ks perm, (prev.map (·.kw))[f]? = some l → (n, ks, perm) ∈ l → KwB K fd ps n ks perm) ∧ FnOk P w K mg base (L2.CX P w) k a fd ps (spOf C ps.length g)) :
    FnOk P w K mg base (L2.CX P w) (k + 1) f fd d.ps (spOf C d.ps.length (fnR G d.N.length d.body)) := by
  refine FunD.ok F o.sc (fun vs H Q E h => ?_) (fun cdv A outer s H vs Q E hr h => ?_)
  · obtain ⟨ρ, M, ds, _, r, hl, _⟩ := h
    rw [← r.length, hl]
  · obtain ⟨ρ, M, ds, c, r, hl, h⟩ := h
    have ok : Sok ⟨d.N, defScope d.st, free, prev.map sig, cons, prev.map (·.kw), none, xcs, xall⟩ C (fun cls d _ H => E cls d H) G (cxOf (L2.CX P w) P w K mg base d.N d.name (defScope d.st) f cdv A outer s H E) :=
      { N := rfl, nd := o.sc.nd, sc := rfl, K := hK, calm := rfl, fn := fun _ _ => rfl, free := hfree, cons := hcons,
        fns := fun i x ps e => by
          obtain ⟨g, a, fd, h1, h2, h3, h4, h5, h6⟩ := hfns i x ps e
          exact ⟨g, a, fd, k, h1, h2, h3, h4, h5, h6, hr⟩
        tk := takes_of rfl rfl rfl rfl, units := hr.units, pass := passes_of rfl, kind := o.sc.kind, xf := xf, xr := hxr, stk := rfl, frm := rfl, room := hr.mono hk1 }
    refine ⟨_, soundStmts d.body ok o.chk, ρ, ds.map some ++ List.replicate (d.N.length - ds.length) none, M, c, ⟨?_, fun i x e => ?_⟩, ?_⟩
    · unfold L2.start
      rw [List.length_append, List.length_append, List.length_map, List.length_map, List.length_replicate, List.length_replicate, r.length]
    · unfold L2.start
      by_cases lt : i < ds.length
      · rw [List.getElem?_append_left (by rw [List.length_map]; exact lt), List.getElem?_map] at e
        rw [List.getElem?_append_left (by rw [List.length_map, ← r.length]; exact lt), List.getElem?_map]
        cases hx : ds[i]? with
        | none => rw [hx] at e; cases e
        | some y =>
          rw [hx] at e
          obtain ⟨v, e1, r1⟩ := r.get hx
          cases e
          exact ⟨v, by rw [e1]; rfl, r1⟩
      · rw [List.getElem?_append_right (by rw [List.length_map]; omega)] at e
        have := List.mem_of_getElem? e
        rw [List.mem_replicate] at this
        exact absurd this.2 (by simp)
    · unfold fnR at h
      cases hb : runs G d.body (ds.map some ++ List.replicate (d.N.length - ds.length) none) M with
      | nx τ M1 => rw [hb] at h; exact fun ρ' H' σ' st c' _ => h ρ' H' .non st c' rfl
      | rt x M1 => rw [hb] at h; exact fun ρ' H' v st c' r' => h ρ' H' v st c' r'
      | ex cl fs τ M1 => rw [hb] at h; exact fun ρ' H' σ' cls dd st c' _ x => h ρ' H' cls dd st c' x
      | bk τ M1 => rw [hb] at h; exact h.elim
      | ct τ M1 => rw [hb] at h; exact h.elim
      | no => rw [hb] at h; exact h.elim
theorem kwb_of {x qual : Str} {params : Arguments} {body : List Stmt} {scope : Scope} {f : Addr} {fd : FuncData} {ps : List Str} {n : Nat} {ks : List Str} {perm : List Nat} (F : FunD K x qual params body scope [] [] f fd)
    (h : ∀ (kV doc pm : Value) (an : Option Addr) (cdv ct : Value) (us ws : List Value), us.length = n → ws.length = ks.length → bindArgs (PySem.W.fnOf x qual params body scope .none kV doc pm an cdv ct) ⟨us, ks.zip ws⟩ = pure (ps.zip (permD perm (us ++ ws)))) : KwB K fd ps n ks perm := by
  obtain ⟨oc, od, dV, kV, doc, pm, an, cdv, ct, osl, rfl, lk, hcd, hD, hK⟩ := F.ex
  rcases hD with ⟨_, rfl⟩ | ⟨e, _⟩
  · exact fun s us ws _ h1 h2 => .of_eq (h kV doc pm an cdv ct us ws h1 h2)
  · exact absurd rfl e
/-- each def of the tower keeps its promise -/
theorem Tow.ok {free : List Str} {cons : List (Str × Int)} {xcs xall : List Xc} {ds : List DefI} {G : Gam} (hK : K = C.K) (xf : Xf P C.K mg xcs xall) (hxr : C.xr = xrOf C.K xcs) (t : Tow free cons xcs xall ds G) (hfree : ∀ x, x ∈ free → mg x = none) (hcons : ∀ x i, (x, i) ∈ cons → ∃ t, mg x = some (.int i t))
    (hdef : ∀ d, d ∈ ds → ∃ f fd, FunD K d.name d.name (defArgs d.st) (defBody d.st) (defScope d.st) [] [] f fd ∧ mg d.name = some (.ref f)) :
    ∀ (i : Nat) d, ds[i]? = some d → ∃ g a fd, G[i]? = some g ∧ mg d.name = some (.ref a) ∧ PySem.W.keepIn K (.ref a) = true ∧ Binds K fd d.ps [] ∧ (∀ n ks perm, (n, ks, perm) ∈ d.kw → KwB K fd d.ps n ks perm) ∧ (∀ base : Heap, FnOk P w K mg base (L2.CX P w) (ds.length + 1) a fd d.ps (spOf C d.ps.length g)) ∧
      FunD K d.name d.name (defArgs d.st) (defBody d.st) (defScope d.st) [] [] a fd := by
  induction t with
  | nil => intro i d e; simp at e
  | snoc t o ih =>
    rename_i ds G d
    have ih := ih fun x hx => hdef x (List.mem_append_left _ hx)
    intro i x e
    by_cases lt : i < ds.length
    · rw [List.getElem?_append_left lt] at e
      obtain ⟨g, a, fd, h1, h2, h3, h4, hk, h5, h6⟩ := ih i x e
      refine ⟨g, a, fd, ?_, h2, h3, h4, hk, fun base => FnOk.mono (h5 base) (by rw [List.length_append]; omega), h6⟩
      rw [List.getElem?_append_left (by rw [t.length]; exact lt)]
      exact h1
    · have ei : i = ds.length := by
        have := (List.getElem?_eq_some_iff.mp e).1
        rw [List.length_append, List.length_singleton] at this
        omega
      subst ei
      rw [List.getElem?_append_right (Nat.le_refl _), Nat.sub_self] at e
      cases Option.some.inj e
      obtain ⟨f, fd, F, hm⟩ := hdef d (List.mem_append_right _ (List.mem_singleton.mpr rfl))
      refine ⟨fnR G d.N.length d.body, f, fd, ?_, hm, F.kp, F.bindsN o.bind, fun n ks perm hk => kwb_of F (o.bindk n ks perm hk), ?_, F⟩
      · rw [List.getElem?_append_right (by rw [t.length]; exact Nat.le_refl _), t.length, Nat.sub_self]
        rfl
      · intro base
        rw [List.length_append, List.length_singleton]
        refine fn_sound hK (Nat.succ_le_succ (Nat.zero_le _)) xf hxr o F hfree hcons fun j y ps ej => ?_
        rw [List.getElem?_map] at ej
        cases hx : ds[j]? with
        | none => rw [hx] at ej; cases ej
        | some z =>
          rw [hx] at ej
          cases ej
          obtain ⟨g, a, fd, h1, h2, h3, h4, hk, h5, _⟩ := ih j z hx
          refine ⟨g, a, fd, h1, h2, h3, h4, fun l n ks perm el hm => ?_, h5 base⟩
          rw [List.getElem?_map, hx] at el
          cases Option.some.inj el
          exact hk n ks perm hm
end
/-- the script as a tree -/
def scriptD (ns : List Int) : D := .fzl (ns.map .int)
/-- what the law's def is to give -/
def LawOk (g : List D → Store → R D) : Prop := ∀ ns : List Int, ns.length ≤ 63 → ∃ M, g [scriptD ns] [] = .ok (.bl true) M
theorem law_sp {C : Ct} {g : List D → Store → R D} (h : LawOk g) {H : Hp} {a : Addr} {ns : List Int} (hl : ns.length ≤ 63) (hO : Only H) (hS : SqL C.K H a (ns.map V.int)) : spOf C 1 g [.ref a] H (fun v _ => v = .bl true) fun _ _ _ => False := by
  obtain ⟨M, e⟩ := h ns hl
  refine ⟨fun _ => none, [], [scriptD ns], ⟨fun n o e => by simp at e, (fun n a e => by cases e), (fun m n a e _ => by cases e)⟩, RelDs.one ⟨a, ns.map V.int, rfl, ?_, ints_rel ns⟩, rfl, ?_⟩
  · rcases hS with (hS | ⟨u, hS⟩) | hS
    · rcases hO a with z | ⟨o, xs, z⟩
      · rw [hS] at z; cases z
      · rw [hS] at z; cases z
    · exact .inl ⟨u, hS⟩
    · exact .inr fun H' => .inr hS
  · rw [e]
    exact fun ρ' H' v st c r => r
end Tri
namespace Tri
open PySem PySem.Spec PyProof.Rows L2 RZ
section
variable {K : PySem.W.Frag} {mg : Str → Option Value} {h : Heap}
theorem says_fact {fa : List He.Fa} {fn : List He.DefD} (c : He.SaysD fa fn K) {f : He.Fa} (hf : f ∈ fa) : f.ok K = true := by
  obtain ⟨i, hi, e⟩ := List.getElem_of_mem hf
  exact c.fact i (by rw [List.getElem?_eq_getElem hi, e])
theorem says_def {fa : List He.Fa} {fn : List He.DefD} (c : He.SaysD fa fn K) {d : He.DefD} (hd : d ∈ fn) : ∃ fd, FunD K d.name d.qual d.params d.body d.scope (d.dvs K) (d.kws K) (He.fAd K d.at_) fd := by
  obtain ⟨i, hi, e⟩ := List.getElem_of_mem hd
  exact c.def_ i (by rw [List.getElem?_eq_getElem hi, e])
def toD (d : DefI) : He.DefD := ⟨(d.name, none), d.name, d.name, defArgs d.st, defBody d.st, defScope d.st, [], []⟩
def factsOf (ds : List DefI) (free : List Str) (cons : List (Str × Int)) : List He.Fa := ds.map (fun d => He.Fa.glo d.name) ++ free.map He.Fa.free ++ cons.map (fun p => He.Fa.int p.1 p.2)
/-! ### the errors' classes -/
def Xc.qual : Xc → Str
  | .BadName => "BadName.__init__" | .BadFields => "BadFields.__init__" | .BadLadder => "BadLadder.__init__" | .BadReading => "BadReading.__init__" | .BadSight => "BadSight.__init__" | .BadStep => "BadStep.__init__" | .BadText => "BadText.__init__" | .BadCommand => "BadCommand.__init__"
  | .NoSuch => "NoSuch.__init__" | .Taken => "Taken.__init__" | _ => ""
/-- the __init__ within a class of the text -/
def iniOf : Stmt → Stmt
  | .ClassDef _ _ _ (st :: _) .. => st
  | s => s
def iad (K : PySem.W.Frag) (x : Xc) : Addr := He.ma K (xad K x) "__init__"
abbrev IniV : Type := Option (Str × Str × Arguments × FuncBody × Scope × Addr × List Str × Value × Addr)
def iniW (K : PySem.W.Frag) (x : Xc) : IniV := match K.lookup (iad K x) with
  | some ⟨_, _, .func fd, _⟩ => some (fd.name, fd.qualname, fd.params, fd.body, fd.scope, fd.globals, fd.closure.map (·.1), fd.defaults, fd.builtins)
  | _ => none
def iniX (p : Xc × Stmt) : IniV := some ("__init__", p.1.qual, defArgs p.2, .stmts (defBody p.2), defScope p.2, mainGlobals, ["__class__"], .none, builtinsNs)
def excB (K : PySem.W.Frag) (C : Addr) : Bool := match K.lookup C with
  | some ⟨.type t, _, .cls cd, sl⟩ => t == "type" && (match cd.mro, sl.toList with
    | .ref D :: bm, [_, _, _, _, some (.builtin n), _] => D == C && n == "ValueError.__new__" && !cd.hasDel && cd.hasDict && HandSPX.refsVE bm
    | _, _ => false)
  | _ => false
theorem excB_ok {K : PySem.W.Frag} {C : Addr} (h : excB K C = true) : ∃ nm q N bs bm sn sub ab col dd k0 k1 k2 k3 k5, K.lookup C = some (excClassObj nm q C N bs bm true sn sub ab col dd k0 k1 k2 k3 k5 "ValueError.__new__") ∧ HandSPX.refsVE bm = true := by
  unfold excB at h
  split at h
  · rename_i t dd cd sl ho
    simp only [Bool.and_eq_true, beq_iff_eq] at h
    obtain ⟨rfl, h⟩ := h
    split at h
    · rename_i D bm k0 k1 k2 k3 n k5 hm hsl
      simp only [Bool.and_eq_true, beq_iff_eq, Bool.not_eq_true'] at h
      obtain ⟨⟨⟨⟨rfl, rfl⟩, hdel⟩, hdct⟩, hr⟩ := h
      obtain ⟨nm, bs, mro, ns, qn, hd, sn, sub, ab, col, del⟩ := cd
      dsimp only at hm hdel hdct
      subst hm hdel hdct
      have es : sl = #[k0, k1, k2, k3, some (.builtin "ValueError.__new__"), k5] := by rw [← Array.toArray_toList (xs := sl), hsl]
      subst es
      exact ⟨nm, qn, ns, bs, bm, sn, sub, ab, col, dd, k0, k1, k2, k3, k5, ho, hr⟩
    · cases h
  · cases h
def iniB (P : Program) (K : PySem.W.Frag) (x : Xc) : Bool := match K.lookup (iad K x) with
  | some ⟨_, _, .func fd, _⟩ => PySem.W.codeIn K fd.code x.qual && (match fd.code with
    | .ref cda => (match K.lookup cda with
      | some ⟨_, _, .fields vs, _⟩ => (match vs[2]? with
        | some (Value.str f _) => (P.main.file : Str) == f
        | _ => false)
      | _ => false)
    | _ => false) && (match fd.closure with
    | [(_, cc)] => (match K.lookup cc with
      | some ⟨_, _, .cell (some (.ref D)), _⟩ => D == xad K x
      | _ => false)
    | _ => false)
  | _ => false
/-- all that is asked of a raised class -/
def oneB (P : Program) (K : PySem.W.Frag) (xall : List Xc) (x : Xc) : Bool :=
  excB K (xad K x) && (He.eqO (PySem.W.findIn K (.ref (xad K x)) "__setattr__") (some (some (.builtin "object.__setattr__"))) && (x.fds.all (fun f => He.eqO (PySem.W.findIn K (.ref (xad K x)) f.str) (some none)) && (He.eqO (PySem.W.ks_superIn K (xad K x) (xad K x) "__init__") (some (some TX.veI)) &&
  (He.eqO (PySem.W.findIn K (.ref (xad K x)) "__init__") (some (some (.ref (iad K x)))) && (decide (PySem.W.typeIn K (.ref (iad K x)) = some (.type "function")) && (PySem.W.keepIn K (.ref (xad K x)) && (decide (PySem.W.subIn K (.ref (xad K x)) (.type "BaseException") = some true) &&
  (decide (PySem.W.typeIn K (.ref (xad K x)) = some (.type "type")) && (PySem.W.hasDictIn K (xad K x) && ((PySem.W.clsIn K (xad K x)).isSome && (He.eqO (PySem.W.findIn K (.ref (xad K x)) "__getattribute__") (some (some (.builtin "BaseException.__getattribute__"))) &&
  (He.eqO (PySem.W.findIn K (.ref (xad K x)) "__getattr__") (some none) && (He.eqO (PySem.W.findIn K (.ref (xad K x)) "__class__") (some (some (.builtin "object.__class__"))) && (decide (PySem.W.mroIn K (xad K x) (.type "object") = some true) &&
  (He.eqO (PySem.W.specialIn K (.builtin "object.__class__") "__get__") (some (some (.builtin "getset_descriptor.__get__"))) && (decide (PySem.W.takesIn K (.builtin "object.__class__") = some true) && (xall.contains x && (xall.all (fun y => decide (PySem.W.exmOne K (.ref (xad K x)) (.ref (xad K y)) = some (x.isA y)) && decide (PySem.W.kitOne K (.ref (xad K x)) (.ref (xad K y)) = some (x.isA y))) &&
  (iniB P K x && (He.eqO (PySem.W.nsIn K cStatics "thirdparty.any") (some none) && (He.eqO (PySem.W.nsIn K mainGlobals "super") (some none) && !(P.main.scope.names.lookup ("super" : Str)).isSome)))))))))))))))))))))
def exB (P : Program) (K : PySem.W.Frag) (xcs xall : List Xc) : Bool := xcs.all (oneB P K xall) && xall.all fun y => He.eqO (PySem.W.nsIn K mainGlobals y.str) (some (some (.ref (xad K y))))
/-- the text of an __init__ -/
structure IniOk (x : Xc) (st : Stmt) : Prop where
  shape : TX.isInit (x.fds.map Fd.str) (defBody st) = true
  scope : TX.initScope (x.fds.map Fd.str) (defScope st) = true ∧ (defScope st).kind = .function ∧ (defScope st).isCoroutine = false ∧ (defScope st).isGenerator = false
  cells : ((defScope st).names.all fun p => p.2 != .cell) = true
  head : ((defArgs st).posonlyargs ++ (defArgs st).args).head?.map (·.arg) = some ("self" : Str)
  bind : ∀ (kV doc pm : Value) (an : Option Addr) (cdv ct : Value) (cc : Addr) (us : List Value), us.length = (x.fds.map Fd.str).length + 1 → bindArgs (PySem.W.ksFn "__init__" x.qual (defArgs st) (defBody st) (defScope st) .none kV doc pm an cdv ct cc) ⟨us, []⟩ = pure ((("self" : Str) :: x.fds.map Fd.str).zip us)
  own : x.fds ≠ []
inductive InisOk : List (Xc × Stmt) → Prop
  | nil : InisOk []
  | cons {x : Xc} {st : Stmt} {l : List (Xc × Stmt)} (h : IniOk x st) (r : InisOk l) : InisOk ((x, st) :: l)
theorem InisOk.get {l : List (Xc × Stmt)} (h : InisOk l) {p : Xc × Stmt} (hp : p ∈ l) : IniOk p.1 p.2 := by
  induction h with
  | nil => cases hp
  | cons h r ih =>
    rcases List.mem_cons.mp hp with rfl | hp
    · exact h
    · exact ih hp
abbrev AlY : Type := He.AlD × Bool × List IniV
def obY (P : Program) (fa : List He.Fa) (fn : List He.DefD) (xs : List (Xc × Stmt)) (xall : List Xc) (K : PySem.W.Frag) : AlY := (He.obsD fa fn K, exB P K (xs.map (·.1)) xall, xs.map fun p => iniW K p.1)
def valY (fn : List He.DefD) (xs : List (Xc × Stmt)) : AlY := (He.valD fn, true, xs.map iniX)
def SaysY (P : Program) (fa : List He.Fa) (fn : List He.DefD) (xs : List (Xc × Stmt)) (xall : List Xc) (K : PySem.W.Frag) : Prop := obY P fa fn xs xall K = valY fn xs
def obGY (n : Nat) (P : Program) (fa : List He.Fa) (fn : List He.DefD) (xs : List (Xc × Stmt)) (xall : List Xc) (g : Addr → Option Obj) : AlY := obY P fa fn xs xall (He.frG g (He.asD g n ++ [cStatics]))
def hookY (n : Nat) (P : Program) (fa : List He.Fa) (fn : List He.DefD) (xs : List (Xc × Stmt)) (xall : List Xc) : PySem.W.Hook :=
  { α := AlY, obs := fun s => obGY n P fa fn xs xall s.heap.get?, val := fun _ => valY fn xs, says := fun _ hh => ∃ K : PySem.W.Frag, K.In hh ∧ SaysY P fa fn xs xall K, of := fun _ _ e => ⟨_, He.frG_in, e⟩, keeps := fun _ _ _ ⟨K, h1, h2⟩ k => ⟨K, PySem.W.Frag.In.keeps h1 k, h2⟩ }
theorem obGY_eq {n : Nat} {P : Program} {fa : List He.Fa} {fn : List He.DefD} {xs : List (Xc × Stmt)} {xall : List Xc} {g : Addr → Option Obj} {s : Shared} (hg : ∀ a, g a = s.heap.get? a) : obGY n P fa fn xs xall g = (hookY n P fa fn xs xall).obs s := by
  rw [show g = s.heap.get? from funext hg] <;> rfl
theorem fds_nd (x : Xc) : (("self" : Str) :: x.fds.map Fd.str).Nodup := by cases x <;> decide +kernel
theorem fds_dbg (x : Xc) : ∀ f ∈ x.fds.map Fd.str, (f == ("__debug__" : Str)) = false := by cases x <;> decide +kernel
theorem fds_few (x : Xc) : (x.fds.map Fd.str).length ≤ 2 := by cases x <;> decide +kernel
theorem xf_of {P : Program} {K : PySem.W.Frag} {mg : Str → Option Value} {h : Heap} {fa : List He.Fa} {fn : List He.DefD} {xs : List (Xc × Stmt)} {xall : List Xc} (X : K.In h) (G : h.Ns mainGlobals mg) (c : SaysY P fa fn xs xall K) (ok : InisOk xs) : Xf P K mg (xs.map (·.1)) xall := by
  have c2 : exB P K (xs.map (·.1)) xall = true := congrArg (fun z : AlY => z.2.1) c
  have c3 : (xs.map fun p => iniW K p.1) = xs.map iniX := congrArg (fun z : AlY => z.2.2) c
  obtain ⟨c4, c5⟩ := He.ba c2
  have one : ∀ x ∈ xs.map (·.1), oneB P K xall x = true := fun x hx => List.all_eq_true.mp c4 x hx
  have ini : ∀ x ∈ xs.map (·.1), ∃ st, IniOk x st ∧ iniW K x = iniX (x, st) := fun x hx => by
    obtain ⟨p, hp, rfl⟩ := List.mem_map.mp hx
    refine ⟨p.2, ok.get hp, ?_⟩
    obtain ⟨i, hi, e⟩ := List.getElem_of_mem hp
    have e2 : (xs.map fun p => iniW K p.1)[i]? = (xs.map iniX)[i]? := by rw [c3]
    rw [List.getElem?_map, List.getElem?_map, List.getElem?_eq_getElem hi, e] at e2
    exact Option.some.inj e2
  refine { own := fun x hx => ?c_own, keep := fun x hx => ?c_keep, exC := fun x hx => ?c_exC, tyC := fun x hx => ?c_tyC, hdC := fun x hx => ?c_hdC, isC := fun x hx => ?c_isC, ga := fun x hx => ?c_ga, gg := fun x hx => ?c_gg, cl := fun x hx => ?c_cl, ob := fun x hx => ?c_ob, sp := fun x hx => ?c_sp, glb := fun y hy => ?c_glb, inn := fun x hx => ?c_inn, exm := fun x hx y hy => ?c_exm, kit := fun x hx y hy => ?c_kit }
  case c_glb => exact PySem.W.mg_of X G (He.eqO_ok (List.all_eq_true.mp c5 y hy))
  all_goals
    obtain ⟨a1, r⟩ := He.ba (one x hx)
    obtain ⟨a2, r⟩ := He.ba r
    obtain ⟨a3, r⟩ := He.ba r
    obtain ⟨a4, r⟩ := He.ba r
    obtain ⟨a5, r⟩ := He.ba r
    obtain ⟨a6, r⟩ := He.ba r
    obtain ⟨a7, r⟩ := He.ba r
    obtain ⟨a8, r⟩ := He.ba r
    obtain ⟨a9, r⟩ := He.ba r
    obtain ⟨b1, r⟩ := He.ba r
    obtain ⟨b2, r⟩ := He.ba r
    obtain ⟨b3, r⟩ := He.ba r
    obtain ⟨b4, r⟩ := He.ba r
    obtain ⟨b5, r⟩ := He.ba r
    obtain ⟨b6, r⟩ := He.ba r
    obtain ⟨b7, r⟩ := He.ba r
    obtain ⟨b8, r⟩ := He.ba r
    obtain ⟨b9, r⟩ := He.ba r
    obtain ⟨d1, r⟩ := He.ba r
    obtain ⟨d2, r⟩ := He.ba r
    obtain ⟨d3, r⟩ := He.ba r
    obtain ⟨d4, d5⟩ := He.ba r
  case c_own =>
    obtain ⟨st, T, e⟩ := ini x hx
    refine ⟨iad K x, ?_⟩
    refine { cls := excB_ok a1, sa := He.eqO_ok a2, noF := fun f hf => ?_, up := He.eqO_ok a4, stat := He.eqO_ok d3, sup := He.eqO_ok d4, iC := He.eqO_ok a5, tC := of_decide_eq_true a6, nd := fds_nd x, dbg := fds_dbg x, few := fds_few x, some_ := fun z => T.own (List.map_eq_nil_iff.mp z), top := by simpa using d5, fn := ?_ }
    · obtain ⟨g, hg, rfl⟩ := List.mem_map.mp hf
      exact He.eqO_ok (List.all_eq_true.mp a3 g hg)
    · unfold iniB at d2
      unfold iniW at e
      cases q : K.lookup (iad K x) with
      | none => rw [q] at d2; cases d2
      | some o =>
        obtain ⟨oc, od, dt, osl⟩ := o
        rw [q] at d2 e
        cases dt with
        | func fd =>
          obtain ⟨n1, n2, n3, n4, n5, n6, n7, n8, n9, n10, n11, n12, n13, n14, n15⟩ := fd
          simp only [iniX, Option.some.injEq, Prod.mk.injEq] at e
          obtain ⟨rfl, rfl, rfl, rfl, rfl, rfl, e7, rfl, rfl⟩ := e
          simp only [Bool.and_eq_true] at d2
          obtain ⟨⟨g1, g2⟩, g3⟩ := d2
          obtain ⟨cc, rfl⟩ : ∃ cc, n7 = [(("__class__" : Str), cc)] := by
            match n7, e7 with
            | [(z, cc)], e7 =>
              simp only [List.map_cons, List.map_nil, List.cons.injEq, and_true] at e7
              exact ⟨cc, by rw [e7]⟩
          obtain ⟨cda, rfl⟩ : ∃ cda, n13 = .ref cda := by
            cases n13 with
            | ref cda => exact ⟨cda, rfl⟩
            | _ => cases g2
          dsimp only at g2 g3
          cases q2 : K.lookup cda with
          | none => rw [q2] at g2; cases g2
          | some o2 =>
            obtain ⟨oc2, od2, dt2, osl2⟩ := o2
            rw [q2] at g2
            cases dt2 with
            | fields vs =>
              dsimp only at g2
              cases q3 : vs[2]? with
              | none => rw [q3] at g2; cases g2
              | some v =>
                rw [q3] at g2
                cases v with
                | str f tf =>
                  cases q4 : K.lookup cc with
                  | none => rw [q4] at g3; cases g3
                  | some o3 =>
                    obtain ⟨oc3, od3, dt3, osl3⟩ := o3
                    rw [q4] at g3
                    cases dt3 with
                    | cell v3 =>
                      cases v3 with
                      | none => cases g3
                      | some v3 =>
                        cases v3 with
                        | ref D =>
                          have eD : D = xad K x := beq_iff_eq.mp g3
                          subst eD
                          obtain ⟨ar, har, hself⟩ : ∃ ar, ((defArgs st).posonlyargs ++ (defArgs st).args).head? = some ar ∧ ar.arg = ("self" : Str) := by
                            have hh := T.head
                            cases q5 : ((defArgs st).posonlyargs ++ (defArgs st).args).head? with
                            | none => rw [q5] at hh; cases hh
                            | some ar => rw [q5] at hh; exact ⟨ar, rfl, Option.some.inj hh⟩
                          refine ⟨oc, od, osl, x.qual, defArgs st, defBody st, defScope st, .none, _, _, _, _, _, cc, cda, _, _, vs, _, f, tf, _, _, _, ar, rfl, g1, T.shape, T.scope.1, T.scope.2.1, T.scope.2.2.1, T.scope.2.2.2, fun y hy => ?_, har, hself, q2, q3, g2, q4, T.bind _ _ _ _ _ _ _⟩
                          have := List.all_eq_true.mp T.cells y hy
                          simpa using this
                        | _ => cases g3
                    | _ => cases g3
                | _ => cases g2
            | _ => cases g2
        | _ => cases d2
  case c_keep => exact a7
  case c_exC => exact of_decide_eq_true a8
  case c_tyC => exact of_decide_eq_true a9
  case c_hdC => exact b1
  case c_isC => exact b2
  case c_ga => exact He.eqO_ok b3
  case c_gg => exact He.eqO_ok b4
  case c_cl => exact He.eqO_ok b5
  case c_ob => exact of_decide_eq_true b6
  case c_sp => exact ⟨He.eqO_ok b7, of_decide_eq_true b8⟩
  case c_inn => exact List.contains_iff_mem.mp b9
  case c_exm => exact of_decide_eq_true (He.ba (List.all_eq_true.mp d1 y hy)).1
  case c_kit => exact of_decide_eq_true (He.ba (List.all_eq_true.mp d1 y hy)).2
theorem law_facts (X : K.In h) (G : h.Ns mainGlobals mg) {ds : List DefI} {free : List Str} {cons : List (Str × Int)} (c : He.SaysD (factsOf ds free cons) (ds.map toD) K) :
    (∀ x, x ∈ free → mg x = none) ∧ (∀ x i, (x, i) ∈ cons → ∃ t, mg x = some (.int i t)) ∧ ∀ d, d ∈ ds → ∃ f fd, FunD K d.name d.name (defArgs d.st) (defBody d.st) (defScope d.st) [] [] f fd ∧ mg d.name = some (.ref f) := by
  refine ⟨fun x hx => ?_, fun x i hx => ?_, fun d hd => ?_⟩
  · exact He.free_ok X G (says_fact c (f := .free x) (List.mem_append_left _ (List.mem_append_right _ (List.mem_map.mpr ⟨x, hx, rfl⟩))))
  · exact He.int_ok X G (says_fact c (f := .int x i) (List.mem_append_right _ (List.mem_map.mpr ⟨(x, i), hx, rfl⟩)))
  · obtain ⟨fd, F⟩ := says_def c (d := toD d) (List.mem_map.mpr ⟨d, hd, rfl⟩)
    exact ⟨_, fd, F, He.glo_ok X G (says_fact c (f := .glo d.name) (List.mem_append_left _ (List.mem_append_left _ (List.mem_map.mpr ⟨d, hd, rfl⟩))))⟩
/-- the law's def, behind the head -/
theorem law_fn {P : Program} {w : World} (X : K.In h) (G : h.Ns mainGlobals mg) {ds : List DefI} {Gs : Gam} {free : List Str} {cons : List (Str × Int)} {xs : List (Xc × Stmt)} {xall : List Xc} {n : Nat} {f : Addr} {d : DefI} {g : List D → Store → R D} (t : Tow free cons (xs.map (·.1)) xall ds Gs) (cc : SaysY P (factsOf ds free cons) (ds.map toD) xs xall K) (ok : InisOk xs) (hd : ds[n]? = some d) (hg : Gs[n]? = some g) (hps : d.ps = [("script" : Str)])
    (hbind : ∀ (kV doc pm : Value) (an : Option Addr) (cdv ct : Value) (us : List Value), us.length = ([("script" : Str)]).length → bindArgs (PySem.W.fnOf d.name d.name (defArgs d.st) (defBody d.st) (defScope d.st) .none kV doc pm an cdv ct) ⟨us, []⟩ = pure (([("script" : Str)]).zip us))
    (hfa : mg d.name = some (.ref f)) : ∃ fd : FuncData, (∀ (s : Shared) (v : Value), BindsTo s fd ⟨[v], []⟩ [("script", v)]) ∧ ∀ base : Heap, K.In base → base.Ns mainGlobals mg → FnOk P w K mg base (L2.CX P w) (ds.length + 1) f fd ["script"] (spOf ⟨K, xrOf K (xs.map (·.1))⟩ 1 g) := by
  have c : He.SaysD (factsOf ds free cons) (ds.map toD) K := congrArg (fun z : AlY => z.1) cc
  obtain ⟨h1, h2, h3⟩ := law_facts X G c
  obtain ⟨f', fd, F, hm⟩ := h3 d (List.mem_of_getElem? hd)
  rw [hfa] at hm
  cases hm
  obtain ⟨g', a, fd', e1, e2, e3, e4, _, e5, F'⟩ := Tow.ok (P := P) (w := w) (C := ⟨K, xrOf K (xs.map (·.1))⟩) rfl (xf_of X G cc ok) rfl t h1 h2 h3 n d hd
  rw [hg] at e1
  cases e1
  rw [hfa] at e2
  cases e2
  rw [hps] at e4 e5
  exact ⟨fd', fun s v => FunD.bindsA (ps := ["script"]) F' hbind s [v] rfl, fun base _ _ => e5 base⟩
theorem cx_no {P : Program} {w : World} {outer : List Env} {H : Hp} {s : Shared} {e : Value} {s' : Shared} (h : L2.CX P w outer H s (fun _ _ _ => False) e s') : False := by
  obtain ⟨_, _, _, _, _, _, _, _, _, _, _, _, z⟩ := h
  exact z
end
/-- walk_ofE, where what is let out speaks of the world -/
theorem walk_ofX {l : PySem.W.OpenLaw} {n k : Nat} {q : Program} {loose : List Str} {XP : (Str → Option Value) → Heap → Prop} {YP : World → Heap → Prop} {d : DefRec} {x : Str}
    (hn : l.most = some n) (hn2 : n ≤ sizeLine) (hdf : d.params.defaults = []) (hr : Room k callerA)
    (F : ∀ (w : World) (mg : Str → Option Value) (fa : Addr) (h : Heap), YP w h → h.Ns mainGlobals mg → mg d.name = some (.ref fa) →
      ∃ (K : PySem.W.Frag) (fd : FuncData) (sp : Sp), K.In h ∧ (∀ (s : Shared) (u : Value), BindsTo s fd ⟨[u], []⟩ [(x, u)]) ∧
        (∀ (H : Hp) (a : Addr) (ns : List Int), ns.length ≤ n → Only H → SqL K H a (ns.map V.int) → sp [.ref a] H (fun v _ => v = .bl true) fun _ _ _ => False) ∧
        ∀ base : Heap, K.In base → base.Ns mainGlobals mg → FnOk l.prog w K mg base (L2.CX l.prog w) k fa fd [x] sp) :
    PySem.W.WalkO q loose XP YP l.row.toRowW d [] (fun f vs => PySem.call f vs) := by
  refine Att.attach_call hn hdf fun w s₀ s₁ mg mb fa o pm cd doc a vs ns G Y ho hd hcd hmg hobj hints hlen hg => ?_
  obtain ⟨K, fd, sp, KX, hb, hsp, hF⟩ := F w mg fa _ Y G.T.g hmg
  exact law_call KX G.T.g G.T.b G.T.builtins G.T.nolimit hg hobj hints (Nat.le_trans hlen hn2) hr hF hb (fun H hO hS => hsp H a ns hlen hO hS) fun H e s' z => cx_no z
end Tri

set_option Elab.async false
set_option linter.all false
set_option maxRecDepth 100000
namespace Tri
open PySem PySem.Spec PyProof.Rows L2 RZ

/-! ### plain reasoning about the interpreter -/
/-- it ends well, so that P -/
def R.ens {α : Type} (r : R α) (P : α → Store → Prop) : Prop := ∃ a M, r = .ok a M ∧ P a M
theorem ens_ok {α : Type} {a : α} {M : Store} {P : α → Store → Prop} (h : P a M) : (R.ok a M).ens P := ⟨a, M, rfl, h⟩
theorem ens_bind {α β : Type} {r : R α} {f : α → Store → R β} {P : β → Store → Prop} (h : r.ens fun a M => (f a M).ens P) : (r.bind f).ens P := by
  obtain ⟨a, M, rfl, h⟩ := h
  exact h
theorem R.ens.mono {α : Type} {r : R α} {P P' : α → Store → Prop} (h : r.ens P) (w : ∀ a M, P a M → P' a M) : r.ens P' := by
  obtain ⟨a, M, e, h⟩ := h
  exact ⟨a, M, e, w a M h⟩
/-- a statement (a block) goes on so that P, or hands back so that Q -/
inductive RS.ens : RS → (Sl → Store → Prop) → (D → Store → Prop) → Prop where
  | nx {τ : Sl} {M : Store} {P : Sl → Store → Prop} {Q : D → Store → Prop} (h : P τ M) : RS.ens (.nx τ M) P Q
  | rt {d : D} {M : Store} {P : Sl → Store → Prop} {Q : D → Store → Prop} (h : Q d M) : RS.ens (.rt d M) P Q
theorem RS.ens.nx' {τ : Sl} {M : Store} {P : Sl → Store → Prop} {Q : D → Store → Prop} (h : (RS.nx τ M).ens P Q) : P τ M := by cases h; assumption
theorem RS.ens.rt' {d : D} {M : Store} {P : Sl → Store → Prop} {Q : D → Store → Prop} (h : (RS.rt d M).ens P Q) : Q d M := by cases h; assumption
theorem RS.ens.mono {r : RS} {P P' : Sl → Store → Prop} {Q Q' : D → Store → Prop} (h : r.ens P Q) (w : ∀ τ M, P τ M → P' τ M) (w' : ∀ d M, Q d M → Q' d M) : r.ens P' Q' := by
  cases h with
  | nx h => exact .nx (w _ _ h)
  | rt h => exact .rt (w' _ _ h)
theorem ens_then {r : RS} {f : Sl → Store → RS} {P : Sl → Store → Prop} {Q : D → Store → Prop} (h : r.ens (fun τ M => (f τ M).ens P Q) Q) : (r.then f).ens P Q := by
  cases h with
  | nx h => exact h
  | rt h => exact .rt h
theorem ens_st {α : Type} {r : R α} {τ : Sl} {f : α → Store → RS} {P : Sl → Store → Prop} {Q : D → Store → Prop} (h : r.ens fun a M => (f a M).ens P Q) : (r.st τ f).ens P Q := by
  obtain ⟨a, M, rfl, h⟩ := h
  exact h
theorem ens_runs {G : Gam} {s : S} {r : List S} {τ : Sl} {M : Store} {P : Sl → Store → Prop} {Q : D → Store → Prop} (h : (run G s τ M).ens (fun τ M => (runs G r τ M).ens P Q) Q) : (runs G (s :: r) τ M).ens P Q := by
  rw [runs]
  exact ens_then h
/-- a def by its body -/
theorem ens_fn {G : Gam} {n : Nat} {body : List S} {ds : List D} {M : Store} {Q : D → Store → Prop} (h : (runs G body (ds.map some ++ List.replicate (n - ds.length) none) M).ens (fun _ M => Q .non M) Q) : (fnR G n body ds M).ens Q := by
  unfold fnR
  cases e : runs G body (ds.map some ++ List.replicate (n - ds.length) none) M with
  | nx τ M1 => rw [e] at h; exact ⟨_, _, rfl, h.nx'⟩
  | rt d M1 => rw [e] at h; exact ⟨_, _, rfl, h.rt'⟩
  | _ => rw [e] at h; cases h
/-- a for over what stands still: P by the turn -/
theorem for_ens {tot : Nat} {tg : Tg} {body : Sl → Store → RS} {Q : D → Store → Prop} (P : Nat → Sl → Store → Prop) : ∀ (xs : List D) (i : Nat) (τ : Sl) (M : Store), P i τ M →
    (∀ (j : Nat) x τ M, xs[j]? = some x → P (i + j) τ M → ∃ τ1, asgT tg x τ = some τ1 ∧ ((body τ1 M).ens (P (i + j + 1)) Q ∨ ∃ τ2 M2, body τ1 M = .ct τ2 M2 ∧ P (i + j + 1) τ2 M2)) →
    (forLoop none tot tg body i xs τ M).ens (P (i + xs.length)) Q
  | [], i, τ, M, h0, _ => by
    simp only [forLoop, endOk, if_true]
    exact .nx h0
  | x :: xs, i, τ, M, h0, hs => by
    obtain ⟨τ1, e1, h1⟩ := hs 0 x τ M rfl h0
    simp only [forLoop, pick, Option.bind_some, e1]
    have rest : ∀ τ2 M2, P (i + 1) τ2 M2 → (forLoop none tot tg body (i + 1) xs τ2 M2).ens (P (i + (x :: xs).length)) Q := fun τ2 M2 h2 => by
      have := for_ens (tot := tot) (tg := tg) (body := body) (Q := Q) P xs (i + 1) τ2 M2 h2 fun j y τ' M' ey hp => by
        have := hs (j + 1) y τ' M' (by simpa using ey) (by rw [show i + (j + 1) = i + 1 + j by omega]; exact hp)
        rw [show i + (j + 1) + 1 = i + 1 + j + 1 by omega] at this
        exact this
      rw [show i + (x :: xs).length = i + 1 + xs.length by rw [List.length_cons]; omega]
      exact this
    rcases h1 with h1 | ⟨τ2, M2, e2, h2⟩
    · cases e : body τ1 M with
      | nx τ2 M2 => rw [e] at h1; exact rest τ2 M2 h1.nx'
      | rt d M2 => rw [e] at h1; exact .rt h1.rt'
      | _ => rw [e] at h1; cases h1
    · rw [e2]
      exact rest τ2 M2 h2
/-- a while by an invariant and a measure -/
theorem while_ens {c : Sl → Store → R Bool} {body : Sl → Store → RS} {P' : Sl → Store → Prop} {Q : D → Store → Prop} (P : Nat → Sl → Store → Prop)
    (hs : ∀ m τ M, P m τ M → (c τ M).ens fun b M1 => (b = false → P' τ M1) ∧ (b = true → (body τ M1).ens (fun τ2 M2 => ∃ m', m' < m ∧ P m' τ2 M2) Q)) : ∀ (m : Nat) (τ : Sl) (M : Store), P m τ M → (while_ c body τ M).ens P' Q := by
  intro m
  induction m using Nat.strongRecOn with
  | ind m ih =>
    intro τ M h
    rw [while_eq]
    obtain ⟨b, M1, e, h1, h2⟩ := hs m τ M h
    rw [e]
    simp only [R.st]
    cases b with
    | false => exact .nx (h1 rfl)
    | true =>
      have h3 := h2 rfl
      simp only [if_true]
      cases eb : body τ M1 with
      | nx τ2 M2 =>
        rw [eb] at h3
        obtain ⟨m', lt, hp⟩ := h3.nx'
        exact ih m' lt τ2 M2 hp
      | rt d M2 => rw [eb] at h3; exact .rt h3.rt'
      | _ => rw [eb] at h3; cases h3
/-- a comprehension whose turns leave the store as it is -/
theorem lc_pure {tot : Nat} {tg : Tg} {τ : Sl} {cond : Sl → Store → R Bool} {elt : Sl → Store → R D} {M : Store} (p : D → Bool) (f : D → D) : ∀ (xs : List D) (i : Nat),
    (∀ x, x ∈ xs → ∃ τ1, asgT tg x τ = some τ1 ∧ cond τ1 M = .ok (p x) M ∧ (p x = true → elt τ1 M = .ok (f x) M)) → lcLoop none tot tg τ cond elt i xs M = .ok ((xs.filter p).map f) M
  | [], i, _ => by simp only [lcLoop, endOk, if_true]; rfl
  | x :: xs, i, h => by
    obtain ⟨τ1, e1, e2, e3⟩ := h x List.mem_cons_self
    have ih := lc_pure (tot := tot) (tg := tg) (τ := τ) (cond := cond) (elt := elt) (M := M) p f xs (i + 1) fun y hy => h y (List.mem_cons_of_mem _ hy)
    simp only [lcLoop, pick, Option.bind_some, e1, e2, R.bind]
    cases hp : p x with
    | false =>
      simp only [Bool.false_eq_true, if_false]
      rw [ih, List.filter_cons_of_neg (by rw [hp]; decide)]
    | true =>
      simp only [if_true, e3 hp]
      rw [ih, List.filter_cons_of_pos hp]
      rfl
/-- .. whose turns may change it: P by the turn and the list so far -/
theorem lc_ens {tot : Nat} {tg : Tg} {τ : Sl} {cond : Sl → Store → R Bool} {elt : Sl → Store → R D} (P : Nat → List D → Store → Prop) : ∀ (xs : List D) (i : Nat) (acc : List D) (M : Store), P i acc M →
    (∀ (j : Nat) x acc M, xs[j]? = some x → P (i + j) acc M → ∃ τ1, asgT tg x τ = some τ1 ∧ (cond τ1 M).ens fun b M1 => (b = false → P (i + j + 1) acc M1) ∧ (b = true → (elt τ1 M1).ens fun d M2 => P (i + j + 1) (acc ++ [d]) M2)) →
    (lcLoop none tot tg τ cond elt i xs M).ens fun ds M' => P (i + xs.length) (acc ++ ds) M'
  | [], i, acc, M, h0, _ => by
    simp only [lcLoop, endOk, if_true]
    exact ens_ok (by rw [List.append_nil]; exact h0)
  | x :: xs, i, acc, M, h0, hs => by
    obtain ⟨τ1, e1, b, M1, e2, h2, h3⟩ := hs 0 x acc M rfl h0
    have next : ∀ acc' M', P (i + 1) acc' M' → (lcLoop none tot tg τ cond elt (i + 1) xs M').ens fun ds M' => P (i + (x :: xs).length) (acc' ++ ds) M' := fun acc' M' hp => by
      have := lc_ens (tot := tot) (tg := tg) (τ := τ) (cond := cond) (elt := elt) P xs (i + 1) acc' M' hp fun j y acc2 M2 ey hp2 => by
        have := hs (j + 1) y acc2 M2 (by simpa using ey) (by rw [show i + (j + 1) = i + 1 + j by omega]; exact hp2)
        rw [show i + (j + 1) + 1 = i + 1 + j + 1 by omega] at this
        exact this
      rw [show i + (x :: xs).length = i + 1 + xs.length by rw [List.length_cons]; omega]
      exact this
    simp only [lcLoop, pick, Option.bind_some, e1, e2, R.bind]
    cases b with
    | false =>
      simp only [Bool.false_eq_true, if_false]
      exact next acc M1 (h2 rfl)
    | true =>
      simp only [if_true]
      obtain ⟨d, M2, e4, h4⟩ := h3 rfl
      rw [e4]
      simp only [R.bind]
      refine ens_bind ((next (acc ++ [d]) M2 h4).mono fun ds M' q => ens_ok ?_)
      rw [List.append_assoc] at q
      exact q
end Tri

set_option Elab.async false
set_option linter.all false
set_option maxRecDepth 100000
namespace Tri
open PySem PySem.Spec PyProof.Rows L2 RZ

/-! ### the interpreter's equations, one by one: what a walk rewrites by -/
noncomputable def RS.seq (x : RS) (G : Gam) (r : List S) : RS := x.then fun τ M => runs G r τ M
noncomputable def forQ (G : Gam) (t : Tg) (b : List S) (s : Src) (τ : Sl) (M : Store) : RS := forLoop s.live s.xs.length t (fun τ M => runs G b τ M) 0 s.xs τ M
noncomputable def whlQ (G : Gam) (c : E) (b : List S) (τ : Sl) (M : Store) : RS := while_ (fun τ M => tst (evq G c τ M)) (fun τ M => runs G b τ M) τ M
noncomputable def lcQ (G : Gam) (elt : E) (tg : Tg) (cond : Eo) (own : List Nat) (τ : Sl) (s : Src) (M1 : Store) : R Q := if s.xs.length ≤ lim then (noex (lcLoop s.live s.xs.length tg (wipeD τ own) (fun τ M => evc G cond τ M) (fun τ M => evD (evq G elt τ M)) 0 s.xs M1)).bind fun ds M2 => .ok (.tmp ds) M2 else .no
section
variable {α β : Type} {a : α} {M : Store} {f : α → Store → R β} {g : α → Store → RS} {c : Xc} {fs : List D} {τ : Sl} {G : Gam} {r : List S} {d : D} {s : S} {e e1 e2 : E} {i j : Int} {b : Bool} {q x y : Q} {xs ys : List D}
theorem k_ok : (R.ok a M).bind f = f a M := rfl
theorem k_ex : (R.ex c fs M).bind f = .ex c fs M := rfl
theorem k_no : (R.no : R α).bind f = .no := rfl
theorem st_ok : (R.ok a M).st τ g = g a M := rfl
theorem st_ex : (R.ex c fs M).st τ g = .ex c fs τ M := rfl
theorem st_no : (R.no : R α).st τ g = .no := rfl
theorem runs_cons : runs G (s :: r) τ M = (run G s τ M).seq G r := by rw [runs]; rfl
theorem runs_nil : runs G [] τ M = .nx τ M := by rw [runs]
theorem seq_nx : (RS.nx τ M).seq G r = runs G r τ M := rfl
theorem seq_rt : (RS.rt d M).seq G r = .rt d M := rfl
theorem seq_bk : (RS.bk τ M).seq G r = .bk τ M := rfl
theorem seq_ct : (RS.ct τ M).seq G r = .ct τ M := rfl
theorem seq_ex : (RS.ex c fs τ M).seq G r = .ex c fs τ M := rfl
theorem seq_no : RS.no.seq G r = .no := rfl
theorem seq_nil {x : RS} : x.seq G [] = x := by
  unfold RS.seq RS.then
  cases x <;> simp only [runs_nil]
theorem tst_bl : tst (.ok (.v (.bl b)) M) = .ok b M := rfl
theorem evD_v : evD (.ok (.v d) M) = .ok d M := rfl
theorem evD_tmp : evD (.ok (.tmp xs) M) = .ok (.ref M.length) (M ++ [.lst xs]) := rfl
theorem evD_ex : evD (.ex c fs M) = .ex c fs M := rfl
theorem okv_eq : okv d M = .ok (.v d) M := rfl
theorem noex_ok : noex (R.ok a M) = .ok a M := rfl
-- statements
theorem r_expr : run G (.expr e) τ M = (evq G e τ M).st τ fun _ M1 => .nx τ M1 := by rw [run]
theorem r_ret : run G (.ret e) τ M = (evD (evq G e τ M)).st τ fun d M1 => .rt d M1 := by rw [run]
theorem r_retN : run G .retN τ M = .rt .non M := by rw [run]
theorem r_pass : run G .pass τ M = .nx τ M := by rw [run]
theorem r_brk : run G .brk τ M = .bk τ M := by rw [run]
theorem r_cont : run G .cont τ M = .ct τ M := by rw [run]
theorem r_set {k : Nat} : run G (.set k e) τ M = (evD (evq G e τ M)).st τ fun d M1 => .nx (τ.set k (some d)) M1 := by rw [run]
/-- what an assignment to targets comes to -/
def nxo (o : Option Sl) (M : Store) : RS := match o with
  | some τ1 => .nx τ1 M
  | none => .no
theorem nxo_some : nxo (some τ) M = .nx τ M := rfl
theorem r_asg {t : Tg} : run G (.asg t e) τ M = (evD (evq G e τ M)).st τ fun d M1 => nxo (asgT t d τ) M1 := by rw [run]; rfl
theorem r_par {k l : Nat} : run G (.par k l e1 e2) τ M = (evD (evq G e1 τ M)).st τ fun x M1 => (evD (evq G e2 τ M1)).st τ fun y M2 => .nx ((τ.set k (some x)).set l (some y)) M2 := by rw [run]
def nxm (o : Option Store) (τ : Sl) : RS := match o with
  | some M4 => .nx τ M4
  | none => .no
theorem nxm_some : nxm (some M) τ = .nx τ M := rfl
theorem r_setIx : run G (.setIx e1 e2 e) τ M = (evD (evq G e τ M)).st τ fun d M1 => (evq G e1 τ M1).st τ fun x M2 => (evq G e2 τ M2).st τ fun y M3 => nxm (setIxQ x y d M3) τ := by rw [run]; rfl
def augR (k : Nat) (op : Operator) (x : Option (Option D)) (r : R Q) (τ : Sl) : RS := match x with
  | some (some x) => r.st τ fun y M1 => (augQ op (.v x) y M1).st τ fun d M2 => .nx (τ.set k (some d)) M2
  | _ => .no
theorem augR_some {k : Nat} {op : Operator} {w : D} {z : R Q} : augR k op (some (some w)) z τ = z.st τ fun y M1 => (augQ op (.v w) y M1).st τ fun d M2 => .nx (τ.set k (some d)) M2 := rfl
theorem r_aug {k : Nat} {op : Operator} : run G (.aug k op e) τ M = augR k op τ[k]? (evq G e τ M) τ := by rw [run]; rfl
noncomputable def ifS (G : Gam) (p q : List S) (τ : Sl) (b : Bool) (M : Store) : RS := if b then runs G p τ M else runs G q τ M
theorem ifS_t {p q : List S} : ifS G p q τ true M = runs G p τ M := rfl
theorem ifS_f {p q : List S} : ifS G p q τ false M = runs G q τ M := rfl
theorem r_ife {p q : List S} : run G (.ife e p q) τ M = (tst (evq G e τ M)).st τ (ifS G p q τ) := by rw [run]; rfl
theorem r_whl {p : List S} : run G (.whl e p) τ M = whlQ G e p τ M := by rw [run]; rfl
theorem r_for {t : Tg} {it : It} {p : List S} : run G (.for_ t it p) τ M = (evi G it τ M).st τ fun s M1 => forQ G t p s τ M1 := by rw [run]; rfl
-- expressions
theorem v_non : evq G .non τ M = .ok (.v .non) M := by rw [evq]; rfl
theorem v_bl : evq G (.bl b) τ M = .ok (.v (.bl b)) M := by rw [evq]; rfl
theorem v_int : evq G (.int i) τ M = .ok (.v (.int i)) M := by rw [evq]; rfl
theorem v_str {z : Str} : evq G (.str z) τ M = .ok (.v (.str z)) M := by rw [evq]; rfl
def slot (o : Option (Option D)) (M : Store) : R Q := match o with
  | some (some d) => .ok (.v d) M
  | _ => .no
theorem slot_some : slot (some (some d)) M = .ok (.v d) M := rfl
theorem v_var {k : Nat} : evq G (.var k) τ M = slot τ[k]? M := by
  rw [evq]
  unfold slot
  rcases τ[k]? with _ | _ | _ <;> rfl
theorem v_con {z : Str} : evq G (.con z i) τ M = .ok (.v (.int i)) M := by rw [evq]; rfl
theorem v_bin {op : Operator} : evq G (.bin op e1 e2) τ M = (evq G e1 τ M).bind fun x M1 => (evq G e2 τ M1).bind fun y M2 => binQ op x y M2 := by rw [evq]
def negQ (x : Q) (M : Store) : R Q := match x with
    | .v (.int i) => okv (.int (-i)) M
    | _ => .no
theorem negQ_int : negQ (.v (.int i)) M = .ok (.v (.int (-i))) M := rfl
theorem v_neg : evq G (.neg e) τ M = (evq G e τ M).bind negQ := by rw [evq]; rfl
theorem v_not : evq G (.not e) τ M = (tst (evq G e τ M)).bind fun b M1 => .ok (.v (.bl (!b))) M1 := by rw [evq]; rfl
noncomputable def andR (G : Gam) (e : E) (τ : Sl) (c : Bool) (M1 : Store) : R Q := if c then (tst (evq G e τ M1)).bind fun d M2 => okv (.bl d) M2 else okv (.bl false) M1
noncomputable def orR (G : Gam) (e : E) (τ : Sl) (c : Bool) (M1 : Store) : R Q := if c then okv (.bl true) M1 else (tst (evq G e τ M1)).bind fun d M2 => okv (.bl d) M2
theorem andR_t : andR G e τ true M = (tst (evq G e τ M)).bind fun d M2 => .ok (.v (.bl d)) M2 := rfl
theorem andR_f : andR G e τ false M = .ok (.v (.bl false)) M := rfl
theorem orR_t : orR G e τ true M = .ok (.v (.bl true)) M := rfl
theorem orR_f : orR G e τ false M = (tst (evq G e τ M)).bind fun d M2 => .ok (.v (.bl d)) M2 := rfl
theorem v_and : evq G (.and e1 e2) τ M = (tst (evq G e1 τ M)).bind (andR G e2 τ) := by rw [evq]; rfl
theorem v_or : evq G (.or e1 e2) τ M = (tst (evq G e1 τ M)).bind (orR G e2 τ) := by rw [evq]; rfl
noncomputable def ifR (G : Gam) (e1 e2 : E) (τ : Sl) (c : Bool) (M1 : Store) : R Q := if c then evq G e1 τ M1 else evq G e2 τ M1
theorem ifR_t : ifR G e1 e2 τ true M = evq G e1 τ M := rfl
theorem ifR_f : ifR G e1 e2 τ false M = evq G e2 τ M := rfl
theorem v_ife : evq G (.ife e e1 e2) τ M = (tst (evq G e τ M)).bind (ifR G e1 e2 τ) := by rw [evq]; rfl
theorem v_cmp {op : CmpOp} : evq G (.cmp op e1 e2) τ M = (evq G e1 τ M).bind fun x M1 => (evq G e2 τ M1).bind fun y M2 => ofB (cmpQ op x y M2) M2 := by rw [evq]
noncomputable def cmp3 (G : Gam) (o1 o2 : CmpOp) (e : E) (τ : Sl) (x y : Q) (M2 : Store) : R Q := match x, y with
    | .v (.int i), .v (.int j) => match cmpI o1 i j with
      | some true => (evq G e τ M2).bind fun z M3 => match z with
        | .v (.int k) => ofB (cmpI o2 j k) M3
        | _ => .no
      | some false => okv (.bl false) M2
      | none => .no
    | _, _ => .no
theorem v_cmp2 {o1 o2 : CmpOp} : evq G (.cmp2 o1 o2 e1 e2 e) τ M = (evq G e1 τ M).bind fun x M1 => (evq G e2 τ M1).bind fun y M2 => cmp3 G o1 o2 e τ x y M2 := by rw [evq]; rfl
theorem cmp3_f {o1 o2 : CmpOp} (h : cmpI o1 i j = some false) : cmp3 G o1 o2 e τ (.v (.int i)) (.v (.int j)) M = .ok (.v (.bl false)) M := by
  simp only [cmp3, h]; rfl
def cmpE (o2 : CmpOp) (j : Int) (z : Q) (M3 : Store) : R Q := match z with
        | .v (.int k) => ofB (cmpI o2 j k) M3
        | _ => .no
theorem cmpE_int {o2 : CmpOp} {k : Int} : cmpE o2 j (.v (.int k)) M = ofB (cmpI o2 j k) M := rfl
theorem cmp3_t {o1 o2 : CmpOp} (h : cmpI o1 i j = some true) : cmp3 G o1 o2 e τ (.v (.int i)) (.v (.int j)) M = (evq G e τ M).bind (cmpE o2 j) := by
  simp only [cmp3, h]; rfl
theorem v_isN : evq G (.isN e) τ M = (evq G e τ M).bind fun x M1 => .ok (.v (.bl (isNon x))) M1 := by rw [evq]; rfl
theorem v_notN : evq G (.notN e) τ M = (evq G e τ M).bind fun x M1 => .ok (.v (.bl (!isNon x))) M1 := by rw [evq]; rfl
theorem v_isi {t : Ty} : evq G (.isi e t) τ M = (evq G e τ M).bind fun x M1 => isiR t x M1 := by rw [evq]
def tupQ (ds : List D) (M : Store) : R Q := if ds.length ≤ 1000 then okv (.tup ds) M else .no
def lstQ (ds : List D) (M : Store) : R Q := if ds.length ≤ 1000 then .ok (.tmp ds) M else .no
theorem v_tup {es : Es} : evq G (.tup es) τ M = (evs G es τ M).bind tupQ := by rw [evq]; rfl
theorem v_lst {es : Es} : evq G (.lst es) τ M = (evs G es τ M).bind lstQ := by rw [evq]; rfl
theorem v_ix : evq G (.ix e1 e2) τ M = (evq G e1 τ M).bind fun x M1 => (evq G e2 τ M1).bind fun y M2 => ixQ x y M2 := by rw [evq]
theorem v_sl {l h : Eo} : evq G (.sl e l h) τ M = (evq G e τ M).bind fun x M1 => (evo G l τ M1).bind fun l M2 => (evo G h τ M2).bind fun h M3 => slQ x l h M3 := by rw [evq]
def callR (o : Option (List D → Store → R D)) (ds : List D) (M1 : Store) : R Q := match o with
    | some g => (g ds M1).bind fun d M2 => okv d M2
    | none => .no
theorem callR_some {g : List D → Store → R D} : callR (some g) xs M = (g xs M).bind fun d M2 => .ok (.v d) M2 := rfl
theorem v_call {k : Nat} {es : Es} : evq G (.call k es) τ M = (evs G es τ M).bind (callR G[k]?) := by rw [evq]; rfl
theorem v_callK {k : Nat} {es ws : Es} {ks : List Str} {perm : List Nat} : evq G (.callK k es ws ks perm) τ M = (evs G es τ M).bind fun ds M1 => (evs G ws τ M1).bind fun zs M2 => callR G[k]? (permD perm (ds ++ zs)) M2 := by rw [evq]; rfl
def lrg1Q (x : Q) (M1 : Store) : R Q := match x with
    | .v (.int n) => if rngOk 0 n && decide (n.toNat ≤ lim) then .ok (.tmp (rng 0 n)) M1 else .no
    | _ => .no
theorem v_lrg1 : evq G (.lrg1 e) τ M = (evq G e τ M).bind lrg1Q := by rw [evq]; rfl
def lrg2Q (x y : Q) (M2 : Store) : R Q := match x, y with
    | .v (.int lo), .v (.int hi) => if rngOk lo hi && decide ((hi - lo).toNat ≤ lim) then .ok (.tmp (rng lo hi)) M2 else .no
    | _, _ => .no
theorem v_lrg2 : evq G (.lrg2 e1 e2) τ M = (evq G e1 τ M).bind fun x M1 => (evq G e2 τ M1).bind fun y M2 => lrg2Q x y M2 := by rw [evq]; rfl
theorem v_b1 {f : B1} : evq G (.b1 f e) τ M = (evq G e τ M).bind (b1Q f) := by rw [evq]
theorem v_b2 {f : B2} : evq G (.b2 f e1 e2) τ M = (evq G e1 τ M).bind fun x M1 => (evq G e2 τ M1).bind fun y M2 => b2Q f x y M2 := by rw [evq]
theorem v_m0 {m : M0} : evq G (.m0 m e) τ M = (evq G e τ M).bind (m0Q m) := by rw [evq]
noncomputable def m1R (G : Gam) (m : M1) (e : E) (τ : Sl) (x : Q) (M1 : Store) : R Q := if isRef x then (argQ m (evq G e τ M1)).bind fun y M2 => m1Q m x y M2 else .no
theorem m1R_ref {m : M1} {n : Nat} : m1R G m e τ (.v (.ref n)) M = (argQ m (evq G e τ M)).bind fun y M2 => m1Q m (.v (.ref n)) y M2 := rfl
theorem v_m1 {m : M1} : evq G (.m1 m e1 e2) τ M = (evq G e1 τ M).bind (m1R G m e2 τ) := by rw [evq]; rfl
theorem v_lc {elt : E} {tg : Tg} {it : It} {cond : Eo} {own : List Nat} : evq G (.lc elt tg it cond own) τ M = (evi G it τ M).bind (lcQ G elt tg cond own τ) := by rw [evq]; rfl
theorem a_app {z : R Q} : argQ .append z = (evD z).bind fun d M => .ok (.v d) M := rfl
theorem a_ext {z : R Q} : argQ .extend z = z := rfl
theorem a_pop {z : R Q} : argQ .pop z = z := rfl
theorem s_nil : evs G .nil τ M = .ok [] M := by rw [evs]
theorem s_cons {es : Es} : evs G (.cons e es) τ M = (evD (evq G e τ M)).bind fun d M1 => (evs G es τ M1).bind fun ds M2 => .ok (d :: ds) M2 := by rw [evs]
theorem o_no : evo G .no τ M = .ok none M := by rw [evo]
def intO (x : Q) (M1 : Store) : R (Option Int) := match x with
    | .v (.int i) => .ok (some i) M1
    | _ => .no
theorem intO_int : intO (.v (.int i)) M = .ok (some i) M := rfl
theorem o_so : evo G (.so e) τ M = (evq G e τ M).bind intO := by rw [evo]; rfl
theorem c_no : evc G .no τ M = .ok true M := by rw [evc]
theorem c_so : evc G (.so e) τ M = tst (evq G e τ M) := by rw [evc]
theorem i_seq : evi G (.seq e) τ M = (evq G e τ M).bind fun q M1 => srcR (q.src M1) M1 := by rw [evi]
def rg1Q (x : Q) (M1 : Store) : R Src := match x with
    | .v (.int n) => if rngOk 0 n then .ok ⟨none, rng 0 n⟩ M1 else .no
    | _ => .no
def rg2Q (x y : Q) (M1 : Store) : R Src := match x, y with
    | .v (.int lo), .v (.int hi) => if rngOk lo hi then .ok ⟨none, rng lo hi⟩ M1 else .no
    | _, _ => .no
def enQ (q : Q) (M1 : Store) : R Src := match q with
    | .tmp xs => .ok ⟨none, enumD 0 xs⟩ M1
    | .v (.tup xs) => .ok ⟨none, enumD 0 xs⟩ M1
    | _ => .no
def zip3Q (x y z : Q) (M2 : Store) : R Src := match x, y, z with
    | .v (.tup xs), .v (.tup ys), .v (.tup zs) => .ok ⟨none, zip3D xs ys zs⟩ M2
    | _, _, _ => .no
def zipQ (x y : Q) (M2 : Store) : R Src := match x, y with
    | .v (.tup xs), .v (.tup ys) => .ok ⟨none, zipD xs ys⟩ M2
    | _, _ => .no
theorem i_rg1 : evi G (.rg1 e) τ M = (evq G e τ M).bind rg1Q := by rw [evi]; rfl
theorem i_rg2 : evi G (.rg2 e1 e2) τ M = (evq G e1 τ M).bind fun x M1 => (evq G e2 τ M1).bind fun y M2 => rg2Q x y M2 := by rw [evi]; rfl
theorem i_en : evi G (.en e) τ M = (evq G e τ M).bind enQ := by rw [evi]; rfl
theorem i_zip : evi G (.zip e1 e2) τ M = (evq G e1 τ M).bind fun x M1 => (evq G e2 τ M1).bind fun y M2 => zipQ x y M2 := by rw [evi]; rfl
theorem i_zip3 {e3 : E} : evi G (.zip3 e1 e2 e3) τ M = (evq G e1 τ M).bind fun x M1 => (evq G e2 τ M1).bind fun y M2 => (evq G e3 τ M2).bind fun z M3 => zip3Q x y z M3 := by rw [evi]; rfl
-- values
theorem src_tmp : srcR ((Q.tmp xs).src M) M = .ok ⟨none, xs⟩ M := rfl
theorem src_tup : srcR ((Q.v (.tup xs)).src M) M = .ok ⟨none, xs⟩ M := rfl
def srcO (o : Option MO) (n : Nat) (M : Store) : R Src := match o with
  | some (.lst xs) => .ok ⟨some n, xs⟩ M
  | none => .no
theorem srcO_some {n : Nat} : srcO (some (.lst xs)) n M = .ok ⟨some n, xs⟩ M := rfl
theorem src_ref {n : Nat} : srcR ((Q.v (.ref n)).src M) M = srcO M[n]? n M := by
  rcases e : M[n]? with _ | ⟨xs⟩ <;> simp only [srcR, Q.src, Q.items, e, Option.map_some, Option.map_none, srcO]
theorem src_f : srcR ((Q.v (.fzl xs)).src M) M = .ok ⟨none, xs⟩ M := rfl
theorem rg1_ok {n : Nat} (h : (n : Int) < 2 ^ 62) : rg1Q (.v (.int n)) M = .ok ⟨none, rng 0 n⟩ M := by
  have : rngOk 0 n = true := by
    unfold rngOk
    rw [decide_eq_true (by decide), decide_eq_true (by decide), decide_eq_true (show (-(2 ^ 62) : Int) ≤ n by omega), decide_eq_true h]; rfl
  simp only [rg1Q, this, if_true]
theorem rg1_int (h : rngOk 0 i = true) : rg1Q (.v (.int i)) M = .ok ⟨none, rng 0 i⟩ M := by
  simp only [rg1Q, h, if_true]
theorem rg2_ok (h : rngOk i j = true) : rg2Q (.v (.int i)) (.v (.int j)) M = .ok ⟨none, rng i j⟩ M := by
  simp only [rg2Q, h, if_true]
theorem en_tmp : enQ (.tmp xs) M = .ok ⟨none, enumD 0 xs⟩ M := rfl
theorem en_tup : enQ (.v (.tup xs)) M = .ok ⟨none, enumD 0 xs⟩ M := rfl
theorem zip3_tup {zs : List D} : zip3Q (.v (.tup xs)) (.v (.tup ys)) (.v (.tup zs)) M = .ok ⟨none, zip3D xs ys zs⟩ M := rfl
theorem zip_tup : zipQ (.v (.tup xs)) (.v (.tup ys)) M = .ok ⟨none, zipD xs ys⟩ M := rfl
theorem lrg1_ok (h : (rngOk 0 i && decide (i.toNat ≤ lim)) = true) : lrg1Q (.v (.int i)) M = .ok (.tmp (rng 0 i)) M := by
  simp only [lrg1Q, h, if_true]
theorem lrg2_ok (h : (rngOk i j && decide ((j - i).toNat ≤ lim)) = true) : lrg2Q (.v (.int i)) (.v (.int j)) M = .ok (.tmp (rng i j)) M := by
  simp only [lrg2Q, h, if_true]
theorem tupQ_ok (h : xs.length ≤ 1000) : tupQ xs M = .ok (.v (.tup xs)) M := by
  unfold tupQ; rw [if_pos h]; rfl
theorem lstQ_ok (h : xs.length ≤ 1000) : lstQ xs M = .ok (.tmp xs) M := by
  unfold lstQ; rw [if_pos h]
theorem bn_add : binQ .Add (.v (.int i)) (.v (.int j)) M = .ok (.v (.int (i + j))) M := rfl
theorem bn_adds {s t : Str} (h : s.length + t.length ≤ lim) : binQ .Add (.v (.str s)) (.v (.str t)) M = .ok (.v (.str (s ++ t))) M := by
  unfold binQ addQ
  simp only [if_pos h, okv]
theorem bn_addt (h : xs.length + ys.length ≤ lim) : binQ .Add (.v (.tup xs)) (.v (.tup ys)) M = .ok (.v (.tup (xs ++ ys))) M := by
  unfold binQ addQ
  simp only [if_pos h, okv]
theorem bn_addl {xs ys : List D} (hx : x.lst? M = some xs) (hy : y.lst? M = some ys) (h : xs.length + ys.length ≤ lim) : binQ .Add x y M = .ok (.tmp (xs ++ ys)) M := by
  rcases x with (_|_|_|_|_|_|_) | _ <;> simp [Q.lst?] at hx <;> rcases y with (_|_|_|_|_|_|_) | _ <;> simp [Q.lst?] at hy <;> simp [binQ, addQ, Q.lst?, hx, hy, h]
theorem bn_sub : binQ .Sub (.v (.int i)) (.v (.int j)) M = .ok (.v (.int (i - j))) M := rfl
theorem bn_mod (h : 0 < j) : binQ .Mod (.v (.int i)) (.v (.int j)) M = .ok (.v (.int (i % j))) M := by
  simp only [binQ, intsQ, binI, decide_eq_true h, if_true, intR]
theorem bn_div (h : 0 < j) (h' : j < 1073741824) : binQ .FloorDiv (.v (.int i)) (.v (.int j)) M = .ok (.v (.int (i / j))) M := by
  simp only [binQ, intsQ, binI, decide_eq_true h, decide_eq_true h', Bool.true_or, Bool.and_self, if_true, intR]
theorem bn_pow (h : powOk i j = true) : binQ .Pow (.v (.int i)) (.v (.int j)) M = .ok (.v (.int (i ^ j.toNat))) M := by
  simp only [binQ, intsQ, binI, h, if_true, intR]
theorem bn_shl (h : powOk i j = true) : binQ .LShift (.v (.int i)) (.v (.int j)) M = .ok (.v (.int (i * 2 ^ j.toNat))) M := by
  simp only [binQ, intsQ, binI, h, if_true, intR]
theorem bn_mulr (h : j.natAbs < 2 ^ 64) : binQ .Mult (.v (.int i)) (.v (.int j)) M = .ok (.v (.int (i * j))) M := by
  simp only [binQ, mulQ, mulOk, decide_eq_true h, Bool.or_true, Bool.true_or, if_true, okv]
theorem bn_mull (h : i.natAbs < 2 ^ 64) : binQ .Mult (.v (.int i)) (.v (.int j)) M = .ok (.v (.int (i * j))) M := by
  simp only [binQ, mulQ, mulOk, decide_eq_true h, Bool.or_true, Bool.true_or, if_true, okv]
theorem ofB_some : ofB (some b) M = .ok (.v (.bl b)) M := rfl
theorem cm_lt : cmpQ .Lt (.v (.int i)) (.v (.int j)) M = some (decide (i < j)) := rfl
theorem cm_le : cmpQ .LtE (.v (.int i)) (.v (.int j)) M = some (decide (i ≤ j)) := rfl
theorem cm_gt : cmpQ .Gt (.v (.int i)) (.v (.int j)) M = some (decide (j < i)) := rfl
theorem cm_ge : cmpQ .GtE (.v (.int i)) (.v (.int j)) M = some (decide (j ≤ i)) := rfl
theorem cm_eq : cmpQ .Eq (.v (.int i)) (.v (.int j)) M = some (decide (i = j)) := rfl
theorem cm_ne : cmpQ .NotEq (.v (.int i)) (.v (.int j)) M = some (!decide (i = j)) := rfl
theorem cm_eqb {a b : Bool} : cmpQ .Eq (.v (.bl a)) (.v (.bl b)) M = some (a == b) := by cases a <;> cases b <;> rfl
theorem cm_neb {a b : Bool} : cmpQ .NotEq (.v (.bl a)) (.v (.bl b)) M = some (!(a == b)) := by cases a <;> cases b <;> rfl
theorem shaped_str {a : Str} (h : PyData.strOk a = true) : SeqAt.shaped (.str a) = true := by simp [SeqAt.shaped, PyData.canLay0, PyData.depth, h]
theorem cm_eqs {a b : Str} (ha : PyData.strOk a = true) (hb : PyData.strOk b = true) : cmpQ .Eq (.v (.str a)) (.v (.str b)) M = some (a == b) := by
  show (if (SeqAt.shaped (.str a) && SeqAt.shaped (.str b)) = true then some (PyData.eqv (.str a) (.str b)) else none) = some (a == b)
  rw [shaped_str ha, shaped_str hb]; rfl
theorem cm_nes {a b : Str} (ha : PyData.strOk a = true) (hb : PyData.strOk b = true) : cmpQ .NotEq (.v (.str a)) (.v (.str b)) M = some (!(a == b)) := by
  show ((if (SeqAt.shaped (.str a) && SeqAt.shaped (.str b)) = true then some (PyData.eqv (.str a) (.str b)) else none)).map not = some (!(a == b))
  rw [shaped_str ha, shaped_str hb]; rfl
/-- a cell that is looked at, an item that is taken -/
def ixO (o : Option D) (M : Store) : R Q := match o with
  | some d => .ok (.v d) M
  | none => .no
theorem ixO_some : ixO (some d) M = .ok (.v d) M := rfl
theorem ixNat_nn {n : Nat} (h : 0 ≤ i) : ixNat n i = if i.toNat < n then some i.toNat else none := by
  unfold ixNat
  rw [if_pos h]
  by_cases c : i < n
  · rw [if_pos c, if_pos (by omega)]
  · rw [if_neg c, if_neg (by omega)]
theorem ixAnyK (h : 0 ≤ i) (hx : x.items M = some xs) (hs : ∀ s, x ≠ .v (.str s)) : ixQ x (.v (.int i)) M = ixO xs[i.toNat]? M := by
  have : ixQ x (.v (.int i)) M = match x.items M with
      | some xs => match ixNat xs.length i with
        | some k => match xs[k]? with
          | some d => okv d M
          | none => .no
        | none => .no
      | none => .no := by
    rcases x with (_|_|_|s|_|_|_) | _
    all_goals first | rfl | exact absurd rfl (hs _)
  rw [this, hx]
  simp only [ixNat_nn h]
  by_cases c : i.toNat < xs.length
  · simp only [if_pos c, List.getElem?_eq_getElem c]; rfl
  · simp only [if_neg c, List.getElem?_eq_none (show xs.length ≤ i.toNat by omega)]; rfl
theorem ix_t (h : 0 ≤ i) : ixQ (.v (.tup xs)) (.v (.int i)) M = ixO xs[i.toNat]? M := ixAnyK h rfl fun s e => by cases e
theorem ix_m (h : 0 ≤ i) : ixQ (.tmp xs) (.v (.int i)) M = ixO xs[i.toNat]? M := ixAnyK h rfl fun s e => by cases e
theorem ix_f (h : 0 ≤ i) : ixQ (.v (.fzl xs)) (.v (.int i)) M = ixO xs[i.toNat]? M := ixAnyK h rfl fun s e => by cases e
def ixR (o : Option MO) (i : Int) (M : Store) : R Q := match o with
  | some (.lst xs) => ixQ (.tmp xs) (.v (.int i)) M
  | none => .no
theorem ixR_some : ixR (some (.lst xs)) i M = ixQ (.tmp xs) (.v (.int i)) M := rfl
theorem ix_r {n : Nat} : ixQ (.v (.ref n)) (.v (.int i)) M = ixR M[n]? i M := by
  unfold ixR
  rcases e : M[n]? with _ | ⟨xs⟩
  · simp only [ixQ, Q.items, e]
  · simp only [ixQ, Q.items, e]
theorem ix_s {s : Str} {c : Nat} (h : 0 ≤ i) (hs : s.length ≤ lim) (hc : s.cps.toList[i.toNat]? = some c) : ixQ (.v (.str s)) (.v (.int i)) M = .ok (.v (.str ⟨#[c]⟩)) M := by
  have c' : i.toNat < s.cps.toList.length := by
    obtain ⟨h1, _⟩ := List.getElem?_eq_some_iff.mp hc
    exact h1
  simp only [ixQ, ixNat_nn h, if_pos c', hc, if_pos hs, okv]
/-- a list's cell -/
def lstO (o : Option MO) (M : Store) (f : List D → R Q) : R Q := match o with
  | some (.lst xs) => f xs
  | none => .no
theorem lstO_some {f : List D → R Q} : lstO (some (.lst xs)) M f = f xs := rfl
theorem len_t : b1Q .len (.v (.tup xs)) M = .ok (.v (.int xs.length)) M := rfl
theorem len_m : b1Q .len (.tmp xs) M = .ok (.v (.int xs.length)) M := rfl
theorem len_f : b1Q .len (.v (.fzl xs)) M = .ok (.v (.int xs.length)) M := rfl
theorem len_r {n : Nat} : b1Q .len (.v (.ref n)) M = lstO M[n]? M fun xs => .ok (.v (.int xs.length)) M := by
  rcases e : M[n]? with _ | ⟨xs⟩ <;> simp only [b1Q, Q.items, e, okv, lstO]
theorem len_s {s : Str} (h : s.length ≤ lim) : b1Q .len (.v (.str s)) M = .ok (.v (.int s.length)) M := by
  simp only [b1Q, if_pos h, okv]
theorem int_i : b1Q .int (.v (.int i)) M = .ok (.v (.int i)) M := rfl
theorem int_b : b1Q .int (.v (.bl b)) M = .ok (.v (.int (if b then 1 else 0))) M := rfl
theorem str_i (h : i.natAbs < 10 ^ 18) : b1Q .str (.v (.int i)) M = .ok (.v (.str (toString i))) M := by
  simp only [b1Q, if_pos h, okv]
theorem tup_t : b1Q .tuple (.v (.tup xs)) M = .ok (.v (.tup xs)) M := rfl
theorem tup_m : b1Q .tuple (.tmp xs) M = .ok (.v (.tup xs)) M := rfl
theorem tup_r {n : Nat} : b1Q .tuple (.v (.ref n)) M = lstO M[n]? M fun xs => .ok (.v (.tup xs)) M := by
  rcases e : M[n]? with _ | ⟨xs⟩ <;> simp only [b1Q, Q.items, e, okv, lstO]
theorem lst_t : b1Q .list (.v (.tup xs)) M = .ok (.tmp xs) M := rfl
theorem lst_m : b1Q .list (.tmp xs) M = .ok (.tmp xs) M := rfl
theorem lst_r {n : Nat} : b1Q .list (.v (.ref n)) M = lstO M[n]? M fun xs => .ok (.tmp xs) M := by
  rcases e : M[n]? with _ | ⟨xs⟩ <;> simp only [b1Q, Q.items, e, okv, lstO]
theorem blsOf_map : ∀ bs : List Bool, blsOf (bs.map .bl) = some bs
  | [] => rfl
  | b :: bs => by simp [blsOf, blsOf_map bs]
theorem intsOf_map : ∀ bs : List Int, intsOf (bs.map .int) = some bs
  | [] => rfl
  | b :: bs => by simp [intsOf, intsOf_map bs]
theorem all_m {bs : List Bool} : b1Q .all (.tmp (bs.map .bl)) M = .ok (.v (.bl (bs.all id))) M := by
  simp only [b1Q, Q.items, Option.bind_some, blsOf_map, okv]
theorem any_m {bs : List Bool} : b1Q .any (.tmp (bs.map .bl)) M = .ok (.v (.bl (bs.any id))) M := by
  simp only [b1Q, Q.items, Option.bind_some, blsOf_map, okv]
theorem sum_m {bs : List Int} : b1Q .sum (.tmp (bs.map .int)) M = .ok (.v (.int bs.sum)) M := by
  simp only [b1Q, Q.items, Option.bind_some, intsOf_map, okv]
theorem all_tu {bs : List Bool} : b1Q .all (.v (.tup (bs.map .bl))) M = .ok (.v (.bl (bs.all id))) M := by
  simp only [b1Q, Q.items, Option.bind_some, blsOf_map, okv]
theorem any_tu {bs : List Bool} : b1Q .any (.v (.tup (bs.map .bl))) M = .ok (.v (.bl (bs.any id))) M := by
  simp only [b1Q, Q.items, Option.bind_some, blsOf_map, okv]
theorem sum_tu {bs : List Int} : b1Q .sum (.v (.tup (bs.map .int))) M = .ok (.v (.int bs.sum)) M := by
  simp only [b1Q, Q.items, Option.bind_some, intsOf_map, okv]
theorem sorted_tu {ns : List Int} : b1Q .sorted (.v (.tup (ns.map .int))) M = .ok (.tmp ((ns.mergeSort fun a b => decide (a ≤ b)).map .int)) M := by
  simp only [b1Q, Q.items, Option.bind_some, intsOf_map]
theorem min_i : b2Q .min (.v (.int i)) (.v (.int j)) M = .ok (.v (.int (if j < i then j else i))) M := rfl
theorem max_i : b2Q .max (.v (.int i)) (.v (.int j)) M = .ok (.v (.int (if j > i then j else i))) M := rfl
def appO (o : Option MO) (n : Nat) (d : D) (M : Store) : R Q := match o with
  | some (.lst xs) => if xs.length < lim then .ok (.v .non) (M.set n (.lst (xs ++ [d]))) else .no
  | none => .no
theorem appO_some {n : Nat} (h : xs.length < lim) : appO (some (.lst xs)) n d M = .ok (.v .non) (M.set n (.lst (xs ++ [d]))) := by
  unfold appO; simp only [if_pos h]
theorem app_r {n : Nat} : m1Q .append (.v (.ref n)) (.v d) M = appO M[n]? n d M := by
  rcases e : M[n]? with _ | ⟨xs⟩ <;> simp only [m1Q, e, okv, appO]
def extO (o : Option MO) (n : Nat) (ys : List D) (M : Store) : R Q := match o with
  | some (.lst xs) => if xs.length + ys.length ≤ lim then .ok (.v .non) (M.set n (.lst (xs ++ ys))) else .no
  | none => .no
theorem extO_some {n : Nat} (h : xs.length + ys.length ≤ lim) : extO (some (.lst xs)) n ys M = .ok (.v .non) (M.set n (.lst (xs ++ ys))) := by
  unfold extO; simp only [if_pos h]
theorem ext_m {n : Nat} : m1Q .extend (.v (.ref n)) (.tmp ys) M = extO M[n]? n ys M := by
  rcases e : M[n]? with _ | ⟨xs⟩ <;> simp only [m1Q, e, okv, extO, Q.lst?]
theorem ext_r {n m : Nat} : m1Q .extend (.v (.ref n)) (.v (.ref m)) M = lstO M[m]? M fun ys => extO M[n]? n ys M := by
  rcases e : M[n]? with _ | ⟨xs⟩ <;> rcases e' : M[m]? with _ | ⟨ys⟩ <;> simp only [m1Q, e, e', okv, extO, Q.lst?, lstO]
def popO (o : Option MO) (n : Nat) (M : Store) : R Q := match o with
  | some (.lst xs) => match xs[xs.length - 1]? with
      | some d => .ok (.v d) (M.set n (.lst xs.dropLast))
      | none => .no
  | none => .no
theorem pop_r {n : Nat} : m0Q .pop (.v (.ref n)) M = popO M[n]? n M := by
  rcases e : M[n]? with _ | ⟨xs⟩ <;> simp only [m0Q, e, okv, popO] <;> rfl
theorem popO_some {n : Nat} : popO (some (.lst (xs ++ [d]))) n M = .ok (.v d) (M.set n (.lst xs)) := by
  simp [popO]
def setO (o : Option MO) (n : Nat) (i : Int) (d : D) (M : Store) : Option Store := match o with
  | some (.lst xs) => (ixNat xs.length i).map fun j => M.set n (.lst (xs.set j d))
  | none => none
theorem six_r {n : Nat} : setIxQ (.v (.ref n)) (.v (.int i)) d M = setO M[n]? n i d M := by
  rcases e : M[n]? with _ | ⟨xs⟩ <;> simp only [setIxQ, e, setO]
theorem setO_some {n : Nat} (h : 0 ≤ i) (h2 : i.toNat < xs.length) : setO (some (.lst xs)) n i d M = some (M.set n (.lst (xs.set i.toNat d))) := by
  simp only [setO, ixNat_nn h, if_pos h2, Option.map_some]
theorem asg_n {k : Nat} : asgT (.name k) d τ = some (τ.set k (some d)) := by rw [asgT]
theorem asg_t {ks : List Nat} : asgT (.tup ks) (.tup xs) τ = setAll ks xs τ := by rw [asgT]
theorem asg_nst {ts : List Tg} : asgT (.nst ts) (.tup xs) τ = asgTs ts xs τ := by rw [asgT]
theorem ats_nil : asgTs [] [] τ = some τ := by rw [asgTs]
theorem ats_cons {t : Tg} {ts : List Tg} : asgTs (t :: ts) (d :: xs) τ = (asgT t d τ).bind fun τ1 => asgTs ts xs τ1 := by rw [asgTs]
theorem sa_nil : setAll [] [] τ = some τ := rfl
theorem sa_cons {k : Nat} {ks : List Nat} : setAll (k :: ks) (d :: xs) τ = setAll ks xs (τ.set k (some d)) := rfl
theorem aug_add : augQ .Add (.v (.int i)) (.v (.int j)) M = .ok (.int (i + j)) M := rfl
theorem aug_sub : augQ .Sub (.v (.int i)) (.v (.int j)) M = .ok (.int (i - j)) M := rfl
theorem lcQ_ok {elt : E} {tg : Tg} {cond : Eo} {own : List Nat} {s : Src} {ds : List D} {M1 : Store} (hl : s.xs.length ≤ lim) (h : lcLoop s.live s.xs.length tg (wipeD τ own) (fun τ M => evc G cond τ M) (fun τ M => evD (evq G elt τ M)) 0 s.xs M = .ok ds M1) : lcQ G elt tg cond own τ s M = .ok (.tmp ds) M1 := by
  unfold lcQ
  rw [if_pos hl, h]; rfl
end
/-! ### errors -/
theorem isA_all : (Xc.isA .BadName .RecordError = true) ∧ (Xc.isA .BadName .DataError = true) ∧ (Xc.isA .BadName .CallError = false) ∧ (Xc.isA .BadName .TextError = false) ∧ (Xc.isA .BadName .AskError = false) ∧ (Xc.isA .BadName .BadName = true) ∧ (Xc.isA .BadName .BadFields = false) ∧ (Xc.isA .BadName .BadLadder = false) ∧ (Xc.isA .BadName .BadReading = false) ∧ (Xc.isA .BadName .BadSight = false) ∧ (Xc.isA .BadName .BadStep = false) ∧ (Xc.isA .BadName .BadText = false) ∧ (Xc.isA .BadName .BadCommand = false) ∧ (Xc.isA .BadName .NoSuch = false) ∧ (Xc.isA .BadName .Taken = false) ∧ (Xc.isA .BadFields .RecordError = true) ∧ (Xc.isA .BadFields .DataError = true) ∧ (Xc.isA .BadFields .CallError = false) ∧ (Xc.isA .BadFields .TextError = false) ∧ (Xc.isA .BadFields .AskError = false) ∧ (Xc.isA .BadFields .BadName = false) ∧ (Xc.isA .BadFields .BadFields = true) ∧ (Xc.isA .BadFields .BadLadder = false) ∧ (Xc.isA .BadFields .BadReading = false) ∧ (Xc.isA .BadFields .BadSight = false) ∧ (Xc.isA .BadFields .BadStep = false) ∧ (Xc.isA .BadFields .BadText = false) ∧ (Xc.isA .BadFields .BadCommand = false) ∧ (Xc.isA .BadFields .NoSuch = false) ∧ (Xc.isA .BadFields .Taken = false) ∧ (Xc.isA .BadLadder .RecordError = true) ∧ (Xc.isA .BadLadder .DataError = true) ∧ (Xc.isA .BadLadder .CallError = false) ∧ (Xc.isA .BadLadder .TextError = false) ∧ (Xc.isA .BadLadder .AskError = false) ∧ (Xc.isA .BadLadder .BadName = false) ∧ (Xc.isA .BadLadder .BadFields = false) ∧ (Xc.isA .BadLadder .BadLadder = true) ∧ (Xc.isA .BadLadder .BadReading = false) ∧ (Xc.isA .BadLadder .BadSight = false) ∧ (Xc.isA .BadLadder .BadStep = false) ∧ (Xc.isA .BadLadder .BadText = false) ∧ (Xc.isA .BadLadder .BadCommand = false) ∧ (Xc.isA .BadLadder .NoSuch = false) ∧ (Xc.isA .BadLadder .Taken = false) ∧ (Xc.isA .BadReading .RecordError = true) ∧ (Xc.isA .BadReading .DataError = true) ∧ (Xc.isA .BadReading .CallError = false) ∧ (Xc.isA .BadReading .TextError = false) ∧ (Xc.isA .BadReading .AskError = false) ∧ (Xc.isA .BadReading .BadName = false) ∧ (Xc.isA .BadReading .BadFields = false) ∧ (Xc.isA .BadReading .BadLadder = false) ∧ (Xc.isA .BadReading .BadReading = true) ∧ (Xc.isA .BadReading .BadSight = false) ∧ (Xc.isA .BadReading .BadStep = false) ∧ (Xc.isA .BadReading .BadText = false) ∧ (Xc.isA .BadReading .BadCommand = false) ∧ (Xc.isA .BadReading .NoSuch = false) ∧ (Xc.isA .BadReading .Taken = false) ∧ (Xc.isA .BadSight .RecordError = true) ∧ (Xc.isA .BadSight .DataError = true) ∧ (Xc.isA .BadSight .CallError = false) ∧ (Xc.isA .BadSight .TextError = false) ∧ (Xc.isA .BadSight .AskError = false) ∧ (Xc.isA .BadSight .BadName = false) ∧ (Xc.isA .BadSight .BadFields = false) ∧ (Xc.isA .BadSight .BadLadder = false) ∧ (Xc.isA .BadSight .BadReading = false) ∧ (Xc.isA .BadSight .BadSight = true) ∧ (Xc.isA .BadSight .BadStep = false) ∧ (Xc.isA .BadSight .BadText = false) ∧ (Xc.isA .BadSight .BadCommand = false) ∧ (Xc.isA .BadSight .NoSuch = false) ∧ (Xc.isA .BadSight .Taken = false) ∧ (Xc.isA .BadStep .RecordError = true) ∧ (Xc.isA .BadStep .DataError = false) ∧ (Xc.isA .BadStep .CallError = true) ∧ (Xc.isA .BadStep .TextError = false) ∧ (Xc.isA .BadStep .AskError = false) ∧ (Xc.isA .BadStep .BadName = false) ∧ (Xc.isA .BadStep .BadFields = false) ∧ (Xc.isA .BadStep .BadLadder = false) ∧ (Xc.isA .BadStep .BadReading = false) ∧ (Xc.isA .BadStep .BadSight = false) ∧ (Xc.isA .BadStep .BadStep = true) ∧ (Xc.isA .BadStep .BadText = false) ∧ (Xc.isA .BadStep .BadCommand = false) ∧ (Xc.isA .BadStep .NoSuch = false) ∧ (Xc.isA .BadStep .Taken = false) ∧ (Xc.isA .BadText .RecordError = true) ∧ (Xc.isA .BadText .DataError = false) ∧ (Xc.isA .BadText .CallError = false) ∧ (Xc.isA .BadText .TextError = true) ∧ (Xc.isA .BadText .AskError = false) ∧ (Xc.isA .BadText .BadName = false) ∧ (Xc.isA .BadText .BadFields = false) ∧ (Xc.isA .BadText .BadLadder = false) ∧ (Xc.isA .BadText .BadReading = false) ∧ (Xc.isA .BadText .BadSight = false) ∧ (Xc.isA .BadText .BadStep = false) ∧ (Xc.isA .BadText .BadText = true) ∧ (Xc.isA .BadText .BadCommand = false) ∧ (Xc.isA .BadText .NoSuch = false) ∧ (Xc.isA .BadText .Taken = false) ∧ (Xc.isA .BadCommand .RecordError = true) ∧ (Xc.isA .BadCommand .DataError = false) ∧ (Xc.isA .BadCommand .CallError = false) ∧ (Xc.isA .BadCommand .TextError = true) ∧ (Xc.isA .BadCommand .AskError = false) ∧ (Xc.isA .BadCommand .BadName = false) ∧ (Xc.isA .BadCommand .BadFields = false) ∧ (Xc.isA .BadCommand .BadLadder = false) ∧ (Xc.isA .BadCommand .BadReading = false) ∧ (Xc.isA .BadCommand .BadSight = false) ∧ (Xc.isA .BadCommand .BadStep = false) ∧ (Xc.isA .BadCommand .BadText = false) ∧ (Xc.isA .BadCommand .BadCommand = true) ∧ (Xc.isA .BadCommand .NoSuch = false) ∧ (Xc.isA .BadCommand .Taken = false) ∧ (Xc.isA .NoSuch .RecordError = true) ∧ (Xc.isA .NoSuch .DataError = false) ∧ (Xc.isA .NoSuch .CallError = false) ∧ (Xc.isA .NoSuch .TextError = false) ∧ (Xc.isA .NoSuch .AskError = true) ∧ (Xc.isA .NoSuch .BadName = false) ∧ (Xc.isA .NoSuch .BadFields = false) ∧ (Xc.isA .NoSuch .BadLadder = false) ∧ (Xc.isA .NoSuch .BadReading = false) ∧ (Xc.isA .NoSuch .BadSight = false) ∧ (Xc.isA .NoSuch .BadStep = false) ∧ (Xc.isA .NoSuch .BadText = false) ∧ (Xc.isA .NoSuch .BadCommand = false) ∧ (Xc.isA .NoSuch .NoSuch = true) ∧ (Xc.isA .NoSuch .Taken = false) ∧ (Xc.isA .Taken .RecordError = true) ∧ (Xc.isA .Taken .DataError = false) ∧ (Xc.isA .Taken .CallError = false) ∧ (Xc.isA .Taken .TextError = false) ∧ (Xc.isA .Taken .AskError = true) ∧ (Xc.isA .Taken .BadName = false) ∧ (Xc.isA .Taken .BadFields = false) ∧ (Xc.isA .Taken .BadLadder = false) ∧ (Xc.isA .Taken .BadReading = false) ∧ (Xc.isA .Taken .BadSight = false) ∧ (Xc.isA .Taken .BadStep = false) ∧ (Xc.isA .Taken .BadText = false) ∧ (Xc.isA .Taken .BadCommand = false) ∧ (Xc.isA .Taken .NoSuch = false) ∧ (Xc.isA .Taken .Taken = true) := ⟨rfl, rfl, rfl, rfl, rfl, rfl, rfl, rfl, rfl, rfl, rfl, rfl, rfl, rfl, rfl, rfl, rfl, rfl, rfl, rfl, rfl, rfl, rfl, rfl, rfl, rfl, rfl, rfl, rfl, rfl, rfl, rfl, rfl, rfl, rfl, rfl, rfl, rfl, rfl, rfl, rfl, rfl, rfl, rfl, rfl, rfl, rfl, rfl, rfl, rfl, rfl, rfl, rfl, rfl, rfl, rfl, rfl, rfl, rfl, rfl, rfl, rfl, rfl, rfl, rfl, rfl, rfl, rfl, rfl, rfl, rfl, rfl, rfl, rfl, rfl, rfl, rfl, rfl, rfl, rfl, rfl, rfl, rfl, rfl, rfl, rfl, rfl, rfl, rfl, rfl, rfl, rfl, rfl, rfl, rfl, rfl, rfl, rfl, rfl, rfl, rfl, rfl, rfl, rfl, rfl, rfl, rfl, rfl, rfl, rfl, rfl, rfl, rfl, rfl, rfl, rfl, rfl, rfl, rfl, rfl, rfl, rfl, rfl, rfl, rfl, rfl, rfl, rfl, rfl, rfl, rfl, rfl, rfl, rfl, rfl, rfl, rfl, rfl, rfl, rfl, rfl, rfl, rfl, rfl, rfl, rfl, rfl, rfl, rfl, rfl⟩
theorem fl_BadName_at_ {a : D} : List.lookup Fd.at_ (List.zip (Xc.fds .BadName) [a]) = some a := rfl
theorem fl_BadFields_at_ {a b : D} : List.lookup Fd.at_ (List.zip (Xc.fds .BadFields) [a, b]) = some a := rfl
theorem fl_BadFields_word {a b : D} : List.lookup Fd.word (List.zip (Xc.fds .BadFields) [a, b]) = some b := rfl
theorem fl_BadLadder_at_ {a b : D} : List.lookup Fd.at_ (List.zip (Xc.fds .BadLadder) [a, b]) = some a := rfl
theorem fl_BadLadder_word {a b : D} : List.lookup Fd.word (List.zip (Xc.fds .BadLadder) [a, b]) = some b := rfl
theorem fl_BadReading_at_ {a b : D} : List.lookup Fd.at_ (List.zip (Xc.fds .BadReading) [a, b]) = some a := rfl
theorem fl_BadReading_word {a b : D} : List.lookup Fd.word (List.zip (Xc.fds .BadReading) [a, b]) = some b := rfl
theorem fl_BadSight_at_ {a : D} : List.lookup Fd.at_ (List.zip (Xc.fds .BadSight) [a]) = some a := rfl
theorem fl_BadStep_word {a : D} : List.lookup Fd.word (List.zip (Xc.fds .BadStep) [a]) = some a := rfl
theorem fl_BadText_line {a b : D} : List.lookup Fd.line (List.zip (Xc.fds .BadText) [a, b]) = some a := rfl
theorem fl_BadText_word {a b : D} : List.lookup Fd.word (List.zip (Xc.fds .BadText) [a, b]) = some b := rfl
theorem fl_BadCommand_line {a : D} : List.lookup Fd.line (List.zip (Xc.fds .BadCommand) [a]) = some a := rfl
theorem fl_NoSuch_word {a b : D} : List.lookup Fd.word (List.zip (Xc.fds .NoSuch) [a, b]) = some a := rfl
theorem fl_NoSuch_name {a b : D} : List.lookup Fd.name (List.zip (Xc.fds .NoSuch) [a, b]) = some b := rfl
theorem fl_Taken_name {a : D} : List.lookup Fd.name (List.zip (Xc.fds .Taken) [a]) = some a := rfl
section
variable {c d : Xc} {ds : List D} {τ : Sl} {M : Store} {G : Gam} {q : Q} {hs : List Hd}
def raisS (c : Xc) (τ : Sl) (ds : List D) (M1 : Store) : RS := if ds.length = c.fds.length then .ex c ds τ M1 else .no
theorem raisS_ok (h : ds.length = c.fds.length) : raisS c τ ds M = .ex c ds τ M := if_pos h
theorem r_rais {es : Es} : run G (.rais c es) τ M = (evs G es τ M).st τ (raisS c τ) := by rw [run]; rfl
theorem r_try {b : List S} : run G (.tryX b hs) τ M = tryR hs (runs G b τ M) := by rw [run]
theorem try_nx : tryR hs (.nx τ M) = .nx τ M := rfl
theorem try_rt {d : D} : tryR hs (.rt d M) = .rt d M := rfl
theorem try_ex : tryR hs (.ex c ds τ M) = hands c ds τ M hs := rfl
def handR (b k : Bool) (x y : RS) : RS := if b then (if k then x else .no) else y
theorem handR_t {x y : RS} : handR true true x y = x := rfl
theorem handR_f {k : Bool} {x y : RS} : handR false k x y = y := rfl
theorem hands_nil : hands c ds τ M [] = .ex c ds τ M := rfl
theorem hands_cons {si : Option Nat} {b : List XS} : hands c ds τ M (⟨d, si, b⟩ :: hs) = handR (c.isA d) (slotOk si τ) (xend (wipeO si τ) M (xruns c ds (wipeO si τ) b)) (hands c ds τ M hs) := rfl
theorem sok_none : slotOk none τ = true := rfl
theorem sok_some {i : Nat} : slotOk (some i) τ = decide (i < τ.length) := rfl
theorem wipeO_none : wipeO none τ = τ := rfl
theorem wipeO_some {i : Nat} : wipeO (some i) τ = τ.set i none := rfl
theorem xend_nx : xend τ M .nx = .nx τ M := rfl
theorem xend_v {d : D} : xend τ M (.rt (.v d)) = .rt d M := rfl
theorem xend_tmp {xs : List D} : xend τ M (.rt (.tmp xs)) = .rt (.ref M.length) (M ++ [.lst xs]) := rfl
def xseq (c : Xc) (ds : List D) (τ : Sl) (r : List XS) : XR → XR
  | .nx => xruns c ds τ r
  | o => o
theorem xs_nil : xruns c ds τ [] = .nx := by rw [xruns]
theorem xs_cons {s : XS} {r : List XS} : xruns c ds τ (s :: r) = xseq c ds τ r (xrun c ds τ s) := by
  rw [xruns]
  cases xrun c ds τ s <;> rfl
theorem xseq_nx {r : List XS} : xseq c ds τ r .nx = xruns c ds τ r := rfl
theorem xseq_rt {r : List XS} : xseq c ds τ r (.rt q) = .rt q := rfl
def xretO : Option Q → XR
  | some q => .rt q
  | none => .no
theorem xretO_some : xretO (some q) = .rt q := rfl
theorem x_ret {e : XE} : xrun c ds τ (.ret e) = xretO (xev c ds τ e) := by
  rw [xrun]
  cases xev c ds τ e <;> rfl
theorem x_pass : xrun c ds τ .pass = .nx := by rw [xrun]
def xif (b : Bool) (x y : XR) : XR := if b then x else y
theorem xif_t {x y : XR} : xif true x y = x := rfl
theorem xif_f {x y : XR} : xif false x y = y := rfl
theorem x_ife {t : XT} {a b : List XS} : xrun c ds τ (.ife t a b) = xif (xt c t) (xruns c ds τ a) (xruns c ds τ b) := by rw [xrun]; rfl
theorem t_isx : xt c (.isx d) = c.isA d := rfl
theorem t_isxs {l : List Xc} : xt c (.isxs l) = l.any fun d => c.isA d := rfl
theorem t_not {t : XT} : xt c (.not t) = !(xt c t) := rfl
theorem t_and {t u : XT} : xt c (.and t u) = (xt c t && xt c u) := rfl
theorem t_or {t u : XT} : xt c (.or t u) = (xt c t || xt c u) := rfl
theorem e_non : xev c ds τ .non = some (.v .non) := by rw [xev]
theorem e_bl {b : Bool} : xev c ds τ (.bl b) = some (.v (.bl b)) := by rw [xev]
theorem e_int {i : Int} : xev c ds τ (.int i) = some (.v (.int i)) := by rw [xev]
theorem e_str {z : Str} : xev c ds τ (.str z) = some (.v (.str z)) := by rw [xev]
def xslot : Option (Option D) → Option Q
  | some (some d) => some (.v d)
  | _ => none
theorem xslot_some {d : D} : xslot (some (some d)) = some (.v d) := rfl
theorem e_var {i : Nat} : xev c ds τ (.var i) = xslot τ[i]? := by
  rw [xev]
  rcases τ[i]? with _ | _ | _ <;> rfl
theorem e_fld {f : Fd} : xev c ds τ (.fld f) = ((c.fds.zip ds).lookup f).map .v := by rw [xev]
def xifE (b : Bool) (x y : Option Q) : Option Q := if b then x else y
theorem xifE_t {x y : Option Q} : xifE true x y = x := rfl
theorem xifE_f {x y : Option Q} : xifE false x y = y := rfl
theorem e_ife {t : XT} {a b : XE} : xev c ds τ (.ife t a b) = xifE (xt c t) (xev c ds τ a) (xev c ds τ b) := by rw [xev]; rfl
def xtup (o : Option (List D)) : Option Q := match o with
  | some ds => if ds.length ≤ 1000 then some (.v (.tup ds)) else none
  | none => none
def xlst (o : Option (List D)) : Option Q := match o with
  | some ds => if ds.length ≤ 1000 then some (.tmp ds) else none
  | none => none
theorem xtup_some {xs : List D} (h : xs.length ≤ 1000) : xtup (some xs) = some (.v (.tup xs)) := if_pos h
theorem xlst_some {xs : List D} (h : xs.length ≤ 1000) : xlst (some xs) = some (.tmp xs) := if_pos h
theorem e_tup {es : XEs} : xev c ds τ (.tup es) = xtup (xevs c ds τ es) := by
  rw [xev]
  cases xevs c ds τ es <;> rfl
theorem e_lst {es : XEs} : xev c ds τ (.lst es) = xlst (xevs c ds τ es) := by
  rw [xev]
  cases xevs c ds τ es <;> rfl
theorem es_nil : xevs c ds τ .nil = some [] := by rw [xevs]
def xcons (o : Option Q) (l : Option (List D)) : Option (List D) := match o with
  | some (.v d) => l.map (d :: ·)
  | _ => none
theorem xcons_some {d : D} {l : List D} : xcons (some (.v d)) (some l) = some (d :: l) := rfl
theorem es_cons {e : XE} {es : XEs} : xevs c ds τ (.cons e es) = xcons (xev c ds τ e) (xevs c ds τ es) := by
  rw [xevs]
  rcases xev c ds τ e with _ | q
  · rfl
  · cases q with
    | tmp _ => rfl
    | v d => cases xevs c ds τ es <;> rfl
end
section
variable {e : E} {τ : Sl} {M : Store} {G : Gam} {xs : List D}
theorem v_rev : evq G (.rev e) τ M = (evq G e τ M).bind revQ := by rw [evq]
theorem rev_m : revQ (.tmp xs) M = .ok (.tmp xs.reverse) M := rfl
theorem rev_r {n : Nat} : revQ (.v (.ref n)) M = lstO M[n]? M fun xs => .ok (.tmp xs.reverse) M := by
  rcases e : M[n]? with _ | ⟨xs⟩ <;> simp only [revQ, Q.items, e, lstO]
theorem sl_t {lo hi : Option Int} : slQ (.v (.tup xs)) lo hi M = .ok (.v (.tup (cut xs lo hi))) M := rfl
theorem sl_m {lo hi : Option Int} : slQ (.tmp xs) lo hi M = .ok (.tmp (cut xs lo hi)) M := rfl
theorem sl_f {lo hi : Option Int} : slQ (.v (.fzl xs)) lo hi M = .ok (.tmp (cut xs lo hi)) M := rfl
theorem sl_r {n : Nat} {lo hi : Option Int} : slQ (.v (.ref n)) lo hi M = lstO M[n]? M fun xs => .ok (.tmp (cut xs lo hi)) M := by
  rcases e : M[n]? with _ | ⟨xs⟩ <;> simp only [slQ, Q.items, e, lstO]
def addO (o : Option MO) (ys : List D) (M : Store) : R Q := match o with
  | some (.lst xs) => if xs.length + ys.length ≤ lim then .ok (.tmp (xs ++ ys)) M else .no
  | none => .no
theorem addO_some {ys : List D} (h : xs.length + ys.length ≤ lim) : addO (some (.lst xs)) ys M = .ok (.tmp (xs ++ ys)) M := by
  unfold addO; simp only [if_pos h]
theorem bn_rm {n : Nat} {ys : List D} : binQ .Add (.v (.ref n)) (.tmp ys) M = addO M[n]? ys M := by
  rcases e : M[n]? with _ | ⟨xs⟩ <;> simp only [binQ, addQ, Q.lst?, e, addO]
theorem bn_mm {ys : List D} (h : xs.length + ys.length ≤ lim) : binQ .Add (.tmp xs) (.tmp ys) M = .ok (.tmp (xs ++ ys)) M := by
  simp only [binQ, addQ, Q.lst?, if_pos h]
end
def fnO (x : RS) : R D := match x with
  | .nx _ M1 => .ok .non M1
  | .rt d M1 => .ok d M1
  | .ex c fs _ M1 => .ex c fs M1
  | _ => .no
theorem fn_eq {G : Gam} {n : Nat} {body : List S} {ds : List D} {M : Store} : fnR G n body ds M = fnO (runs G body (ds.map some ++ List.replicate (n - ds.length) none) M) := rfl
theorem fnO_nx {τ : Sl} {M : Store} : fnO (.nx τ M) = .ok .non M := rfl
theorem fnO_rt {d : D} {M : Store} : fnO (.rt d M) = .ok d M := rfl
theorem fnO_ex {c : Xc} {fs : List D} {τ : Sl} {M : Store} : fnO (.ex c fs τ M) = .ex c fs M := rfl
theorem at_mid (M : Store) (c : MO) (G : Store) : (M ++ c :: G)[M.length]? = some c := by
  rw [List.getElem?_append_right (Nat.le_refl _), Nat.sub_self]; rfl
theorem set_mid (M : Store) (c d : MO) (G : Store) : (M ++ c :: G).set M.length d = M ++ d :: G := by
  rw [List.set_append_right _ _ (Nat.le_refl _), Nat.sub_self]; rfl
theorem ty_ne : ((Ty.int == Ty.bool) = false) ∧ ((Ty.int == Ty.str) = false) ∧ ((Ty.int == Ty.tuple) = false) ∧ ((Ty.int == Ty.list) = false) ∧ ((Ty.int == Ty.none) = false) ∧ ((Ty.bool == Ty.int) = false) ∧ ((Ty.bool == Ty.str) = false) ∧ ((Ty.bool == Ty.tuple) = false) ∧ ((Ty.bool == Ty.list) = false) ∧ ((Ty.bool == Ty.none) = false) ∧ ((Ty.str == Ty.int) = false) ∧ ((Ty.str == Ty.bool) = false) ∧ ((Ty.str == Ty.tuple) = false) ∧ ((Ty.str == Ty.list) = false) ∧ ((Ty.str == Ty.none) = false) ∧ ((Ty.tuple == Ty.int) = false) ∧ ((Ty.tuple == Ty.bool) = false) ∧ ((Ty.tuple == Ty.str) = false) ∧ ((Ty.tuple == Ty.list) = false) ∧ ((Ty.tuple == Ty.none) = false) ∧ ((Ty.list == Ty.int) = false) ∧ ((Ty.list == Ty.bool) = false) ∧ ((Ty.list == Ty.str) = false) ∧ ((Ty.list == Ty.tuple) = false) ∧ ((Ty.list == Ty.none) = false) ∧ ((Ty.none == Ty.int) = false) ∧ ((Ty.none == Ty.bool) = false) ∧ ((Ty.none == Ty.str) = false) ∧ ((Ty.none == Ty.tuple) = false) ∧ ((Ty.none == Ty.list) = false) := ⟨rfl, rfl, rfl, rfl, rfl, rfl, rfl, rfl, rfl, rfl, rfl, rfl, rfl, rfl, rfl, rfl, rfl, rfl, rfl, rfl, rfl, rfl, rfl, rfl, rfl, rfl, rfl, rfl, rfl, rfl⟩
/-- one plain statement -/
theorem ens_step {G : Gam} {s : S} {r : List S} {τ τ1 : Sl} {M M1 : Store} {P : Sl → Store → Prop} {Q : D → Store → Prop} (h : run G s τ M = .nx τ1 M1) (h2 : (runs G r τ1 M1).ens P Q) : (runs G (s :: r) τ M).ens P Q := by
  rw [runs_cons, h]; exact h2
theorem ens_seq {G : Gam} {x : RS} {r : List S} {P : Sl → Store → Prop} {Q : D → Store → Prop} (h : x.ens (fun τ M => (runs G r τ M).ens P Q) Q) : (x.seq G r).ens P Q := ens_then h
theorem ens_rt {d : D} {M : Store} {P : Sl → Store → Prop} {Q : D → Store → Prop} (h : Q d M) : (RS.rt d M).ens P Q := .rt h
theorem ens_nx {τ : Sl} {M : Store} {P : Sl → Store → Prop} {Q : D → Store → Prop} (h : P τ M) : (RS.nx τ M).ens P Q := .nx h
/-- a for over what stands still -/
theorem forQ_ens {G : Gam} {t : Tg} {b : List S} {xs : List D} {τ : Sl} {M : Store} {Q : D → Store → Prop} (P : Nat → Sl → Store → Prop) (h0 : P 0 τ M)
    (hs : ∀ (j : Nat) x τ M, xs[j]? = some x → P j τ M → ∃ τ1, asgT t x τ = some τ1 ∧ ((runs G b τ1 M).ens (P (j + 1)) Q ∨ ∃ τ2 M2, runs G b τ1 M = .ct τ2 M2 ∧ P (j + 1) τ2 M2)) {P' : Sl → Store → Prop} (hP : ∀ τ M, P xs.length τ M → P' τ M) : (forQ G t b ⟨none, xs⟩ τ M).ens P' Q :=
  RS.ens.mono (for_ens P xs 0 τ M h0 fun j x τ M e p => by
    rw [Nat.zero_add] at p ⊢
    exact hs j x τ M e p) (fun τ M p => hP τ M (by rw [Nat.zero_add] at p; exact p)) fun _ _ q => q
theorem whlQ_ens {G : Gam} {c : E} {b : List S} {P' : Sl → Store → Prop} {Q : D → Store → Prop} (P : Nat → Sl → Store → Prop)
    (hs : ∀ m τ M, P m τ M → (tst (evq G c τ M)).ens fun x M1 => (x = false → P' τ M1) ∧ (x = true → (runs G b τ M1).ens (fun τ2 M2 => ∃ m', m' < m ∧ P m' τ2 M2) Q)) (m : Nat) (τ : Sl) (M : Store) (h : P m τ M) : (whlQ G c b τ M).ens P' Q := while_ens P hs m τ M h

/-! ### dicts -/
section
variable {G : Gam} {τ : Sl} {M : Store} {e e1 e2 : E} {es : Es} {ds ps : List D} {d k v : D} {t : Bool} {n : Nat} {ks : List Key} {neg : Bool} {α : Type} {f : List D → R α}
theorem v_dnew : evq G (.dnew t) τ M = .ok (.v (.dct t M.length)) (M ++ [.lst []]) := by rw [evq]; rfl
noncomputable def dispQ (ks : List Key) (ds : List D) (M1 : Store) : R Q := if ds.length = ks.length then okv (.dct false M1.length) (M1 ++ [.lst (dfill ks ds [])]) else .no
noncomputable def dispR (b : Bool) (ks : List Key) (r : R (List D)) : R Q := if b then r.bind (dispQ ks) else .no
theorem v_disp : evq G (.disp ks es) τ M = dispR (dispOk ks) ks (evs G es τ M) := by rw [evq]; rfl
theorem dispR_t {r : R (List D)} : dispR true ks r = r.bind (dispQ ks) := rfl
theorem dispQ_ok (h : ds.length = ks.length) : dispQ ks ds M = .ok (.v (.dct false M.length)) (M ++ [.lst (dfill ks ds [])]) := if_pos h
theorem v_dget : evq G (.dget e1 e2) τ M = (evq G e1 τ M).bind fun x M1 => (evq G e2 τ M1).bind fun y M2 => dgetQ x y M2 := by rw [evq]
theorem v_din : evq G (.din neg e1 e2) τ M = (evq G e1 τ M).bind fun y M1 => (evq G e2 τ M1).bind fun x M2 => dinQ neg y x M2 := by rw [evq]
theorem r_dset : run G (.dset e1 e2 e) τ M = (evD (evq G e τ M)).st τ fun d M1 => (evq G e1 τ M1).st τ fun x M2 => (evq G e2 τ M2).st τ fun y M3 => nxm (dsetQ x y d M3) τ := by rw [run]; rfl
/-- a dict's pairs -/
def dR (b : Bool) (o : Option MO) (f : List D → R α) : R α := if b then (match o with
  | some (.lst ps) => f ps
  | none => .no) else .no
theorem dR_t : dR true (some (.lst ps)) f = f ps := rfl
def dlkO (o : Option D) (M : Store) : R Q := match o with
  | some v => okv v M
  | none => .no
theorem dlkO_some : dlkO (some v) M = .ok (.v v) M := rfl
theorem dget_d : dgetQ (.v (.dct t n)) (.v k) M = dR (keyOk t k) M[n]? fun ps => dlkO (dlook k ps) M := by
  rcases e : M[n]? with _ | ⟨xs⟩ <;> simp only [dgetQ, dR, e] <;> rfl
theorem din_d : dinQ neg (.v k) (.v (.dct t n)) M = dR (keyOk t k) M[n]? fun ps => .ok (.v (.bl (neg ^^ (dlook k ps).isSome))) M := by
  rcases e : M[n]? with _ | ⟨xs⟩ <;> simp only [dinQ, dR, e] <;> rfl
noncomputable def dsR (b : Bool) (o : Option MO) (n : Nat) (k v : D) (M : Store) (τ : Sl) : RS := nxm (if b then (match o with
    | some (.lst ps) => if ps.length < lim then some (M.set n (.lst (dput k v ps))) else none
    | none => none) else none) τ
theorem dset_d : nxm (dsetQ (.v (.dct t n)) (.v k) v M) τ = dsR (keyOk t k) M[n]? n k v M τ := by
  rcases e : M[n]? with _ | ⟨xs⟩ <;> simp only [dsetQ, dsR, e]
theorem dsR_ok (h : ps.length < lim) : dsR true (some (.lst ps)) n k v M τ = .nx τ (M.set n (.lst (dput k v ps))) := by
  unfold dsR
  simp only [h, if_true]
  rfl
theorem keyOk_i {i : Int} : keyOk false (.int i) = true := rfl
theorem keyOk_s {x : Str} : keyOk false (.str x) = true := rfl
theorem keyOk_ii {i j : Int} : keyOk true (.tup [.int i, .int j]) = true := rfl
theorem keyOk_si {x : Str} {j : Int} : keyOk true (.tup [.str x, .int j]) = true := rfl
theorem keyOk_is {x : Str} {j : Int} : keyOk true (.tup [.int j, .str x]) = true := rfl
theorem keyOk_iii {i j l : Int} : keyOk true (.tup [.int i, .int j, .int l]) = true := rfl
-- what stands under a key
theorem dlook_nil : dlook k [] = none := by unfold dlook; rfl
theorem dlook_same : dlook k (.tup [k, v] :: ps) = some v := by unfold dlook; exact if_pos rfl
theorem dlook_ne {a : D} (h : a ≠ k) : dlook k (.tup [a, v] :: ps) = dlook k ps := by
  rw [dlook]
  exact if_neg h
theorem dlook_app {qs : List D} (h : dlook k ps = none) : dlook k (ps ++ qs) = dlook k qs := by
  induction ps with
  | nil => rfl
  | cons p ps ih =>
    unfold dlook at h
    split at h
    · cases ‹_ :: _ = []›
    · rename_i a w r e
      cases e
      split at h
      · cases h
      · rename_i hn
        rw [List.cons_append, dlook_ne hn, ih h]
    · rename_i x r hx e
      cases e
      rw [List.cons_append]
      conv => lhs; unfold dlook
      split
      · cases ‹_ :: _ = []›
      · rename_i a w r' e'
        cases e'
        exact absurd rfl (hx _ _)
      · rename_i e'
        cases e'
        exact ih h
end
end Tri

set_option Elab.async false
set_option linter.all false
set_option maxRecDepth 100000
namespace Tri
open PySem PySem.Spec PyProof.Rows L2 RZ

theorem at_off (M G : Store) (k : Nat) : (M ++ G)[M.length + k]? = G[k]? := by
  rw [List.getElem?_append_right (Nat.le_add_right _ _), Nat.add_sub_cancel_left]
theorem set_off (M G : Store) (k : Nat) (c : MO) : (M ++ G).set (M.length + k) c = M ++ G.set k c := by
  rw [List.set_append_right _ _ (Nat.le_add_right _ _), Nat.add_sub_cancel_left]
/-- a for over a list that stands still -/
theorem for_live {n tot : Nat} {tg : Tg} {body : Sl → Store → RS} {Q : D → Store → Prop} {xs0 : List D} (P : Nat → Sl → Store → Prop) (ht : tot = xs0.length)
    (hl : ∀ j τ M, P j τ M → M[n]? = some (.lst xs0)) : ∀ (xs pre : List D) (τ : Sl) (M : Store), xs0 = pre ++ xs → P pre.length τ M →
    (∀ (j : Nat) x τ M, xs0[j]? = some x → P j τ M → ∃ τ1, asgT tg x τ = some τ1 ∧ (body τ1 M).ens (P (j + 1)) Q) →
    (forLoop (some n) tot tg body pre.length xs τ M).ens (P xs0.length) Q
  | [], pre, τ, M, e, h0, _ => by
    have := hl _ _ _ h0
    simp only [forLoop, endOk, this, ht, beq_self_eq_true, if_true]
    rw [List.append_nil] at e
    rw [e]
    exact .nx h0
  | x :: xs, pre, τ, M, e, h0, hs => by
    have hc := hl _ _ _ h0
    have hx : xs0[pre.length]? = some x := by rw [e, List.getElem?_append_right (Nat.le_refl _), Nat.sub_self]; rfl
    obtain ⟨τ1, e1, h1⟩ := hs pre.length x τ M hx h0
    simp only [forLoop, pick, hc, ht, beq_self_eq_true, if_true, hx, Option.bind_some, e1]
    cases eb : body τ1 M with
    | nx τ2 M2 =>
      rw [eb] at h1
      have := for_live (n := n) (tot := tot) (tg := tg) (body := body) (Q := Q) P ht hl xs (pre ++ [x]) τ2 M2 (by rw [e, List.append_assoc]; rfl) (by rw [List.length_append]; exact h1.nx') hs
      rw [List.length_append, ht] at this
      exact this
    | rt d M2 => rw [eb] at h1; exact .rt h1.rt'
    | _ => rw [eb] at h1; cases h1
theorem forQ_live {G : Gam} {t : Tg} {b : List S} {n : Nat} {xs : List D} {τ : Sl} {M : Store} {Q : D → Store → Prop} (P : Nat → Sl → Store → Prop) (h0 : P 0 τ M) (hl : ∀ j τ M, P j τ M → M[n]? = some (.lst xs))
    (hs : ∀ (j : Nat) x τ M, xs[j]? = some x → P j τ M → ∃ τ1, asgT t x τ = some τ1 ∧ (runs G b τ1 M).ens (P (j + 1)) Q) {P' : Sl → Store → Prop} (hP : ∀ τ M, P xs.length τ M → P' τ M) : (forQ G t b ⟨some n, xs⟩ τ M).ens P' Q :=
  RS.ens.mono (for_live P rfl hl xs [] τ M rfl h0 hs) hP fun _ _ q => q
/-- .. a comprehension -/
theorem lc_live {n tot : Nat} {tg : Tg} {τ : Sl} {cond : Sl → Store → R Bool} {elt : Sl → Store → R D} {M : Store} {xs0 : List D} (ht : tot = xs0.length) (hl : M[n]? = some (.lst xs0)) (p : D → Bool) (f : D → D) : ∀ (xs pre : List D), xs0 = pre ++ xs →
    (∀ x, x ∈ xs0 → ∃ τ1, asgT tg x τ = some τ1 ∧ cond τ1 M = .ok (p x) M ∧ (p x = true → elt τ1 M = .ok (f x) M)) → lcLoop (some n) tot tg τ cond elt pre.length xs M = .ok ((xs.filter p).map f) M
  | [], pre, e, _ => by simp only [lcLoop, endOk, hl, ht, beq_self_eq_true, if_true]; rfl
  | x :: xs, pre, e, h => by
    have hx : xs0[pre.length]? = some x := by rw [e, List.getElem?_append_right (Nat.le_refl _), Nat.sub_self]; rfl
    obtain ⟨τ1, e1, e2, e3⟩ := h x (by rw [e]; simp)
    have ih := lc_live (n := n) (tot := tot) (tg := tg) (τ := τ) (cond := cond) (elt := elt) (M := M) ht hl p f xs (pre ++ [x]) (by rw [e, List.append_assoc]; rfl) h
    rw [List.length_append] at ih
    simp only [List.length_cons, List.length_nil, Nat.zero_add] at ih
    rw [ht] at ih ⊢
    simp only [lcLoop, pick, hl, beq_self_eq_true, if_true, hx, Option.bind_some, e1, e2, R.bind]
    cases hp : p x with
    | false =>
      simp only [Bool.false_eq_true, if_false]
      rw [ih, List.filter_cons_of_neg (by rw [hp]; decide)]
    | true =>
      simp only [if_true, e3 hp]
      rw [ih, List.filter_cons_of_pos hp]
      rfl
theorem lcQ_pure {G : Gam} {elt : E} {tg : Tg} {cond : Eo} {own : List Nat} {τ : Sl} {xs : List D} {M : Store} (p : D → Bool) (f : D → D) (hl : xs.length ≤ lim)
    (h : ∀ x, x ∈ xs → ∃ τ1, asgT tg x (wipeD τ own) = some τ1 ∧ evc G cond τ1 M = .ok (p x) M ∧ (p x = true → evD (evq G elt τ1 M) = .ok (f x) M)) : lcQ G elt tg cond own τ ⟨none, xs⟩ M = .ok (.tmp ((xs.filter p).map f)) M :=
  lcQ_ok hl (lc_pure p f xs 0 h)
theorem lcQ_live {G : Gam} {elt : E} {tg : Tg} {cond : Eo} {own : List Nat} {τ : Sl} {xs : List D} {n : Nat} {M : Store} (p : D → Bool) (f : D → D) (hc : M[n]? = some (.lst xs)) (hl : xs.length ≤ lim)
    (h : ∀ x, x ∈ xs → ∃ τ1, asgT tg x (wipeD τ own) = some τ1 ∧ evc G cond τ1 M = .ok (p x) M ∧ (p x = true → evD (evq G elt τ1 M) = .ok (f x) M)) : lcQ G elt tg cond own τ ⟨some n, xs⟩ M = .ok (.tmp ((xs.filter p).map f)) M :=
  lcQ_ok hl (lc_live rfl hc p f xs [] rfl h)
/-- .. without a test -/
theorem lcQ_map {G : Gam} {elt : E} {tg : Tg} {own : List Nat} {τ : Sl} {xs : List D} {M : Store} (f : D → D) (hl : xs.length ≤ lim)
    (h : ∀ x, x ∈ xs → ∃ τ1, asgT tg x (wipeD τ own) = some τ1 ∧ evD (evq G elt τ1 M) = .ok (f x) M) : lcQ G elt tg .no own τ ⟨none, xs⟩ M = .ok (.tmp (xs.map f)) M := by
  have := lcQ_pure (G := G) (elt := elt) (tg := tg) (cond := .no) (own := own) (τ := τ) (xs := xs) (M := M) (fun _ => true) f hl fun x hx => by
    obtain ⟨τ1, e1, e2⟩ := h x hx
    exact ⟨τ1, e1, c_no, fun _ => e2⟩
  rw [this, List.filter_eq_self.mpr fun _ _ => rfl]
/-- .. whose turns change the store -/
theorem lcQ_ens {G : Gam} {elt : E} {tg : Tg} {own : List Nat} {τ : Sl} {xs : List D} {M : Store} (P : Nat → List D → Store → Prop) (hl : xs.length ≤ lim) (h0 : P 0 [] M)
    (h : ∀ (j : Nat) x acc M, xs[j]? = some x → P j acc M → ∃ τ1, asgT tg x (wipeD τ own) = some τ1 ∧ (evD (evq G elt τ1 M)).ens fun d M2 => P (j + 1) (acc ++ [d]) M2) : ∃ ds M', lcQ G elt tg .no own τ ⟨none, xs⟩ M = .ok (.tmp ds) M' ∧ P xs.length ds M' := by
  obtain ⟨ds, M', e, q⟩ := lc_ens (tot := xs.length) (tg := tg) (τ := wipeD τ own) (cond := fun τ M => evc G .no τ M) (elt := fun τ M => evD (evq G elt τ M)) P xs 0 [] M h0 fun j x acc M hx hp => by
    rw [Nat.zero_add] at hp ⊢
    obtain ⟨τ1, e1, h1⟩ := h j x acc M hx hp
    exact ⟨τ1, e1, true, M, c_no, (fun z => absurd z (by decide)), fun _ => h1⟩
  rw [Nat.zero_add, List.nil_append] at q
  exact ⟨ds, M', lcQ_ok hl e, q⟩
end Tri
namespace Tri
open PySem PySem.Spec PyProof.Rows L2 RZ
/-- two lists of the store, one behind the other -/
def catO (a b : Option MO) (M : Store) : R Q := match a, b with
  | some (.lst xs), some (.lst ys) => if xs.length + ys.length ≤ lim then .ok (.tmp (xs ++ ys)) M else .no
  | _, _ => .no
theorem catO_some {xs ys : List D} {M : Store} (h : xs.length + ys.length ≤ lim) : catO (some (.lst xs)) (some (.lst ys)) M = .ok (.tmp (xs ++ ys)) M := by
  simp only [catO, if_pos h]
theorem bn_addr {n m : Nat} {M : Store} : binQ .Add (.v (.ref n)) (.v (.ref m)) M = catO M[n]? M[m]? M := by
  rcases e : M[n]? with _ | ⟨xs⟩ <;> rcases e' : M[m]? with _ | ⟨ys⟩ <;> simp only [binQ, addQ, Q.lst?, e, e', catO]
theorem get_app {M G : Store} {k : Nat} {c : MO} (h : M[k]? = some c) : (M ++ G)[k]? = some c := by
  rw [List.getElem?_append_left (List.getElem?_eq_some_iff.mp h).1]
  exact h
end Tri

set_option Elab.async false
set_option linter.all false
set_option maxRecDepth 100000
set_option maxHeartbeats 4000000
/-! Plain facts that the laws share. -/
namespace Tri
open PySem PySem.Spec PyProof.Rows L2 RZ
mutual
/-- of numbers, texts and tuples of such: how many things -/
def szD : D → Nat
  | .tup xs => szDs xs + 1
  | _ => 1
def szDs : List D → Nat
  | [] => 0
  | x :: xs => szD x + szDs xs
end
mutual
def plainD : D → Bool
  | .tup xs => plainDs xs
  | .str x => PyData.strOk x
  | .ref _ => false
  | .fzl _ => false
  | .dct _ _ => false
  | _ => true
def plainDs : List D → Bool
  | [] => true
  | x :: xs => plainD x && plainDs xs
end
theorem szD_pos (d : D) : 0 < szD d := by cases d <;> simp [szD]
theorem len_le_szDs : ∀ xs : List D, xs.length ≤ szDs xs
  | [] => Nat.le_refl _
  | x :: xs => by
    have := len_le_szDs xs
    have := szD_pos x
    simp only [List.length_cons, szDs]
    omega
theorem szDs_append : ∀ xs ys : List D, szDs (xs ++ ys) = szDs xs + szDs ys
  | [], ys => by simp [szDs]
  | x :: xs, ys => by rw [List.cons_append, szDs, szDs, szDs_append xs ys]; omega
theorem plainDs_append : ∀ xs ys : List D, plainDs (xs ++ ys) = (plainDs xs && plainDs ys)
  | [], ys => by simp [plainDs]
  | x :: xs, ys => by rw [List.cons_append, plainDs, plainDs, plainDs_append xs ys, Bool.and_assoc]
def dup (ws : List D) : List D := ws.map fun d => .tup [d, d]
theorem rng_eq (n : Nat) : rng 0 n = (List.range n).map fun i : Nat => .int (i : Int) := by
  unfold rng
  rw [Int.sub_zero, Int.toNat_natCast]
  exact List.map_congr_left fun i _ => by rw [Int.zero_add]
theorem dup_range (xs : List D) : ((List.range xs.length).map fun i => D.tup [xs.getD i .non, xs.getD i .non]) = dup xs := by
  apply List.ext_getElem
  · simp [dup]
  · intro i h1 h2
    simp only [List.length_map, List.length_range] at h1
    simp only [dup, List.getElem_map, List.getElem_range, List.getD_eq_getElem?_getD, List.getElem?_eq_getElem h1, Option.getD_some]
def ixD : D → Nat
  | .int i => i.toNat
  | _ => 0
theorem rg1_len {n : Nat} {M : Store} (h : n ≤ lim) : rg1Q (.v (.int n)) M = .ok ⟨none, rng 0 n⟩ M := rg1_ok (by unfold lim at h; omega)
theorem ne_str {b : Str} {M : Store} (h : plainD (.str b) = true) : cmpQ .NotEq (.v (.str b)) (.v (.str b)) M = some false := by
  have q1 : PyData.strOk b = true := by simpa only [plainD] using h
  rw [cm_nes q1 q1, beq_self_eq_true]; rfl
theorem rng_len (a b : Int) : (rng a b).length = (b - a).toNat := by simp [rng]
theorem rng_at {a b : Int} {j : Nat} {x : D} (h : (rng a b)[j]? = some x) : x = .int (a + j) ∧ (a + j : Int) < b := by
  unfold rng at h
  rw [List.getElem?_map] at h
  obtain ⟨i, hi, rfl⟩ := Option.map_eq_some_iff.mp h
  have h1 := (List.getElem?_eq_some_iff.mp hi).1
  have h2 := (List.getElem?_eq_some_iff.mp hi).2
  simp only [List.length_range] at h1
  simp only [List.getElem_range] at h2
  subst h2
  exact ⟨rfl, by omega⟩
theorem rng_mem {a b : Int} {x : D} (h : x ∈ rng a b) : ∃ i : Int, x = .int i ∧ a ≤ i ∧ i < b := by
  obtain ⟨j, hj, e⟩ := List.getElem_of_mem h
  obtain ⟨h1, h2⟩ := rng_at (by rw [List.getElem?_eq_getElem hj, e])
  exact ⟨_, h1, by omega, h2⟩
theorem rngOk_in {a b : Int} (h1 : -100000 ≤ a) (h2 : a ≤ 100000) (h3 : -100000 ≤ b) (h4 : b ≤ 100000) : rngOk a b = true := by
  unfold rngOk
  rw [decide_eq_true (show (-(2 ^ 62) : Int) ≤ a by omega), decide_eq_true (show a < (2 ^ 62 : Int) by omega), decide_eq_true (show (-(2 ^ 62) : Int) ≤ b by omega), decide_eq_true (show b < (2 ^ 62 : Int) by omega)]; rfl
theorem flat_len {α : Type} (f : α → List D) (k : Nat) : ∀ xs : List α, (∀ x, x ∈ xs → (f x).length ≤ k) → (xs.flatMap f).length ≤ xs.length * k
  | [], _ => by simp
  | x :: xs, h => by
    have := flat_len f k xs fun y hy => h y (List.mem_cons_of_mem _ hy)
    have := h x List.mem_cons_self
    rw [List.flatMap_cons, List.length_append, List.length_cons, Nat.succ_mul]
    omega
theorem flat_take {α β : Type} (f : α → List β) (xs : List α) (j : Nat) (x : α) (h : xs[j]? = some x) : (xs.take (j + 1)).flatMap f = (xs.take j).flatMap f ++ f x := by
  rw [List.take_add_one, h, List.flatMap_append]
  simp
theorem strOk_iff {x : Str} : PyData.strOk x = true ↔ ∀ c, c ∈ x.cps.toList → c < 0x110000 := by
  unfold PyData.strOk
  rw [← Array.all_toList, List.all_eq_true]
  exact ⟨fun h c hc => of_decide_eq_true (h c hc), fun h c hc => decide_eq_true (h c hc)⟩
theorem strOk_app {x y : Str} (hx : PyData.strOk x = true) (hy : PyData.strOk y = true) : PyData.strOk (x ++ y) = true := by
  rw [strOk_iff] at *
  intro c hc
  have : c ∈ x.cps.toList ++ y.cps.toList := by rw [← Array.toList_append]; exact hc
  rcases List.mem_append.mp this with h | h
  · exact hx c h
  · exact hy c h
theorem strOk_cut {x : Str} (lo hi : Option Int) (hx : PyData.strOk x = true) : PyData.strOk ⟨(cut x.cps.toList lo hi).toArray⟩ = true := by
  rw [strOk_iff] at *
  intro c hc
  exact hx c (List.mem_of_mem_drop (List.mem_of_mem_take hc))
theorem app_len (x y : Str) : (x ++ y).length = x.length + y.length := Array.size_append
theorem sl_s {s : Str} {lo hi : Option Int} {M : Store} (h : s.length ≤ lim) : slQ (.v (.str s)) lo hi M = .ok (.v (.str ⟨(cut s.cps.toList lo hi).toArray⟩)) M := by
  simp only [slQ, if_pos h, okv]
theorem digit_ok : ∀ k : Nat, k < 100 → (PyData.strOk (toString (k : Int) : String) = true ∧ ((toString (k : Int) : String) : Str).length ≤ 10) := by
  intro k hk
  have : ((List.range 100).all fun k : Nat => PyData.strOk (toString (k : Int) : String) && decide (((toString (k : Int) : String) : Str).length ≤ 10)) = true := by decide +kernel
  have := (List.all_eq_true.mp this) k (List.mem_range.mpr hk)
  rw [Bool.and_eq_true, decide_eq_true_iff] at this
  exact this
theorem sIx_nat {n d i : Nat} (h : i ≤ n) : sIx n d (some (i : Int)) = i := by
  show (if (i : Int) < 0 then ((i : Int) + (n : Int)).toNat else min (i : Int).toNat n) = i
  rw [if_neg (by omega), Int.toNat_natCast, Nat.min_eq_left h]
theorem cut_take {α : Type} {ds : List α} {i : Nat} (h : i ≤ ds.length) : cut ds none (some (i : Int)) = ds.take i := by
  unfold cut
  rw [sIx_nat h]
  rfl
theorem cut_drop {α : Type} {ds : List α} {i : Nat} (h : i ≤ ds.length) : cut ds (some (i : Int)) none = ds.drop i := by
  unfold cut
  rw [sIx_nat h]
  show (ds.drop i).take (ds.length - i) = _
  rw [← List.length_drop, List.take_length]
theorem cut_len {α : Type} (ds : List α) (lo hi : Option Int) : (cut ds lo hi).length ≤ ds.length := by
  unfold cut
  rw [List.length_take, List.length_drop]
  omega
/-- a sign of a text -/
theorem sign_ok {z : Str} {r : Nat} (h : r < z.cps.toList.length) (hz : PyData.strOk z = true) (hl : z.length ≤ lim) : ∃ c : Str, (∀ M, ixQ (.v (.str z)) (.v (.int r)) M = .ok (.v (.str c)) M) ∧ PyData.strOk c = true ∧ c.length = 1 := by
  refine ⟨⟨#[z.cps.toList[r]]⟩, fun M => ix_s (Int.natCast_nonneg r) hl (by rw [Int.toNat_natCast]; exact List.getElem?_eq_getElem h), ?_, rfl⟩
  rw [strOk_iff] at hz ⊢
  intro c hc
  simp only [List.mem_singleton] at hc
  subst hc
  exact hz _ (List.getElem_mem _)
/-- an item of a list that is given -/
theorem item_ok {xs : List D} {r : Nat} (h : r < xs.length) (P : D → Prop) (hp : ∀ x ∈ xs, P x) : ∃ d, xs[r]? = some d ∧ (∀ M, ixQ (.tmp xs) (.v (.int r)) M = .ok (.v d) M) ∧ (∀ M, ixQ (.v (.tup xs)) (.v (.int r)) M = .ok (.v d) M) ∧ P d := by
  have e : xs[r]? = some xs[r] := List.getElem?_eq_getElem h
  refine ⟨xs[r], e, fun M => ?_, fun M => ?_, hp _ (List.getElem_mem _)⟩
  · rw [ix_m (Int.natCast_nonneg r), Int.toNat_natCast, e]; rfl
  · rw [ix_t (Int.natCast_nonneg r), Int.toNat_natCast, e]; rfl
end Tri

set_option Elab.async false
set_option linter.all false
set_option maxRecDepth 100000
/-! as Tri13's ens, where an error may come out, too -/
namespace Tri
open PySem PySem.Spec PyProof.Rows L2 RZ
inductive RS.enx : RS → (Sl → Store → Prop) → (D → Store → Prop) → (Xc → List D → Store → Prop) → Prop where
  | nx {τ : Sl} {M : Store} {P : Sl → Store → Prop} {Q : D → Store → Prop} {X : Xc → List D → Store → Prop} (h : P τ M) : RS.enx (.nx τ M) P Q X
  | rt {d : D} {M : Store} {P : Sl → Store → Prop} {Q : D → Store → Prop} {X : Xc → List D → Store → Prop} (h : Q d M) : RS.enx (.rt d M) P Q X
  | ex {c : Xc} {fs : List D} {τ : Sl} {M : Store} {P : Sl → Store → Prop} {Q : D → Store → Prop} {X : Xc → List D → Store → Prop} (h : X c fs M) : RS.enx (.ex c fs τ M) P Q X
theorem RS.enx.nx' {τ : Sl} {M : Store} {P : Sl → Store → Prop} {Q : D → Store → Prop} {X : Xc → List D → Store → Prop} (h : (RS.nx τ M).enx P Q X) : P τ M := by cases h; assumption
theorem RS.enx.rt' {d : D} {M : Store} {P : Sl → Store → Prop} {Q : D → Store → Prop} {X : Xc → List D → Store → Prop} (h : (RS.rt d M).enx P Q X) : Q d M := by cases h; assumption
theorem RS.enx.ex' {c : Xc} {fs : List D} {τ : Sl} {M : Store} {P : Sl → Store → Prop} {Q : D → Store → Prop} {X : Xc → List D → Store → Prop} (h : (RS.ex c fs τ M).enx P Q X) : X c fs M := by cases h; assumption
theorem RS.ens.enx {r : RS} {P : Sl → Store → Prop} {Q : D → Store → Prop} {X : Xc → List D → Store → Prop} (h : r.ens P Q) : r.enx P Q X := by
  cases h with
  | nx h => exact .nx h
  | rt h => exact .rt h
section
variable {P : Sl → Store → Prop} {Q : D → Store → Prop} {X : Xc → List D → Store → Prop} {G : Gam} {r : List S}
theorem enx_seq {x : RS} (h : x.enx (fun τ M => (runs G r τ M).enx P Q X) Q X) : (x.seq G r).enx P Q X := by
  cases h with
  | nx h => exact h
  | rt h => exact .rt h
  | ex h => exact .ex h
def R.enx {α : Type} (r : R α) (P : α → Store → Prop) (X : Xc → List D → Store → Prop) : Prop := (∃ a M, r = .ok a M ∧ P a M) ∨ ∃ c fs M, r = .ex c fs M ∧ X c fs M
theorem enx_fn {n : Nat} {body : List S} {ds : List D} {M : Store} (h : (runs G body (ds.map some ++ List.replicate (n - ds.length) none) M).enx (fun _ M => Q .non M) Q X) : (fnR G n body ds M).enx Q X := by
  rw [fn_eq]
  cases e : runs G body (ds.map some ++ List.replicate (n - ds.length) none) M with
  | nx τ M' => rw [e] at h; exact .inl ⟨_, _, rfl, h.nx'⟩
  | rt d M' => rw [e] at h; exact .inl ⟨_, _, rfl, h.rt'⟩
  | ex c fs τ M' => rw [e] at h; exact .inr ⟨_, _, _, rfl, h.ex'⟩
  | _ => rw [e] at h; cases h
theorem for_enx {tot : Nat} {tg : Tg} {body : Sl → Store → RS} (P : Nat → Sl → Store → Prop) : ∀ (xs : List D) (i : Nat) (τ : Sl) (M : Store), P i τ M →
    (∀ (j : Nat) x τ M, xs[j]? = some x → P (i + j) τ M → ∃ τ1, asgT tg x τ = some τ1 ∧ ((body τ1 M).enx (P (i + j + 1)) Q X ∨ ∃ τ2 M2, body τ1 M = .ct τ2 M2 ∧ P (i + j + 1) τ2 M2)) →
    (forLoop none tot tg body i xs τ M).enx (P (i + xs.length)) Q X
  | [], i, τ, M, h0, _ => by
    simp only [forLoop, endOk, if_true]
    exact .nx h0
  | x :: xs, i, τ, M, h0, hs => by
    obtain ⟨τ1, e1, h1⟩ := hs 0 x τ M rfl h0
    simp only [forLoop, pick, Option.bind_some, e1]
    have rest : ∀ τ2 M2, P (i + 1) τ2 M2 → (forLoop none tot tg body (i + 1) xs τ2 M2).enx (P (i + (x :: xs).length)) Q X := fun τ2 M2 h2 => by
      have := for_enx (tot := tot) (tg := tg) (body := body) P xs (i + 1) τ2 M2 h2 fun j y τ' M' ey hp => by
        have := hs (j + 1) y τ' M' (by simpa using ey) (by rw [show i + (j + 1) = i + 1 + j by omega]; exact hp)
        rw [show i + (j + 1) + 1 = i + 1 + j + 1 by omega] at this
        exact this
      rw [show i + (x :: xs).length = i + 1 + xs.length by rw [List.length_cons]; omega]
      exact this
    rcases h1 with h1 | ⟨τ2, M2, e2, h2⟩
    · cases e : body τ1 M with
      | nx τ2 M2 => rw [e] at h1; exact rest τ2 M2 h1.nx'
      | rt d M2 => rw [e] at h1; exact .rt h1.rt'
      | ex c fs τ2 M2 => rw [e] at h1; exact .ex h1.ex'
      | _ => rw [e] at h1; cases h1
    · rw [e2]
      exact rest τ2 M2 h2
theorem forQ_enx {t : Tg} {b : List S} {xs : List D} {τ : Sl} {M : Store} (P : Nat → Sl → Store → Prop) (h0 : P 0 τ M)
    (hs : ∀ j x τ M, xs[j]? = some x → P j τ M → ∃ τ1, asgT t x τ = some τ1 ∧ ((runs G b τ1 M).enx (P (j + 1)) Q X ∨ ∃ τ2 M2, runs G b τ1 M = .ct τ2 M2 ∧ P (j + 1) τ2 M2)) {P' : Sl → Store → Prop} (he : ∀ τ M, P xs.length τ M → P' τ M) : (forQ G t b ⟨none, xs⟩ τ M).enx P' Q X := by
  have := for_enx (tot := xs.length) (tg := t) (body := fun τ M => runs G b τ M) (Q := Q) (X := X) P xs 0 τ M h0 fun j x τ M hx hp => by
    rw [Nat.zero_add] at hp ⊢
    exact hs j x τ M hx hp
  rw [Nat.zero_add] at this
  unfold forQ
  cases e : forLoop none xs.length t (fun τ M => runs G b τ M) 0 xs τ M with
  | nx τ2 M2 => rw [e] at this; exact .nx (he _ _ this.nx')
  | rt d M2 => rw [e] at this; exact .rt this.rt'
  | ex c fs τ2 M2 => rw [e] at this; exact .ex this.ex'
  | _ => rw [e] at this; cases this
end
end Tri
namespace Tri
theorem enx_eq {r x : R D} (h : r.enx (fun d M' => R.ok d M' = x) (fun c fs M' => R.ex c fs M' = x)) : r = x := by
  rcases h with ⟨d, M, rfl, h⟩ | ⟨c, fs, M, rfl, h⟩ <;> exact h
theorem enx_nx {τ : Sl} {M : Store} {P : Sl → Store → Prop} {Q : D → Store → Prop} {X : Xc → List D → Store → Prop} (h : P τ M) : (RS.nx τ M).enx P Q X := .nx h
theorem enx_rt {d : D} {M : Store} {P : Sl → Store → Prop} {Q : D → Store → Prop} {X : Xc → List D → Store → Prop} (h : Q d M) : (RS.rt d M).enx P Q X := .rt h
theorem enx_ex {c : Xc} {fs : List D} {τ : Sl} {M : Store} {P : Sl → Store → Prop} {Q : D → Store → Prop} {X : Xc → List D → Store → Prop} (h : X c fs M) : (RS.ex c fs τ M).enx P Q X := .ex h
theorem enx_step {G : Gam} {s : S} {r : List S} {τ τ1 : Sl} {M M1 : Store} {P : Sl → Store → Prop} {Q : D → Store → Prop} {X : Xc → List D → Store → Prop} (h : run G s τ M = .nx τ1 M1) (h2 : (runs G r τ1 M1).enx P Q X) : (runs G (s :: r) τ M).enx P Q X := by
  rw [runs_cons, h]; exact h2
end Tri

namespace Tri
open PySem PySem.Spec PyProof.Rows L2 RZ
theorem fold_size (a : Array Nat) : ∀ (n : Nat) (acc : Array Nat), ((List.replicate n a).foldl (· ++ ·) acc).size = acc.size + a.size * n
  | 0, acc => by simp
  | n + 1, acc => by
    rw [List.replicate_succ, List.foldl_cons, fold_size a n, Array.size_append, Nat.mul_succ]
    omega
theorem fold_mem (a : Array Nat) (c : Nat) : ∀ (n : Nat) (acc : Array Nat), c ∈ ((List.replicate n a).foldl (· ++ ·) acc).toList → c ∈ acc.toList ∨ c ∈ a.toList
  | 0, acc, h => .inl (by simpa using h)
  | n + 1, acc, h => by
    rw [List.replicate_succ, List.foldl_cons] at h
    rcases fold_mem a c n _ h with h | h
    · rw [Array.toList_append] at h
      exact List.mem_append.mp h
    · exact .inr h
theorem mul_len (x : Str) (n : Int) : (Txt.mul x n).length = x.length * n.toNat := by
  unfold Txt.mul
  split
  · rename_i h
    rw [show n.toNat = 0 by omega, Nat.mul_zero]; rfl
  · split
    · rename_i h1 h2
      rw [Bool.or_eq_true, beq_iff_eq, beq_iff_eq] at h2
      rcases h2 with h2 | h2
      · subst h2; simp
      · rw [h2]; simp
    · show (Array.size _) = _
      rw [fold_size]
      simp
      rfl
theorem strOk_mul {x : Str} (n : Int) (h : PyData.strOk x = true) : PyData.strOk (Txt.mul x n) = true := by
  unfold Txt.mul
  split
  · decide +kernel
  · split
    · exact h
    · rw [strOk_iff] at h ⊢
      intro c hc
      rcases fold_mem x.cps c n.toNat #[] hc with q | q
      · simp at q
      · exact h c q
theorem bn_muls {x : Str} {n : Int} {M : Store} (h1 : n ≤ 1000000) (h2 : -1000000 ≤ n) (h3 : x.length ≤ lim) (h4 : x.length * n.toNat ≤ lim) : binQ .Mult (.v (.str x)) (.v (.int n)) M = .ok (.v (.str (Txt.mul x n))) M := by
  simp only [binQ, mulQ, decide_eq_true h1, decide_eq_true h2, decide_eq_true h3, decide_eq_true h4, Bool.and_self, if_true, okv]
end Tri

namespace Tri
open PySem PySem.Spec PyProof.Rows L2 RZ
theorem ixAnyN {x : Q} {xs : List D} {i : Int} {M : Store} (h : i < 0) (h2 : 0 ≤ (xs.length : Int) + i) (hx : x.items M = some xs) (hs : ∀ s, x ≠ .v (.str s)) : ixQ x (.v (.int i)) M = ixO xs[((xs.length : Int) + i).toNat]? M := by
  have : ixQ x (.v (.int i)) M = match x.items M with
      | some xs => match ixNat xs.length i with
        | some k => match xs[k]? with
          | some d => okv d M
          | none => .no
        | none => .no
      | none => .no := by
    rcases x with (_|_|_|s|_|_|_|_) | _
    all_goals first | rfl | exact absurd rfl (hs _)
  rw [this, hx]
  have e : ixNat xs.length i = some ((xs.length : Int) + i).toNat := by
    unfold ixNat
    rw [if_neg (by omega), if_pos (by omega), Int.add_comm]
  simp only [e]
  have c : ((xs.length : Int) + i).toNat < xs.length := by omega
  simp only [List.getElem?_eq_getElem c]; rfl
theorem ix_tn {xs : List D} {i : Int} {M : Store} (h : i < 0) (h2 : 0 ≤ (xs.length : Int) + i) : ixQ (.v (.tup xs)) (.v (.int i)) M = ixO xs[((xs.length : Int) + i).toNat]? M := ixAnyN h h2 rfl fun s e => by cases e
theorem ix_mn {xs : List D} {i : Int} {M : Store} (h : i < 0) (h2 : 0 ≤ (xs.length : Int) + i) : ixQ (.tmp xs) (.v (.int i)) M = ixO xs[((xs.length : Int) + i).toNat]? M := ixAnyN h h2 rfl fun s e => by cases e
end Tri

set_option Elab.async false
set_option linter.all false
set_option maxRecDepth 100000
set_option maxHeartbeats 4000000
namespace Ltrueatonce_k29_prices_costs
open PySem PySem.Spec PyProof.Rows L2 RZ Tri
/-! ### the text, printed by tri.py -/
def pst (i : Nat) : Stmt := PySem.Challenge.pw_trueatonce_k29_prices_costs.main.body.getD i (.Pass ⟨0, 0, 0, 0⟩)
def freeN : List Str := ["abs", "bool", "enumerate", "int", "isinstance", "len", "list", "max", "range", "str", "sum", "tuple", "zip"]
def consN : List (Str × Int) := [("PRICE_MOST", 20)]
def iniN : List (Xc × Stmt) := [(.BadSight, iniOf (pst 6))]
def xcsN : List Xc := [.BadSight]
def xallN : List Xc := [.BadReading, .BadSight, .CallError, .DataError, .RecordError, .TextError]
theorem oi_BadSight : IniOk .BadSight (iniOf (pst 6)) := ⟨by decide +kernel, ⟨by decide +kernel, rfl, rfl, rfl⟩, by decide +kernel, by decide +kernel, fun _ _ _ _ _ _ _ us hl => match us, hl with | [_, _], _ => rfl, by decide⟩
theorem inisN : InisOk iniN := (.cons oi_BadSight .nil)
def b_l_pool : List S := [
  .set 1 (.lst (.cons (.int 290039) .nil)),
  .for_ (.name 2) (.seq (.sl (.var 0) .no (.so (.int 63)))) [.set 3 (.bin .Mod (.b1 .abs (.b1 .int (.var 2))) (.bin .LShift (.int 1) (.int 2000))), .setIx (.var 1) (.int 0) (.bin .Mod (.b1 .int (.bin .Add (.bin .Add (.bin .Add (.bin .Mult (.ix (.var 1) (.int 0)) (.int 35023)) (.bin .Mod (.var 3) (.int 2147483543))) (.bin .Mult (.int 37) (.b1 .int (.cmp .Lt (.b1 .int (.var 2)) (.int 0))))) (.int 1))) (.int 2147483543)), .ife (.cmp .GtE (.var 3) (.bin .Pow (.int 10) (.int 18))) [.expr (.m1 .append (.var 1) (.var 3))] []],
  .ret (.var 1)]
def d_l_pool : DefI := ⟨"_law_pool", ["script"], ["script", "pool", "cell", "size"], pst 16, b_l_pool, []⟩
def b_l_draw : List S := [
  .ife (.cmp .Gt (.b1 .len (.var 0)) (.int 1)) [.set 2 (.b1 .int (.m0 .pop (.var 0))), .ife (.cmp .GtE (.var 2) (.var 1)) [.expr (.m1 .append (.var 0) (.bin .FloorDiv (.var 2) (.var 1)))] [], .ret (.bin .Mod (.b1 .int (.var 2)) (.var 1))] [],
  .setIx (.var 0) (.int 0) (.bin .Mod (.b1 .int (.bin .Add (.bin .Mult (.ix (.var 0) (.int 0)) (.int 44017)) (.int 953))) (.int 2147483543)),
  .ret (.bin .Mod (.b1 .int (.bin .FloorDiv (.ix (.var 0) (.int 0)) (.int 59))) (.var 1))]
def d_l_draw : DefI := ⟨"_law_draw", ["pool", "many"], ["pool", "many", "size"], pst 17, b_l_draw, []⟩
def b_l_fields : List S := [
  .set 2 (.str "abcdefghijklmnopqrstuvwxyz0123456789"),
  .set 3 (.lst .nil),
  .for_ (.name 4) (.rg1 (.var 1)) [.set 5 (.ix (.tup (.cons (.int 0) (.cons (.neg (.int 20)) (.cons (.int 12) (.cons (.bin .Sub (.call 1 (.cons (.var 0) (.cons (.int 21) .nil))) (.int 10)) .nil))))) (.call 1 (.cons (.var 0) (.cons (.int 4) .nil)))), .expr (.m1 .append (.var 3) (.tup (.cons (.bin .Add (.ix (.var 2) (.bin .Sub (.int 25) (.var 4))) (.bin .Mult (.ix (.var 2) (.call 1 (.cons (.var 0) (.cons (.int 36) .nil)))) (.call 1 (.cons (.var 0) (.cons (.int 8) .nil))))) (.cons (.var 5) (.cons (.bin .Add (.var 5) (.call 1 (.cons (.var 0) (.cons (.int 9) .nil)))) .nil)))))],
  .ret (.b1 .tuple (.var 3))]
def d_l_fields : DefI := ⟨"_law_fields", ["pool", "many"], ["pool", "many", "signs", "fields", "at", "low"], pst 19, b_l_fields, []⟩
def b_l_same : List S := [
  .set 2 (.lst (.cons (.tup (.cons (.var 0) (.cons (.var 1) .nil))) .nil)),
  .whl (.cmp .Gt (.b1 .len (.var 2)) (.int 0)) [.asg (.tup [3, 4]) (.m0 .pop (.var 2)), .ife (.isi (.var 4) .tuple) [.ife (.or (.not (.isi (.var 3) .tuple)) (.cmp .NotEq (.b1 .len (.var 3)) (.b1 .len (.var 4)))) [.ret (.bl false)] [], .for_ (.name 5) (.rg1 (.b1 .len (.var 4))) [.expr (.m1 .append (.var 2) (.tup (.cons (.ix (.var 3) (.var 5)) (.cons (.ix (.var 4) (.var 5)) .nil))))]] [.ife (.isN (.var 4)) [.ife (.notN (.var 3)) [.ret (.bl false)] []] [.ife (.isi (.var 4) .bool) [.ife (.or (.not (.isi (.var 3) .bool)) (.cmp .NotEq (.var 3) (.var 4))) [.ret (.bl false)] []] [.ife (.isi (.var 4) .str) [.ife (.or (.not (.isi (.var 3) .str)) (.cmp .NotEq (.var 3) (.var 4))) [.ret (.bl false)] []] [.ife (.or (.not (.isi (.var 3) .int)) (.or (.isi (.var 3) .bool) (.cmp .NotEq (.var 3) (.var 4)))) [.ret (.bl false)] []]]]]],
  .ret (.bl true)]
def d_l_same : DefI := ⟨"_law_same", ["told", "due"], ["told", "due", "rest", "one", "other", "at"], pst 18, b_l_same, []⟩
def b_sheet_cost : List S := [
  .ret (.b1 .sum (.lc (.bin .Mult (.var 3) (.b1 .abs (.bin .Sub (.var 5) (.var 4)))) (.tup [3, 4, 5]) (.zip3 (.var 0) (.var 1) (.var 2)) .no [3, 4, 5]))]
def d_sheet_cost : DefI := ⟨"sheet_cost", ["prices", "target", "answers"], ["prices", "target", "answers", "price", "wanted", "answer"], pst 14, b_sheet_cost, [(0, ["answers", "target", "prices"], [2, 1, 0])]⟩
def b_l_costs : List S := [
  .set 3 (.b1 .tuple (.lc (.bin .Add (.var 5) (.call 1 (.cons (.var 0) (.cons (.bin .Sub (.bin .Add (.var 6) (.int 1)) (.var 5)) .nil)))) (.tup [4, 5, 6]) (.seq (.var 1)) .no [4, 5, 6])),
  .set 7 (.call 1 (.cons (.var 0) (.cons (.int 3) .nil))),
  .set 8 (.lst .nil),
  .for_ (.name 9) (.rg1 (.b1 .len (.var 1))) [.asg (.tup [4, 5, 6]) (.ix (.var 1) (.var 9)), .set 10 (.bin .Add (.var 5) (.call 1 (.cons (.var 0) (.cons (.bin .Sub (.bin .Add (.var 6) (.int 1)) (.var 5)) .nil)))), .ife (.and (.cmp .Eq (.var 7) (.int 1)) (.cmp .Gt (.call 1 (.cons (.var 0) (.cons (.int 3) .nil))) (.int 0))) [.set 10 (.ix (.var 3) (.var 9))] [], .ife (.cmp .Eq (.var 7) (.int 2)) [.set 10 (.ife (.cmp .Eq (.ix (.var 3) (.var 9)) (.var 5)) (.var 6) (.var 5))] [], .expr (.m1 .append (.var 8) (.var 10))],
  .set 11 (.int 0),
  .for_ (.name 9) (.rg1 (.b1 .len (.var 1))) [.set 11 (.bin .Add (.var 11) (.bin .Mult (.ix (.var 2) (.var 9)) (.b2 .max (.bin .Sub (.ix (.var 8) (.var 9)) (.ix (.var 3) (.var 9))) (.bin .Sub (.ix (.var 3) (.var 9)) (.ix (.var 8) (.var 9))))))],
  .ret (.call 3 (.cons (.tup (.cons (.call 4 (.cons (.var 2) (.cons (.var 3) (.cons (.b1 .tuple (.var 8)) .nil)))) (.cons (.call 4 (.cons (.var 2) (.cons (.b1 .tuple (.var 8)) (.cons (.var 3) .nil)))) (.cons (.call 4 (.cons (.var 2) (.cons (.var 3) (.cons (.var 3) .nil)))) .nil)))) (.cons (.tup (.cons (.var 11) (.cons (.var 11) (.cons (.int 0) .nil)))) .nil)))]
def d_l_costs : DefI := ⟨"_law_costs", ["pool", "fields", "prices"], ["pool", "fields", "prices", "target", "name", "low", "high", "habit", "answers", "at", "answer", "due"], pst 23, b_l_costs, []⟩
def b_l_bent : List S := [
  .set 2 (.lst (.cons (.int 0) (.cons (.int 21) (.cons (.neg (.int 1)) (.cons (.int 20) (.cons (.int 1) (.cons (.bl true) (.cons (.bl false) (.cons .non (.cons (.str "1") (.cons (.tup (.cons (.int 1) .nil)) (.cons (.lst (.cons (.int 2) .nil)) (.cons (.bin .Mult (.bin .Pow (.int 10) (.int 60)) (.bin .Pow (.int 10) (.int 20))) (.cons (.neg (.bin .Mult (.bin .Pow (.int 10) (.int 60)) (.bin .Pow (.int 10) (.int 20)))) (.cons (.str "") (.cons (.tup .nil) (.cons (.int 19) .nil))))))))))))))))),
  .set 3 (.ix (.tup (.cons (.int 0) (.cons (.bin .Sub (.b1 .len (.var 1)) (.int 1)) (.cons (.call 1 (.cons (.var 0) (.cons (.b1 .len (.var 1)) .nil))) .nil)))) (.call 1 (.cons (.var 0) (.cons (.int 3) .nil)))),
  .set 4 (.call 1 (.cons (.var 0) (.cons (.b1 .len (.var 1)) .nil))),
  .set 5 (.bin .Add (.bin .Add (.sl (.var 1) .no (.so (.var 3))) (.tup (.cons (.ix (.var 2) (.call 1 (.cons (.var 0) (.cons (.b1 .len (.var 2)) .nil)))) .nil))) (.sl (.var 1) (.so (.bin .Add (.var 3) (.int 1))) .no)),
  .set 6 (.bin .Add (.bin .Add (.sl (.var 5) .no (.so (.var 4))) (.tup (.cons (.ix (.var 2) (.call 1 (.cons (.var 0) (.cons (.b1 .len (.var 2)) .nil)))) .nil))) (.sl (.var 5) (.so (.bin .Add (.var 4) (.int 1))) .no)),
  .set 7 (.lst (.cons (.var 5) (.cons (.var 5) (.cons (.var 6) (.cons (.b1 .list (.var 1)) (.cons (.b1 .list (.var 5)) (.cons (.sl (.var 1) (.so (.int 1)) .no) (.cons (.bin .Add (.var 1) (.tup (.cons (.int 1) .nil))) (.cons (.bin .Add (.var 1) (.var 1)) (.cons (.tup .nil) (.cons .non (.cons (.b1 .sum (.var 1)) (.cons (.str "11") (.cons (.tup (.cons (.var 1) .nil)) (.cons (.bin .Add (.sl (.var 1) .no (.so (.neg (.int 1)))) (.tup (.cons (.tup (.cons (.ix (.var 1) (.neg (.int 1))) .nil)) .nil))) .nil))))))))))))))),
  .ret (.ix (.var 7) (.call 1 (.cons (.var 0) (.cons (.b1 .len (.var 7)) .nil))))]
def d_l_bent : DefI := ⟨"_law_bent", ["pool", "prices"], ["pool", "prices", "odd", "at", "place", "one", "two", "things"], pst 22, b_l_bent, []⟩
def b_l_due : List S := [
  .ife (.or (.not (.isi (.var 1) .tuple)) (.cmp .NotEq (.b1 .len (.var 1)) (.b1 .len (.var 0)))) [.ret (.tup (.cons (.str "raised") (.cons (.neg (.int 1)) .nil)))] [],
  .for_ (.name 2) (.rg1 (.b1 .len (.var 1))) [.set 3 (.ix (.var 1) (.var 2)), .ife (.or (.not (.isi (.var 3) .int)) (.or (.isi (.var 3) .bool) (.not (.cmp2 .LtE .LtE (.int 1) (.var 3) (.int 20))))) [.ret (.tup (.cons (.str "raised") (.cons (.var 2) .nil)))] []],
  .ret (.tup (.cons (.str "told") (.cons (.b1 .sum (.var 1)) .nil)))]
def d_l_due : DefI := ⟨"_law_due", ["fields", "thing"], ["fields", "thing", "at", "price"], pst 20, b_l_due, []⟩
def b_tuple_of : List S := [
  .ret (.and (.isi (.var 0) .tuple) (.cmp .Eq (.b1 .len (.var 0)) (.var 1)))]
def d_tuple_of : DefI := ⟨"tuple_of", ["thing", "many"], ["thing", "many"], pst 11, b_tuple_of, []⟩
def b_is_integer : List S := [
  .ret (.and (.isi (.var 0) .int) (.not (.isi (.var 0) .bool)))]
def d_is_integer : DefI := ⟨"is_integer", ["thing"], ["thing"], pst 9, b_is_integer, []⟩
def b_integer_within : List S := [
  .ret (.and (.call 9 (.cons (.var 0) .nil)) (.cmp2 .LtE .LtE (.var 1) (.var 0) (.var 2)))]
def d_integer_within : DefI := ⟨"integer_within", ["thing", "low", "high"], ["thing", "low", "high"], pst 10, b_integer_within, []⟩
def b_check_prices : List S := [
  .ife (.not (.call 8 (.cons (.var 1) (.cons (.b1 .len (.var 0)) .nil)))) [.rais .BadSight (.cons (.neg (.int 1)) .nil)] [],
  .for_ (.tup [2, 3]) (.en (.var 1)) [.ife (.not (.call 10 (.cons (.var 3) (.cons (.int 1) (.cons (.con "PRICE_MOST" 20) .nil))))) [.rais .BadSight (.cons (.var 2) .nil)] []],
  .ret (.b1 .sum (.var 1))]
def d_check_prices : DefI := ⟨"check_prices", ["fields", "thing"], ["fields", "thing", "at", "price"], pst 13, b_check_prices, [(0, ["thing", "fields"], [1, 0])]⟩
def b_l_heard : List S := [
  .tryX [.ret (.tup (.cons (.str "told") (.cons (.call 11 (.cons (.var 0) (.cons (.var 1) .nil))) .nil)))] [⟨.RecordError, some 2, [.ife (.and (.isx .BadSight) (.and (.isx .DataError) (.not (.isxs [.BadReading, .CallError, .TextError])))) [.ret (.tup (.cons (.str "raised") (.cons (.fld .at_) .nil)))] []]⟩],
  .ret (.tup (.cons (.str "other") (.cons .non .nil)))]
def d_l_heard : DefI := ⟨"_law_heard", ["fields", "thing"], ["fields", "thing", "wrong"], pst 21, b_l_heard, []⟩
def b_law : List S := [
  .set 1 (.call 0 (.cons (.var 0) .nil)),
  .set 2 (.disp [.inr "told", .inr "raised"] (.cons (.int 0) (.cons (.int 0) .nil))),
  .for_ (.name 3) (.rg1 (.int 3)) [.set 4 (.call 2 (.cons (.var 1) (.cons (.ix (.tup (.cons (.int 1) (.cons (.int 2) (.cons (.bin .Add (.int 1) (.call 1 (.cons (.var 1) (.cons (.int 12) .nil)))) (.cons (.int 12) .nil))))) (.call 1 (.cons (.var 1) (.cons (.int 4) .nil)))) .nil))), .set 5 (.ix (.tup (.cons (.int 20) (.cons (.int 3) (.cons (.int 20) (.cons (.int 1) .nil))))) (.call 1 (.cons (.var 1) (.cons (.int 4) .nil)))), .set 6 (.b1 .tuple (.lc (.bin .Add (.int 1) (.call 1 (.cons (.var 1) (.cons (.var 5) .nil)))) (.name 7) (.seq (.var 4)) .no [7])), .ife (.not (.call 5 (.cons (.var 1) (.cons (.var 4) (.cons (.var 6) .nil))))) [.ret (.bl false)] [], .set 8 (.bin .Add (.sl (.var 6) .no (.so (.neg (.int 1)))) (.tup (.cons (.int 20) .nil))), .for_ (.name 9) (.seq (.bin .Add (.lst (.cons (.var 6) (.cons (.var 8) (.cons (.bin .Add (.sl (.var 6) .no (.so (.neg (.int 1)))) (.tup (.cons (.int 21) .nil))) .nil)))) (.lc (.call 6 (.cons (.var 1) (.cons (.var 6) .nil))) (.name 10) (.rg1 (.int 8)) .no [10]))) [.set 11 (.call 7 (.cons (.var 4) (.cons (.var 9) .nil))), .dset (.var 2) (.ix (.var 11) (.int 0)) (.bin .Add (.dget (.var 2) (.ix (.var 11) (.int 0))) (.int 1)), .ife (.not (.call 3 (.cons (.call 12 (.cons (.var 4) (.cons (.var 9) .nil))) (.cons (.var 11) .nil)))) [.ret (.bl false)] []]],
  .set 12 (.tup (.cons (.tup (.cons (.str "d1") (.cons (.int 0) (.cons (.int 3) .nil)))) (.cons (.tup (.cons (.str "d2") (.cons (.int 0) (.cons (.int 3) .nil)))) (.cons (.tup (.cons (.str "d3") (.cons (.neg (.int 1)) (.cons (.int 3) .nil)))) .nil)))),
  .ife (.not (.call 3 (.cons (.tup (.cons (.callK 11 .nil (.cons (.tup (.cons (.int 1) (.cons (.int 2) (.cons (.int 20) .nil)))) (.cons (.var 12) .nil)) ["thing", "fields"] [1, 0]) (.cons (.callK 4 .nil (.cons (.tup (.cons (.int 1) (.cons (.int 1) (.cons (.int 3) .nil)))) (.cons (.tup (.cons (.int 2) (.cons (.int 1) (.cons (.neg (.int 1)) .nil)))) (.cons (.tup (.cons (.int 1) (.cons (.int 2) (.cons (.int 3) .nil)))) .nil))) ["answers", "target", "prices"] [2, 1, 0]) .nil))) (.cons (.tup (.cons (.int 23) (.cons (.int 13) .nil))) .nil)))) [.ret (.bl false)] [],
  .ret (.and (.cmp .Gt (.dget (.var 2) (.str "told")) (.int 0)) (.cmp .Gt (.dget (.var 2) (.str "raised")) (.int 0)))]
def d_law : DefI := ⟨"law", ["script"], ["script", "pool", "seen", "lap", "fields", "top", "prices", "field", "edge", "thing", "turn", "due", "days"], pst 24, b_law, []⟩
noncomputable def g_l_pool : List D → Store → R D := fnR [] 4 b_l_pool
noncomputable def g_l_draw : List D → Store → R D := fnR [g_l_pool] 3 b_l_draw
noncomputable def g_l_fields : List D → Store → R D := fnR [g_l_pool, g_l_draw] 6 b_l_fields
noncomputable def g_l_same : List D → Store → R D := fnR [g_l_pool, g_l_draw, g_l_fields] 6 b_l_same
noncomputable def g_sheet_cost : List D → Store → R D := fnR [g_l_pool, g_l_draw, g_l_fields, g_l_same] 6 b_sheet_cost
noncomputable def g_l_costs : List D → Store → R D := fnR [g_l_pool, g_l_draw, g_l_fields, g_l_same, g_sheet_cost] 12 b_l_costs
noncomputable def g_l_bent : List D → Store → R D := fnR [g_l_pool, g_l_draw, g_l_fields, g_l_same, g_sheet_cost, g_l_costs] 8 b_l_bent
noncomputable def g_l_due : List D → Store → R D := fnR [g_l_pool, g_l_draw, g_l_fields, g_l_same, g_sheet_cost, g_l_costs, g_l_bent] 4 b_l_due
noncomputable def g_tuple_of : List D → Store → R D := fnR [g_l_pool, g_l_draw, g_l_fields, g_l_same, g_sheet_cost, g_l_costs, g_l_bent, g_l_due] 2 b_tuple_of
noncomputable def g_is_integer : List D → Store → R D := fnR [g_l_pool, g_l_draw, g_l_fields, g_l_same, g_sheet_cost, g_l_costs, g_l_bent, g_l_due, g_tuple_of] 1 b_is_integer
noncomputable def g_integer_within : List D → Store → R D := fnR [g_l_pool, g_l_draw, g_l_fields, g_l_same, g_sheet_cost, g_l_costs, g_l_bent, g_l_due, g_tuple_of, g_is_integer] 3 b_integer_within
noncomputable def g_check_prices : List D → Store → R D := fnR [g_l_pool, g_l_draw, g_l_fields, g_l_same, g_sheet_cost, g_l_costs, g_l_bent, g_l_due, g_tuple_of, g_is_integer, g_integer_within] 4 b_check_prices
noncomputable def g_l_heard : List D → Store → R D := fnR [g_l_pool, g_l_draw, g_l_fields, g_l_same, g_sheet_cost, g_l_costs, g_l_bent, g_l_due, g_tuple_of, g_is_integer, g_integer_within, g_check_prices] 3 b_l_heard
noncomputable def g_law : List D → Store → R D := fnR [g_l_pool, g_l_draw, g_l_fields, g_l_same, g_sheet_cost, g_l_costs, g_l_bent, g_l_due, g_tuple_of, g_is_integer, g_integer_within, g_check_prices, g_l_heard] 13 b_law
theorem o_l_pool : d_l_pool.Ok freeN consN [] xcsN xallN := ⟨⟨rfl, rfl, rfl, by decide +kernel, rfl, by decide +kernel, by decide +kernel⟩, by decide +kernel, fun _ _ _ _ _ _ us hl => match us, hl with | [_], _ => rfl, fun _ _ _ hm => by cases hm⟩
theorem o_l_draw : d_l_draw.Ok freeN consN [d_l_pool] xcsN xallN := ⟨⟨rfl, rfl, rfl, by decide +kernel, rfl, by decide +kernel, by decide +kernel⟩, by decide +kernel, fun _ _ _ _ _ _ us hl => match us, hl with | [_, _], _ => rfl, fun _ _ _ hm => by cases hm⟩
theorem o_l_fields : d_l_fields.Ok freeN consN [d_l_pool, d_l_draw] xcsN xallN := ⟨⟨rfl, rfl, rfl, by decide +kernel, rfl, by decide +kernel, by decide +kernel⟩, by decide +kernel, fun _ _ _ _ _ _ us hl => match us, hl with | [_, _], _ => rfl, fun _ _ _ hm => by cases hm⟩
theorem o_l_same : d_l_same.Ok freeN consN [d_l_pool, d_l_draw, d_l_fields] xcsN xallN := ⟨⟨rfl, rfl, rfl, by decide +kernel, rfl, by decide +kernel, by decide +kernel⟩, by decide +kernel, fun _ _ _ _ _ _ us hl => match us, hl with | [_, _], _ => rfl, fun _ _ _ hm => by cases hm⟩
theorem o_sheet_cost : d_sheet_cost.Ok freeN consN [d_l_pool, d_l_draw, d_l_fields, d_l_same] xcsN xallN := ⟨⟨rfl, rfl, rfl, by decide +kernel, rfl, by decide +kernel, by decide +kernel⟩, by decide +kernel, fun _ _ _ _ _ _ us hl => match us, hl with | [_, _, _], _ => rfl, fun n ks perm hm => by
    simp only [d_sheet_cost, List.mem_cons, List.not_mem_nil, or_false, Prod.mk.injEq] at hm
    rcases hm with ⟨rfl, rfl, rfl⟩
    · exact fun _ _ _ _ _ _ us ws h1 h2 => match us, ws, h1, h2 with | [], [_, _, _], _, _ => rfl
⟩
theorem o_l_costs : d_l_costs.Ok freeN consN [d_l_pool, d_l_draw, d_l_fields, d_l_same, d_sheet_cost] xcsN xallN := ⟨⟨rfl, rfl, rfl, by decide +kernel, rfl, by decide +kernel, by decide +kernel⟩, by decide +kernel, fun _ _ _ _ _ _ us hl => match us, hl with | [_, _, _], _ => rfl, fun _ _ _ hm => by cases hm⟩
theorem o_l_bent : d_l_bent.Ok freeN consN [d_l_pool, d_l_draw, d_l_fields, d_l_same, d_sheet_cost, d_l_costs] xcsN xallN := ⟨⟨rfl, rfl, rfl, by decide +kernel, rfl, by decide +kernel, by decide +kernel⟩, by decide +kernel, fun _ _ _ _ _ _ us hl => match us, hl with | [_, _], _ => rfl, fun _ _ _ hm => by cases hm⟩
theorem o_l_due : d_l_due.Ok freeN consN [d_l_pool, d_l_draw, d_l_fields, d_l_same, d_sheet_cost, d_l_costs, d_l_bent] xcsN xallN := ⟨⟨rfl, rfl, rfl, by decide +kernel, rfl, by decide +kernel, by decide +kernel⟩, by decide +kernel, fun _ _ _ _ _ _ us hl => match us, hl with | [_, _], _ => rfl, fun _ _ _ hm => by cases hm⟩
theorem o_tuple_of : d_tuple_of.Ok freeN consN [d_l_pool, d_l_draw, d_l_fields, d_l_same, d_sheet_cost, d_l_costs, d_l_bent, d_l_due] xcsN xallN := ⟨⟨rfl, rfl, rfl, by decide +kernel, rfl, by decide +kernel, by decide +kernel⟩, by decide +kernel, fun _ _ _ _ _ _ us hl => match us, hl with | [_, _], _ => rfl, fun _ _ _ hm => by cases hm⟩
theorem o_is_integer : d_is_integer.Ok freeN consN [d_l_pool, d_l_draw, d_l_fields, d_l_same, d_sheet_cost, d_l_costs, d_l_bent, d_l_due, d_tuple_of] xcsN xallN := ⟨⟨rfl, rfl, rfl, by decide +kernel, rfl, by decide +kernel, by decide +kernel⟩, by decide +kernel, fun _ _ _ _ _ _ us hl => match us, hl with | [_], _ => rfl, fun _ _ _ hm => by cases hm⟩
theorem o_integer_within : d_integer_within.Ok freeN consN [d_l_pool, d_l_draw, d_l_fields, d_l_same, d_sheet_cost, d_l_costs, d_l_bent, d_l_due, d_tuple_of, d_is_integer] xcsN xallN := ⟨⟨rfl, rfl, rfl, by decide +kernel, rfl, by decide +kernel, by decide +kernel⟩, by decide +kernel, fun _ _ _ _ _ _ us hl => match us, hl with | [_, _, _], _ => rfl, fun _ _ _ hm => by cases hm⟩
theorem o_check_prices : d_check_prices.Ok freeN consN [d_l_pool, d_l_draw, d_l_fields, d_l_same, d_sheet_cost, d_l_costs, d_l_bent, d_l_due, d_tuple_of, d_is_integer, d_integer_within] xcsN xallN := ⟨⟨rfl, rfl, rfl, by decide +kernel, rfl, by decide +kernel, by decide +kernel⟩, by decide +kernel, fun _ _ _ _ _ _ us hl => match us, hl with | [_, _], _ => rfl, fun n ks perm hm => by
    simp only [d_check_prices, List.mem_cons, List.not_mem_nil, or_false, Prod.mk.injEq] at hm
    rcases hm with ⟨rfl, rfl, rfl⟩
    · exact fun _ _ _ _ _ _ us ws h1 h2 => match us, ws, h1, h2 with | [], [_, _], _, _ => rfl
⟩
theorem o_l_heard : d_l_heard.Ok freeN consN [d_l_pool, d_l_draw, d_l_fields, d_l_same, d_sheet_cost, d_l_costs, d_l_bent, d_l_due, d_tuple_of, d_is_integer, d_integer_within, d_check_prices] xcsN xallN := ⟨⟨rfl, rfl, rfl, by decide +kernel, rfl, by decide +kernel, by decide +kernel⟩, by decide +kernel, fun _ _ _ _ _ _ us hl => match us, hl with | [_, _], _ => rfl, fun _ _ _ hm => by cases hm⟩
theorem o_law : d_law.Ok freeN consN [d_l_pool, d_l_draw, d_l_fields, d_l_same, d_sheet_cost, d_l_costs, d_l_bent, d_l_due, d_tuple_of, d_is_integer, d_integer_within, d_check_prices, d_l_heard] xcsN xallN := ⟨⟨rfl, rfl, rfl, by decide +kernel, rfl, by decide +kernel, by decide +kernel⟩, by decide +kernel, fun _ _ _ _ _ _ us hl => match us, hl with | [_], _ => rfl, fun _ _ _ hm => by cases hm⟩
theorem t_l_pool : Tow freeN consN xcsN xallN [d_l_pool] [g_l_pool] := Tow.snoc (ds := []) (G := []) (d := d_l_pool) .nil o_l_pool
theorem t_l_draw : Tow freeN consN xcsN xallN [d_l_pool, d_l_draw] [g_l_pool, g_l_draw] := Tow.snoc (ds := [d_l_pool]) (G := [g_l_pool]) (d := d_l_draw) t_l_pool o_l_draw
theorem t_l_fields : Tow freeN consN xcsN xallN [d_l_pool, d_l_draw, d_l_fields] [g_l_pool, g_l_draw, g_l_fields] := Tow.snoc (ds := [d_l_pool, d_l_draw]) (G := [g_l_pool, g_l_draw]) (d := d_l_fields) t_l_draw o_l_fields
theorem t_l_same : Tow freeN consN xcsN xallN [d_l_pool, d_l_draw, d_l_fields, d_l_same] [g_l_pool, g_l_draw, g_l_fields, g_l_same] := Tow.snoc (ds := [d_l_pool, d_l_draw, d_l_fields]) (G := [g_l_pool, g_l_draw, g_l_fields]) (d := d_l_same) t_l_fields o_l_same
theorem t_sheet_cost : Tow freeN consN xcsN xallN [d_l_pool, d_l_draw, d_l_fields, d_l_same, d_sheet_cost] [g_l_pool, g_l_draw, g_l_fields, g_l_same, g_sheet_cost] := Tow.snoc (ds := [d_l_pool, d_l_draw, d_l_fields, d_l_same]) (G := [g_l_pool, g_l_draw, g_l_fields, g_l_same]) (d := d_sheet_cost) t_l_same o_sheet_cost
theorem t_l_costs : Tow freeN consN xcsN xallN [d_l_pool, d_l_draw, d_l_fields, d_l_same, d_sheet_cost, d_l_costs] [g_l_pool, g_l_draw, g_l_fields, g_l_same, g_sheet_cost, g_l_costs] := Tow.snoc (ds := [d_l_pool, d_l_draw, d_l_fields, d_l_same, d_sheet_cost]) (G := [g_l_pool, g_l_draw, g_l_fields, g_l_same, g_sheet_cost]) (d := d_l_costs) t_sheet_cost o_l_costs
theorem t_l_bent : Tow freeN consN xcsN xallN [d_l_pool, d_l_draw, d_l_fields, d_l_same, d_sheet_cost, d_l_costs, d_l_bent] [g_l_pool, g_l_draw, g_l_fields, g_l_same, g_sheet_cost, g_l_costs, g_l_bent] := Tow.snoc (ds := [d_l_pool, d_l_draw, d_l_fields, d_l_same, d_sheet_cost, d_l_costs]) (G := [g_l_pool, g_l_draw, g_l_fields, g_l_same, g_sheet_cost, g_l_costs]) (d := d_l_bent) t_l_costs o_l_bent
theorem t_l_due : Tow freeN consN xcsN xallN [d_l_pool, d_l_draw, d_l_fields, d_l_same, d_sheet_cost, d_l_costs, d_l_bent, d_l_due] [g_l_pool, g_l_draw, g_l_fields, g_l_same, g_sheet_cost, g_l_costs, g_l_bent, g_l_due] := Tow.snoc (ds := [d_l_pool, d_l_draw, d_l_fields, d_l_same, d_sheet_cost, d_l_costs, d_l_bent]) (G := [g_l_pool, g_l_draw, g_l_fields, g_l_same, g_sheet_cost, g_l_costs, g_l_bent]) (d := d_l_due) t_l_bent o_l_due
theorem t_tuple_of : Tow freeN consN xcsN xallN [d_l_pool, d_l_draw, d_l_fields, d_l_same, d_sheet_cost, d_l_costs, d_l_bent, d_l_due, d_tuple_of] [g_l_pool, g_l_draw, g_l_fields, g_l_same, g_sheet_cost, g_l_costs, g_l_bent, g_l_due, g_tuple_of] := Tow.snoc (ds := [d_l_pool, d_l_draw, d_l_fields, d_l_same, d_sheet_cost, d_l_costs, d_l_bent, d_l_due]) (G := [g_l_pool, g_l_draw, g_l_fields, g_l_same, g_sheet_cost, g_l_costs, g_l_bent, g_l_due]) (d := d_tuple_of) t_l_due o_tuple_of
theorem t_is_integer : Tow freeN consN xcsN xallN [d_l_pool, d_l_draw, d_l_fields, d_l_same, d_sheet_cost, d_l_costs, d_l_bent, d_l_due, d_tuple_of, d_is_integer] [g_l_pool, g_l_draw, g_l_fields, g_l_same, g_sheet_cost, g_l_costs, g_l_bent, g_l_due, g_tuple_of, g_is_integer] := Tow.snoc (ds := [d_l_pool, d_l_draw, d_l_fields, d_l_same, d_sheet_cost, d_l_costs, d_l_bent, d_l_due, d_tuple_of]) (G := [g_l_pool, g_l_draw, g_l_fields, g_l_same, g_sheet_cost, g_l_costs, g_l_bent, g_l_due, g_tuple_of]) (d := d_is_integer) t_tuple_of o_is_integer
theorem t_integer_within : Tow freeN consN xcsN xallN [d_l_pool, d_l_draw, d_l_fields, d_l_same, d_sheet_cost, d_l_costs, d_l_bent, d_l_due, d_tuple_of, d_is_integer, d_integer_within] [g_l_pool, g_l_draw, g_l_fields, g_l_same, g_sheet_cost, g_l_costs, g_l_bent, g_l_due, g_tuple_of, g_is_integer, g_integer_within] := Tow.snoc (ds := [d_l_pool, d_l_draw, d_l_fields, d_l_same, d_sheet_cost, d_l_costs, d_l_bent, d_l_due, d_tuple_of, d_is_integer]) (G := [g_l_pool, g_l_draw, g_l_fields, g_l_same, g_sheet_cost, g_l_costs, g_l_bent, g_l_due, g_tuple_of, g_is_integer]) (d := d_integer_within) t_is_integer o_integer_within
theorem t_check_prices : Tow freeN consN xcsN xallN [d_l_pool, d_l_draw, d_l_fields, d_l_same, d_sheet_cost, d_l_costs, d_l_bent, d_l_due, d_tuple_of, d_is_integer, d_integer_within, d_check_prices] [g_l_pool, g_l_draw, g_l_fields, g_l_same, g_sheet_cost, g_l_costs, g_l_bent, g_l_due, g_tuple_of, g_is_integer, g_integer_within, g_check_prices] := Tow.snoc (ds := [d_l_pool, d_l_draw, d_l_fields, d_l_same, d_sheet_cost, d_l_costs, d_l_bent, d_l_due, d_tuple_of, d_is_integer, d_integer_within]) (G := [g_l_pool, g_l_draw, g_l_fields, g_l_same, g_sheet_cost, g_l_costs, g_l_bent, g_l_due, g_tuple_of, g_is_integer, g_integer_within]) (d := d_check_prices) t_integer_within o_check_prices
theorem t_l_heard : Tow freeN consN xcsN xallN [d_l_pool, d_l_draw, d_l_fields, d_l_same, d_sheet_cost, d_l_costs, d_l_bent, d_l_due, d_tuple_of, d_is_integer, d_integer_within, d_check_prices, d_l_heard] [g_l_pool, g_l_draw, g_l_fields, g_l_same, g_sheet_cost, g_l_costs, g_l_bent, g_l_due, g_tuple_of, g_is_integer, g_integer_within, g_check_prices, g_l_heard] := Tow.snoc (ds := [d_l_pool, d_l_draw, d_l_fields, d_l_same, d_sheet_cost, d_l_costs, d_l_bent, d_l_due, d_tuple_of, d_is_integer, d_integer_within, d_check_prices]) (G := [g_l_pool, g_l_draw, g_l_fields, g_l_same, g_sheet_cost, g_l_costs, g_l_bent, g_l_due, g_tuple_of, g_is_integer, g_integer_within, g_check_prices]) (d := d_l_heard) t_check_prices o_l_heard
theorem t_law : Tow freeN consN xcsN xallN [d_l_pool, d_l_draw, d_l_fields, d_l_same, d_sheet_cost, d_l_costs, d_l_bent, d_l_due, d_tuple_of, d_is_integer, d_integer_within, d_check_prices, d_l_heard, d_law] [g_l_pool, g_l_draw, g_l_fields, g_l_same, g_sheet_cost, g_l_costs, g_l_bent, g_l_due, g_tuple_of, g_is_integer, g_integer_within, g_check_prices, g_l_heard, g_law] := Tow.snoc (ds := [d_l_pool, d_l_draw, d_l_fields, d_l_same, d_sheet_cost, d_l_costs, d_l_bent, d_l_due, d_tuple_of, d_is_integer, d_integer_within, d_check_prices, d_l_heard]) (G := [g_l_pool, g_l_draw, g_l_fields, g_l_same, g_sheet_cost, g_l_costs, g_l_bent, g_l_due, g_tuple_of, g_is_integer, g_integer_within, g_check_prices, g_l_heard]) (d := d_law) t_l_heard o_law
end Ltrueatonce_k29_prices_costs

set_option Elab.async false
set_option linter.all false
set_option maxRecDepth 100000
set_option maxHeartbeats 4000000
namespace Ltrueatonce_k29_prices_costs
open PySem PySem.Spec PyProof.Rows L2 RZ Tri
local macro_rules | `(tactic| walk_at "ev") => `(tactic| simp (config := {decide := true, implicitDefEqProofs := false}) only [Tri.fn_eq, Tri.fnO_nx, Tri.fnO_rt, Tri.fnO_ex, Tri.k_ok, Tri.k_ex, Tri.k_no, Tri.st_ok, Tri.st_ex, Tri.st_no, Tri.runs_cons, Tri.runs_nil, Tri.seq_nx, Tri.seq_rt, Tri.seq_bk, Tri.seq_ct, Tri.seq_ex, Tri.seq_no, Tri.seq_nil, Tri.tst_bl, Tri.evD_v, Tri.evD_tmp, Tri.evD_ex, Tri.okv_eq, Tri.noex_ok, Tri.r_expr, Tri.r_ret, Tri.r_retN, Tri.r_pass, Tri.r_brk, Tri.r_cont, Tri.r_set, Tri.nxo_some, Tri.r_asg, Tri.r_par, Tri.nxm_some, Tri.r_setIx, Tri.augR_some, Tri.r_aug, Tri.ifS_t, Tri.ifS_f, Tri.r_ife, Tri.r_whl, Tri.r_for, Tri.v_non, Tri.v_bl, Tri.v_int, Tri.v_str, Tri.slot_some, Tri.v_var, Tri.v_con, Tri.v_bin, Tri.negQ_int, Tri.v_neg, Tri.v_not, Tri.andR_t, Tri.andR_f, Tri.orR_t, Tri.orR_f, Tri.v_and, Tri.v_or, Tri.ifR_t, Tri.ifR_f, Tri.v_ife, Tri.v_cmp, Tri.v_cmp2, Tri.cmpE_int, Tri.cmp3_f, Tri.cmp3_t, Tri.cmpI, Tri.v_isN, Tri.v_notN, Tri.v_isi, Tri.v_tup, Tri.v_lst, Tri.v_ix, Tri.v_sl, Tri.callR_some, Tri.v_call, Tri.v_callK, Tri.v_lrg1, Tri.v_lrg2, Tri.v_b1, Tri.v_b2, Tri.v_m0, Tri.m1R_ref, Tri.v_m1, Tri.v_lc, Tri.a_app, Tri.a_ext, Tri.a_pop, Tri.s_nil, Tri.s_cons, Tri.o_no, Tri.intO_int, Tri.o_so, Tri.c_no, Tri.c_so, Tri.i_seq, Tri.i_rg1, Tri.i_rg2, Tri.i_en, Tri.i_zip, Tri.src_tmp, Tri.src_tup, Tri.srcO_some, Tri.src_ref, Tri.src_f, Tri.rg1_ok, Tri.rg1_int, Tri.rg2_ok, Tri.en_tmp, Tri.zip_tup, Tri.tupQ_ok, Tri.lstQ_ok, Tri.bn_add, Tri.bn_addr, Tri.catO_some, Tri.bn_addt, Tri.bn_sub, Tri.bn_mod, Tri.bn_div, Tri.bn_mulr, Tri.bn_mull, Tri.ofB_some, Tri.cm_lt, Tri.cm_le, Tri.cm_gt, Tri.cm_ge, Tri.cm_eq, Tri.cm_ne, Tri.cm_eqb, Tri.cm_neb, Tri.ixO_some, Tri.ix_t, Tri.ix_m, Tri.ixR_some, Tri.ix_r, Tri.lstO_some, Tri.len_t, Tri.len_m, Tri.len_f, Tri.len_r, Tri.int_i, Tri.int_b, Tri.tup_t, Tri.tup_m, Tri.tup_r, Tri.lst_t, Tri.sorted_tu, Tri.lst_m, Tri.lst_r, Tri.min_i, Tri.max_i, Tri.appO_some, Tri.app_r, Tri.extO_some, Tri.ext_m, Tri.ext_r, Tri.pop_r, Tri.popO_some, Tri.six_r, Tri.setO_some, Tri.asg_n, Tri.asg_t, Tri.sa_nil, Tri.sa_cons, Tri.aug_add, Tri.aug_sub, Tri.isA_all, Tri.fl_BadName_at_, Tri.fl_BadFields_at_, Tri.fl_BadFields_word, Tri.fl_BadLadder_at_, Tri.fl_BadLadder_word, Tri.fl_BadReading_at_, Tri.fl_BadReading_word, Tri.fl_BadSight_at_, Tri.fl_BadStep_word, Tri.fl_BadText_line, Tri.fl_BadText_word, Tri.fl_BadCommand_line, Tri.fl_NoSuch_word, Tri.fl_NoSuch_name, Tri.fl_Taken_name, Tri.raisS_ok, Tri.r_rais, Tri.r_try, Tri.try_nx, Tri.try_rt, Tri.try_ex, Tri.handR_t, Tri.handR_f, Tri.hands_nil, Tri.hands_cons, Tri.sok_none, Tri.sok_some, Tri.wipeO_none, Tri.wipeO_some, Tri.xend_nx, Tri.xend_v, Tri.xend_tmp, Tri.xs_nil, Tri.xs_cons, Tri.xseq_nx, Tri.xseq_rt, Tri.xretO_some, Tri.x_ret, Tri.x_pass, Tri.xif_t, Tri.xif_f, Tri.x_ife, Tri.t_isx, Tri.t_isxs, Tri.t_not, Tri.t_and, Tri.t_or, Tri.e_non, Tri.e_bl, Tri.e_int, Tri.e_str, Tri.xslot_some, Tri.e_var, Tri.e_fld, Tri.xifE_t, Tri.xifE_f, Tri.e_ife, Tri.xtup_some, Tri.xlst_some, Tri.e_tup, Tri.e_lst, Tri.es_nil, Tri.xcons_some, Tri.es_cons, Tri.v_dnew, Tri.v_disp, Tri.dispR_t, Tri.dispQ_ok, Tri.v_dget, Tri.v_din, Tri.r_dset, Tri.dR_t, Tri.dlkO_some, Tri.dget_d, Tri.din_d, Tri.dset_d, Tri.dsR_ok, Tri.keyOk_i, Tri.keyOk_s, Tri.keyOk_ii, Tri.keyOk_si, Tri.keyOk_is, Tri.keyOk_iii, Tri.i_zip3, Tri.en_tup, Tri.zip3_tup, Tri.v_rev, Tri.rev_m, Tri.rev_r, Tri.sl_t, Tri.sl_m, Tri.sl_f, Tri.sl_r, Tri.addO_some, Tri.bn_rm, Tri.bn_mm, Tri.asg_nst, Tri.ats_nil, Tri.ats_cons, Tri.isNon, Tri.isiR, Tri.isiQ, Tri.tyOf, Tri.at_mid, Tri.set_mid,
  List.map_cons, List.map_nil, List.cons_append, List.nil_append, List.append_assoc, List.length_append, Tri.at_off, Tri.set_off, List.length_cons, List.length_nil, List.length_map, List.replicate_succ, List.replicate_zero, List.getElem?_cons_zero, List.getElem?_cons_succ, List.set_cons_zero, List.set_cons_succ, Option.bind_some, Option.map_some, Nat.reduceAdd, Nat.reduceSub, Nat.zero_add, if_true, Bool.false_eq_true, if_false, ite_true, ite_false, decide_true, decide_false, Bool.not_true, Bool.not_false, Bool.or_true, Bool.or_false, Bool.false_or, Bool.and_false, Bool.false_and, Tri.ty_ne, Bool.true_or, Bool.and_true, Bool.true_and, Int.toNat_one, Int.toNat_zero, Int.reduceToNat, Int.reduceLT, Int.reduceLE, Nat.reduceLT, Int.toNat_natCast, Int.natCast_nonneg, beq_self_eq_true, *])
/-- the pool: a number, great cells behind it -/
structure Dice where
  a : Int
  gs : List Int
def W (s : Dice) (L : Store) : Store := .lst (.int s.a :: s.gs.map .int) :: L
theorem W_app (s : Dice) (L G : Store) : W s L ++ G = W s (L ++ G) := rfl
theorem W_len (s : Dice) (L : Store) : (W s L).length = L.length + 1 := rfl
theorem W_at (s : Dice) (L : Store) (n : Nat) : (W s L)[n + 1]? = L[n]? := rfl
theorem W_set (s : Dice) (L : Store) (n : Nat) (c : MO) : (W s L).set (n + 1) c = W s (L.set n c) := rfl
theorem abs_i {i : Int} {M : Store} : b1Q .abs (.v (.int i)) M = .ok (.v (.int (if i < 0 then -i else i))) M := rfl
theorem pool_ok (ns : List Int) (h : ns.length ≤ 63) : ∃ s, s.gs.length ≤ 63 ∧ g_l_pool [scriptD ns] [] = .ok (.ref 0) (W s []) := by
  suffices h : (g_l_pool [scriptD ns] []).ens fun d M' => d = .ref 0 ∧ ∃ s, s.gs.length ≤ 63 ∧ M' = W s [] by
    obtain ⟨d, M', e, rfl, s, h, rfl⟩ := h
    exact ⟨s, h, e⟩
  have sl : ∀ M, slQ (.v (.fzl (ns.map .int))) none (some 63) M = .ok (.tmp ((cut ns none (some 63)).map .int)) M := fun M => by
    show R.ok (Q.tmp (cut (ns.map D.int) none (some 63))) M = _
    unfold cut
    rw [List.length_map, ← List.map_drop, ← List.map_take]
  have hl : (cut ns none (some 63)).length ≤ 63 := Nat.le_trans (cut_len _ _ _) h
  generalize cut ns none (some 63) = xs at sl hl
  obtain ⟨P, hP, hP2⟩ : ∃ P : Int, 0 < P ∧ ∀ M, binQ .LShift (.v (.int 1)) (.v (.int 2000)) M = .ok (.v (.int P)) M := ⟨1 * 2 ^ (2000 : Int).toNat, by decide +kernel, fun M => bn_shl (by decide +kernel)⟩
  obtain ⟨T, hT⟩ : ∃ T : Int, ∀ M, binQ .Pow (.v (.int 10)) (.v (.int 18)) M = .ok (.v (.int T)) M := ⟨_, fun M => bn_pow (by decide +kernel)⟩
  unfold g_l_pool b_l_pool scriptD
  apply ens_fn
  clear h
  walk_at "ev"
  apply ens_seq
  refine forQ_ens (fun j τ M' => ∃ (s : Dice) (a3 a4 : Option D), τ = [some (.fzl (ns.map .int)), some (.ref 0), a3, a4] ∧ M' = [.lst (.int s.a :: s.gs.map .int)] ∧ s.gs.length ≤ j) ⟨⟨_, []⟩, none, none, rfl, rfl, Nat.le_refl _⟩ ?_ ?_
  · rintro j x τ M' hx ⟨⟨w, pool⟩, a3, a4, rfl, rfl, hp⟩
    have hj := (List.getElem?_eq_some_iff.mp hx).1
    rw [List.length_map] at hj
    rw [List.getElem?_map] at hx
    obtain ⟨v, _, rfl⟩ := Option.map_eq_some_iff.mp hx
    clear hx
    dsimp only at hp ⊢
    refine ⟨_, asg_n, .inl ?_⟩
    have ab : ∀ M, b1Q .abs (.v (.int v)) M = .ok (.v (.int (if v < 0 then -v else v))) M := fun M => rfl
    generalize (if v < 0 then -v else v) = u at ab
    obtain ⟨u2, hu⟩ : ∃ u2 : Int, u2 = u % P := ⟨_, rfl⟩
    have md : ∀ M, binQ .Mod (.v (.int u)) (.v (.int P)) M = .ok (.v (.int u2)) M := fun M => by rw [bn_mod hP, hu]
    have z0 : 0 < pool.length + 1 := Nat.succ_pos _
    have l3 : pool.length + 1 < lim := by unfold lim; omega
    have l3' : (List.map D.int pool).length + 1 < lim := by rw [List.length_map]; unfold lim; omega
    have l4 : (D.int w :: List.map D.int pool).length < lim := l3'
    generalize cb : decide (v < 0) = b at *
    clear hu hP hl cb
    cases b with
    | true =>
      by_cases c : T ≤ u2
      · have c1 : decide (T ≤ u2) = true := decide_eq_true c
        walk_at "ev"
        exact ens_nx ⟨⟨_, pool ++ [u2]⟩, _, _, rfl, by rw [List.map_append]; rfl, by rw [List.length_append]; simp; omega⟩
      · have c1 : decide (T ≤ u2) = false := decide_eq_false c
        walk_at "ev"
        exact ens_nx ⟨⟨_, pool⟩, _, _, rfl, rfl, by dsimp only; omega⟩
    | false =>
      by_cases c : T ≤ u2
      · have c1 : decide (T ≤ u2) = true := decide_eq_true c
        walk_at "ev"
        exact ens_nx ⟨⟨_, pool ++ [u2]⟩, _, _, rfl, by rw [List.map_append]; rfl, by rw [List.length_append]; simp; omega⟩
      · have c1 : decide (T ≤ u2) = false := decide_eq_false c
        walk_at "ev"
        exact ens_nx ⟨⟨_, pool⟩, _, _, rfl, rfl, by dsimp only; omega⟩
  · rintro τ M' ⟨s, a3, a4, rfl, rfl, hp⟩
    rw [List.length_map] at hp
    have hp2 : s.gs.length ≤ 63 := by omega
    clear hl hp
    walk_at "ev"
    exact ens_rt ⟨rfl, s, hp2, rfl⟩
theorem draw_ok (s : Dice) (L : Store) {m : Int} (hs : s.gs.length ≤ 63) (hm : 0 < m) (hm2 : m < 1073741824) : ∃ (r : Int) (s' : Dice), g_l_draw [.ref 0, .int m] (W s L) = .ok (.int r) (W s' L) ∧ s'.gs.length ≤ 63 ∧ 0 ≤ r ∧ r < m := by
  obtain ⟨a, gs⟩ := s
  dsimp only at hs
  rcases gs.eq_nil_or_concat with rfl | ⟨p, x, rfl⟩
  · refine ⟨((a * 44017 + 953) % 2147483543 / 59) % m, ⟨(a * 44017 + 953) % 2147483543, []⟩, ?_, hs, Int.emod_nonneg _ (by omega), Int.emod_lt_of_pos _ hm⟩
    unfold g_l_draw b_l_draw W
    walk_at "ev"
  · rw [List.concat_eq_append] at hs ⊢
    rw [List.length_append, List.length_singleton] at hs
    have e1 : D.int a :: (List.map D.int (p ++ [x])) = (D.int a :: List.map D.int p) ++ [.int x] := by simp
    have e2 : decide ((1 : Int) < ((p.length + 1 + 1 : Nat) : Int)) = true := decide_eq_true (by omega)
    have e3 : decide ((1 : Int) < (((D.int a :: List.map D.int p).length + 1 : Nat) : Int)) = true := decide_eq_true (by rw [List.length_cons]; omega)
    have l3 : (D.int a :: List.map D.int p).length < lim := by rw [List.length_cons, List.length_map]; unfold lim; omega
    have l4 : p.length + 1 < lim := by unfold lim; omega
    by_cases c : m ≤ x
    · have c1 : decide (m ≤ x) = true := decide_eq_true c
      refine ⟨x % m, ⟨a, p ++ [x / m]⟩, ?_, by rw [List.length_append, List.length_singleton]; omega, Int.emod_nonneg _ (by omega), Int.emod_lt_of_pos _ hm⟩
      unfold g_l_draw b_l_draw W
      dsimp only
      rw [e1]
      have e4 : D.int a :: (List.map D.int (p ++ [x / m])) = (D.int a :: List.map D.int p) ++ [.int (x / m)] := by simp
      rw [e4]
      generalize D.int a :: List.map D.int p = P at *
      clear hs e1 e4
      walk_at "ev"
    · have c1 : decide (m ≤ x) = false := decide_eq_false c
      refine ⟨x % m, ⟨a, p⟩, ?_, by dsimp only; omega, Int.emod_nonneg _ (by omega), Int.emod_lt_of_pos _ hm⟩
      unfold g_l_draw b_l_draw W
      dsimp only
      rw [e1]
      generalize D.int a :: List.map D.int p = P at *
      clear hs e1
      walk_at "ev"

theorem draw_nat (s : Dice) (L : Store) {m : Int} (hs : s.gs.length ≤ 63) (hm : 0 < m) (hm2 : m < 1073741824) : ∃ (r : Nat) (s' : Dice), g_l_draw [.ref 0, .int m] (W s L) = .ok (.int r) (W s' L) ∧ s'.gs.length ≤ 63 ∧ (r : Int) < m := by
  obtain ⟨r, s', e, h1, h2, h3⟩ := draw_ok s L (m := m) hs (by omega) (by omega)
  refine ⟨r.toNat, s', ?_, h1, by omega⟩
  rw [e, Int.toNat_of_nonneg h2]

end Ltrueatonce_k29_prices_costs

set_option Elab.async false
set_option linter.all false
set_option maxRecDepth 100000
set_option maxHeartbeats 4000000
namespace Ltrueatonce_k29_prices_costs
open PySem PySem.Spec PyProof.Rows L2 RZ Tri
local macro_rules | `(tactic| walk_at "ev") => `(tactic| simp (config := {decide := true, implicitDefEqProofs := false}) only [Tri.fn_eq, Tri.fnO_nx, Tri.fnO_rt, Tri.fnO_ex, Tri.k_ok, Tri.k_ex, Tri.k_no, Tri.st_ok, Tri.st_ex, Tri.st_no, Tri.runs_cons, Tri.runs_nil, Tri.seq_nx, Tri.seq_rt, Tri.seq_bk, Tri.seq_ct, Tri.seq_ex, Tri.seq_no, Tri.seq_nil, Tri.tst_bl, Tri.evD_v, Tri.evD_tmp, Tri.evD_ex, Tri.okv_eq, Tri.noex_ok, Tri.r_expr, Tri.r_ret, Tri.r_retN, Tri.r_pass, Tri.r_brk, Tri.r_cont, Tri.r_set, Tri.nxo_some, Tri.r_asg, Tri.r_par, Tri.nxm_some, Tri.r_setIx, Tri.augR_some, Tri.r_aug, Tri.ifS_t, Tri.ifS_f, Tri.r_ife, Tri.r_whl, Tri.r_for, Tri.v_non, Tri.v_bl, Tri.v_int, Tri.v_str, Tri.slot_some, Tri.v_var, Tri.v_con, Tri.v_bin, Tri.negQ_int, Tri.v_neg, Tri.v_not, Tri.andR_t, Tri.andR_f, Tri.orR_t, Tri.orR_f, Tri.v_and, Tri.v_or, Tri.ifR_t, Tri.ifR_f, Tri.v_ife, Tri.v_cmp, Tri.v_cmp2, Tri.cmpE_int, Tri.cmp3_f, Tri.cmp3_t, Tri.cmpI, Tri.v_isN, Tri.v_notN, Tri.v_isi, Tri.v_tup, Tri.v_lst, Tri.v_ix, Tri.v_sl, Tri.callR_some, Tri.v_call, Tri.v_callK, Tri.v_lrg1, Tri.v_lrg2, Tri.v_b1, Tri.v_b2, Tri.v_m0, Tri.m1R_ref, Tri.v_m1, Tri.v_lc, Tri.a_app, Tri.a_ext, Tri.a_pop, Tri.s_nil, Tri.s_cons, Tri.o_no, Tri.intO_int, Tri.o_so, Tri.c_no, Tri.c_so, Tri.i_seq, Tri.i_rg1, Tri.i_rg2, Tri.i_en, Tri.i_zip, Tri.src_tmp, Tri.src_tup, Tri.srcO_some, Tri.src_ref, Tri.src_f, Tri.rg1_ok, Tri.rg1_int, Tri.rg2_ok, Tri.en_tmp, Tri.zip_tup, Tri.tupQ_ok, Tri.lstQ_ok, Tri.bn_add, Tri.bn_addr, Tri.catO_some, Tri.bn_addt, Tri.bn_sub, Tri.bn_mod, Tri.bn_div, Tri.bn_mulr, Tri.bn_mull, Tri.ofB_some, Tri.cm_lt, Tri.cm_le, Tri.cm_gt, Tri.cm_ge, Tri.cm_eq, Tri.cm_ne, Tri.cm_eqb, Tri.cm_neb, Tri.ixO_some, Tri.ix_t, Tri.ix_m, Tri.ixR_some, Tri.ix_r, Tri.lstO_some, Tri.len_t, Tri.len_m, Tri.len_f, Tri.len_r, Tri.int_i, Tri.int_b, Tri.tup_t, Tri.tup_m, Tri.tup_r, Tri.lst_t, Tri.sorted_tu, Tri.lst_m, Tri.lst_r, Tri.min_i, Tri.max_i, Tri.appO_some, Tri.app_r, Tri.extO_some, Tri.ext_m, Tri.ext_r, Tri.pop_r, Tri.popO_some, Tri.six_r, Tri.setO_some, Tri.asg_n, Tri.asg_t, Tri.sa_nil, Tri.sa_cons, Tri.aug_add, Tri.aug_sub, Tri.isA_all, Tri.fl_BadName_at_, Tri.fl_BadFields_at_, Tri.fl_BadFields_word, Tri.fl_BadLadder_at_, Tri.fl_BadLadder_word, Tri.fl_BadReading_at_, Tri.fl_BadReading_word, Tri.fl_BadSight_at_, Tri.fl_BadStep_word, Tri.fl_BadText_line, Tri.fl_BadText_word, Tri.fl_BadCommand_line, Tri.fl_NoSuch_word, Tri.fl_NoSuch_name, Tri.fl_Taken_name, Tri.raisS_ok, Tri.r_rais, Tri.r_try, Tri.try_nx, Tri.try_rt, Tri.try_ex, Tri.handR_t, Tri.handR_f, Tri.hands_nil, Tri.hands_cons, Tri.sok_none, Tri.sok_some, Tri.wipeO_none, Tri.wipeO_some, Tri.xend_nx, Tri.xend_v, Tri.xend_tmp, Tri.xs_nil, Tri.xs_cons, Tri.xseq_nx, Tri.xseq_rt, Tri.xretO_some, Tri.x_ret, Tri.x_pass, Tri.xif_t, Tri.xif_f, Tri.x_ife, Tri.t_isx, Tri.t_isxs, Tri.t_not, Tri.t_and, Tri.t_or, Tri.e_non, Tri.e_bl, Tri.e_int, Tri.e_str, Tri.xslot_some, Tri.e_var, Tri.e_fld, Tri.xifE_t, Tri.xifE_f, Tri.e_ife, Tri.xtup_some, Tri.xlst_some, Tri.e_tup, Tri.e_lst, Tri.es_nil, Tri.xcons_some, Tri.es_cons, Tri.v_dnew, Tri.v_disp, Tri.dispR_t, Tri.dispQ_ok, Tri.v_dget, Tri.v_din, Tri.r_dset, Tri.dR_t, Tri.dlkO_some, Tri.dget_d, Tri.din_d, Tri.dset_d, Tri.dsR_ok, Tri.keyOk_i, Tri.keyOk_s, Tri.keyOk_ii, Tri.keyOk_si, Tri.keyOk_is, Tri.keyOk_iii, Tri.i_zip3, Tri.en_tup, Tri.zip3_tup, Tri.v_rev, Tri.rev_m, Tri.rev_r, Tri.sl_t, Tri.sl_m, Tri.sl_f, Tri.sl_r, Tri.addO_some, Tri.bn_rm, Tri.bn_mm, Tri.asg_nst, Tri.ats_nil, Tri.ats_cons, Tri.isNon, Tri.isiR, Tri.isiQ, Tri.tyOf, Tri.at_mid, Tri.set_mid,
  List.map_cons, List.map_nil, List.cons_append, List.nil_append, List.append_assoc, List.length_append, Tri.at_off, Tri.set_off, List.length_cons, List.length_nil, List.length_map, List.replicate_succ, List.replicate_zero, List.getElem?_cons_zero, List.getElem?_cons_succ, List.set_cons_zero, List.set_cons_succ, Option.bind_some, Option.map_some, Nat.reduceAdd, Nat.reduceSub, Nat.zero_add, if_true, Bool.false_eq_true, if_false, ite_true, ite_false, decide_true, decide_false, Bool.not_true, Bool.not_false, Bool.or_true, Bool.or_false, Bool.false_or, Bool.and_false, Bool.false_and, Tri.ty_ne, Bool.true_or, Bool.and_true, Bool.true_and, Int.toNat_one, Int.toNat_zero, Int.reduceToNat, Int.reduceLT, Int.reduceLE, Nat.reduceLT, Int.toNat_natCast, Int.natCast_nonneg, beq_self_eq_true, *])
/-- all alike: told true (what is left behind is not told) -/
theorem same_ok {d : D} (M : Store) (hp : plainD d = true) (hz : szD d ≤ lim) : ∃ G, g_l_same [d, d] M = .ok (.bl true) (M ++ G) := by
  suffices h : (g_l_same [d, d] M).ens fun r M' => r = .bl true ∧ ∃ G, M' = M ++ G by
    obtain ⟨r, M', e, rfl, G, rfl⟩ := h
    exact ⟨G, e⟩
  unfold g_l_same b_l_same
  apply ens_fn
  walk_at "ev"
  apply ens_seq
  refine RS.ens.mono (P := fun τ M' => ∃ G, M' = M ++ G) (Q := fun r M' => r = .bl true ∧ ∃ G, M' = M ++ G) (whlQ_ens (fun m τ M' => ∃ ws G x3 x4 x5, τ = [some d, some d, some (.ref (M.length + List.length G)), x3, x4, x5] ∧ M' = M ++ (G ++ [.lst (dup ws)]) ∧ plainDs ws = true ∧ szDs ws = m ∧ m ≤ lim) ?_ _ _ _ ⟨[d], [], none, none, none, rfl, rfl, by simp [plainDs, hp], rfl, by simp [szDs, hz]⟩) ?_ fun _ _ h => h
  · rintro m τ M' ⟨ws, G, x3, x4, x5, rfl, rfl, h1, h2, h3⟩
    have ea : ∀ c : MO, (M ++ (G ++ [c]))[M.length + G.length]? = some c := fun c => by rw [at_off, at_mid]
    have es : ∀ c c' : MO, (M ++ (G ++ [c])).set (M.length + G.length) c' = M ++ (G ++ [c']) := fun c c' => by rw [set_off, set_mid]
    rcases ws.eq_nil_or_concat with rfl | ⟨ws, w, rfl⟩
    · walk_at "ev"
      refine ⟨_, _, rfl, fun _ => ⟨_, rfl⟩, fun h => ?_⟩
      simp [dup] at h
    · rw [List.concat_eq_append] at h1 h2 ⊢
      have e1 : decide ((0 : Int) < (((dup ws).length + 1 : Nat) : Int)) = true := decide_eq_true (by omega)
      have e2 : dup (ws ++ [w]) = dup ws ++ [.tup [w, w]] := by simp [dup]
      have h4 : szDs ws + szD w = m := by rw [← h2, szDs_append]; simp [szDs]
      rw [plainDs_append, Bool.and_eq_true] at h1
      obtain ⟨h5, h6⟩ := h1
      simp only [plainDs, Bool.and_true] at h6
      have hpos := szD_pos w
      rw [e2]
      have ce : tst (evq [g_l_pool, g_l_draw, g_l_fields] (E.cmp CmpOp.Gt (E.b1 B1.len (E.var 2)) (E.int 0)) [some d, some d, some (.ref (M.length + G.length)), x3, x4, x5] (M ++ (G ++ [.lst (dup ws ++ [.tup [w, w]])]))) = .ok true (M ++ (G ++ [.lst (dup ws ++ [.tup [w, w]])])) := by walk_at "ev"
      refine ⟨_, _, ce, (fun h => absurd h (by decide)), fun _ => ?_⟩
      clear ce
      clear e1 e2 h2
      have fin : ∀ x5, (∃ m', m' < m ∧ ∃ ws2 G2 x3 x4 x5', [some d, some d, some (.ref (M.length + G.length)), some w, some w, x5] = [some d, some d, some (.ref (M.length + List.length G2)), x3, x4, x5'] ∧ M ++ (G ++ [.lst (dup ws)]) = M ++ (G2 ++ [.lst (dup ws2)]) ∧ plainDs ws2 = true ∧ szDs ws2 = m' ∧ m' ≤ lim) := fun x5 => ⟨szDs ws, by omega, ws, G, _, _, _, rfl, rfl, h5, rfl, by omega⟩
      cases w with
      | non => walk_at "ev"; exact ens_nx (fin _)
      | bl b => walk_at "ev"; exact ens_nx (fin _)
      | int b => walk_at "ev"; exact ens_nx (fin _)
      | str b =>
        have q2 := ne_str (M := M ++ (G ++ [.lst (dup ws)])) h6
        walk_at "ev"; exact ens_nx (fin _)
      | ref b => cases h6
      | fzl b => cases h6
      | dct a b => cases h6
      | tup xs =>
        have l1 := len_le_szDs xs
        simp only [szD] at h4
        have l2 : xs.length ≤ lim := by omega
        have l3 : rg1Q (.v (.int xs.length)) (M ++ (G ++ [.lst (dup ws)])) = .ok ⟨none, rng 0 xs.length⟩ (M ++ (G ++ [.lst (dup ws)])) := rg1_len l2
        have l5 : (dup ws).length + (dup xs).length ≤ lim := by
          have := len_le_szDs ws
          simp only [dup, List.length_map]
          omega
        have h6' : plainDs xs = true := by simpa only [plainD] using h6
        have dt : ∀ (i : Nat) (a : D), xs[i]? = some a → dup (xs.take (i + 1)) = dup (xs.take i) ++ [.tup [a, a]] := fun i a h => by
          rw [List.take_add_one, h]
          simp [dup]
        walk_at "ev"
        refine forQ_ens (fun j τ M1 => ∃ x5, τ = [some d, some d, some (.ref (M.length + G.length)), some (.tup xs), some (.tup xs), x5] ∧ M1 = M ++ (G ++ [.lst (dup ws ++ dup (xs.take j))])) ⟨_, rfl, by simp [dup]⟩ ?_ ?_
        · rintro j x τ M1 hx ⟨x5, rfl, rfl⟩
          obtain ⟨hj, rfl⟩ := rng_get hx
          have hj' : j < xs.length := by omega
          have l6 : (dup ws).length + j < lim := by
            have : (dup ws).length + (dup xs).length ≤ lim := l5
            have : (dup xs).length = xs.length := by simp [dup]
            omega
          have l7 : (dup ws).length + (dup (xs.take j)).length < lim := by
            have : (dup (xs.take j)).length ≤ j := by simp [dup]; omega
            omega
          have g := dt j xs[j] (List.getElem?_eq_getElem hj')
          have g2 : xs[j]? = some xs[j] := List.getElem?_eq_getElem hj'
          generalize xs[j] = a at g g2
          generalize dup (xs.take j) = T at *
          refine ⟨_, asg_n, .inl ?_⟩
          rw [Int.zero_add]
          clear hx hj hj' dt fin l3 l5
          walk_at "ev"
          exact ens_nx ⟨_, rfl, rfl⟩
        · rintro τ M1 ⟨x5, rfl, rfl⟩
          refine ⟨szDs (ws ++ xs), by rw [szDs_append]; omega, ws ++ xs, G, some (.tup xs), some (.tup xs), x5, rfl, ?_, ?_, rfl, by rw [szDs_append]; omega⟩
          · rw [rng_len, show ((xs.length : Int) - 0).toNat = xs.length by omega, List.take_length]
            simp [dup]
          · rw [plainDs_append, h5, Bool.true_and]
            exact h6'
  · rintro τ M' ⟨G, rfl⟩
    walk_at "ev"
    exact ens_rt ⟨rfl, G, rfl⟩

end Ltrueatonce_k29_prices_costs

set_option Elab.async false
set_option linter.all false
set_option maxRecDepth 100000
set_option maxHeartbeats 4000000
namespace Ltrueatonce_k29_prices_costs
open PySem PySem.Spec PyProof.Rows L2 RZ Tri
local macro_rules | `(tactic| walk_at "ev") => `(tactic| simp (config := {decide := true, implicitDefEqProofs := false}) only [Tri.fn_eq, Tri.fnO_nx, Tri.fnO_rt, Tri.fnO_ex, Tri.k_ok, Tri.k_ex, Tri.k_no, Tri.st_ok, Tri.st_ex, Tri.st_no, Tri.runs_cons, Tri.runs_nil, Tri.seq_nx, Tri.seq_rt, Tri.seq_bk, Tri.seq_ct, Tri.seq_ex, Tri.seq_no, Tri.seq_nil, Tri.tst_bl, Tri.evD_v, Tri.evD_tmp, Tri.evD_ex, Tri.okv_eq, Tri.noex_ok, Tri.r_expr, Tri.r_ret, Tri.r_retN, Tri.r_pass, Tri.r_brk, Tri.r_cont, Tri.r_set, Tri.nxo_some, Tri.r_asg, Tri.r_par, Tri.nxm_some, Tri.r_setIx, Tri.augR_some, Tri.r_aug, Tri.ifS_t, Tri.ifS_f, Tri.r_ife, Tri.r_whl, Tri.r_for, Tri.v_non, Tri.v_bl, Tri.v_int, Tri.v_str, Tri.slot_some, Tri.v_var, Tri.v_con, Tri.v_bin, Tri.negQ_int, Tri.v_neg, Tri.v_not, Tri.andR_t, Tri.andR_f, Tri.orR_t, Tri.orR_f, Tri.v_and, Tri.v_or, Tri.ifR_t, Tri.ifR_f, Tri.v_ife, Tri.v_cmp, Tri.v_cmp2, Tri.cmpE_int, Tri.cmp3_f, Tri.cmp3_t, Tri.cmpI, Tri.v_isN, Tri.v_notN, Tri.v_isi, Tri.v_tup, Tri.v_lst, Tri.v_ix, Tri.v_sl, Tri.callR_some, Tri.v_call, Tri.v_callK, Tri.v_lrg1, Tri.v_lrg2, Tri.v_b1, Tri.v_b2, Tri.v_m0, Tri.m1R_ref, Tri.v_m1, Tri.v_lc, Tri.a_app, Tri.a_ext, Tri.a_pop, Tri.s_nil, Tri.s_cons, Tri.o_no, Tri.intO_int, Tri.o_so, Tri.c_no, Tri.c_so, Tri.i_seq, Tri.i_rg1, Tri.i_rg2, Tri.i_en, Tri.i_zip, Tri.src_tmp, Tri.src_tup, Tri.srcO_some, Tri.src_ref, Tri.src_f, Tri.rg1_ok, Tri.rg1_int, Tri.rg2_ok, Tri.en_tmp, Tri.zip_tup, Tri.tupQ_ok, Tri.lstQ_ok, Tri.bn_add, Tri.bn_addr, Tri.catO_some, Tri.bn_addt, Tri.bn_sub, Tri.bn_mod, Tri.bn_div, Tri.bn_mulr, Tri.bn_mull, Tri.ofB_some, Tri.cm_lt, Tri.cm_le, Tri.cm_gt, Tri.cm_ge, Tri.cm_eq, Tri.cm_ne, Tri.cm_eqb, Tri.cm_neb, Tri.ixO_some, Tri.ix_t, Tri.ix_m, Tri.ixR_some, Tri.ix_r, Tri.lstO_some, Tri.len_t, Tri.len_m, Tri.len_f, Tri.len_r, Tri.int_i, Tri.int_b, Tri.tup_t, Tri.tup_m, Tri.tup_r, Tri.lst_t, Tri.sorted_tu, Tri.lst_m, Tri.lst_r, Tri.min_i, Tri.max_i, Tri.appO_some, Tri.app_r, Tri.extO_some, Tri.ext_m, Tri.ext_r, Tri.pop_r, Tri.popO_some, Tri.six_r, Tri.setO_some, Tri.asg_n, Tri.asg_t, Tri.sa_nil, Tri.sa_cons, Tri.aug_add, Tri.aug_sub, Tri.isA_all, Tri.fl_BadName_at_, Tri.fl_BadFields_at_, Tri.fl_BadFields_word, Tri.fl_BadLadder_at_, Tri.fl_BadLadder_word, Tri.fl_BadReading_at_, Tri.fl_BadReading_word, Tri.fl_BadSight_at_, Tri.fl_BadStep_word, Tri.fl_BadText_line, Tri.fl_BadText_word, Tri.fl_BadCommand_line, Tri.fl_NoSuch_word, Tri.fl_NoSuch_name, Tri.fl_Taken_name, Tri.raisS_ok, Tri.r_rais, Tri.r_try, Tri.try_nx, Tri.try_rt, Tri.try_ex, Tri.handR_t, Tri.handR_f, Tri.hands_nil, Tri.hands_cons, Tri.sok_none, Tri.sok_some, Tri.wipeO_none, Tri.wipeO_some, Tri.xend_nx, Tri.xend_v, Tri.xend_tmp, Tri.xs_nil, Tri.xs_cons, Tri.xseq_nx, Tri.xseq_rt, Tri.xretO_some, Tri.x_ret, Tri.x_pass, Tri.xif_t, Tri.xif_f, Tri.x_ife, Tri.t_isx, Tri.t_isxs, Tri.t_not, Tri.t_and, Tri.t_or, Tri.e_non, Tri.e_bl, Tri.e_int, Tri.e_str, Tri.xslot_some, Tri.e_var, Tri.e_fld, Tri.xifE_t, Tri.xifE_f, Tri.e_ife, Tri.xtup_some, Tri.xlst_some, Tri.e_tup, Tri.e_lst, Tri.es_nil, Tri.xcons_some, Tri.es_cons, Tri.v_dnew, Tri.v_disp, Tri.dispR_t, Tri.dispQ_ok, Tri.v_dget, Tri.v_din, Tri.r_dset, Tri.dR_t, Tri.dlkO_some, Tri.dget_d, Tri.din_d, Tri.dset_d, Tri.dsR_ok, Tri.keyOk_i, Tri.keyOk_s, Tri.keyOk_ii, Tri.keyOk_si, Tri.keyOk_is, Tri.keyOk_iii, Tri.i_zip3, Tri.en_tup, Tri.zip3_tup, Tri.v_rev, Tri.rev_m, Tri.rev_r, Tri.sl_t, Tri.sl_m, Tri.sl_f, Tri.sl_r, Tri.addO_some, Tri.bn_rm, Tri.bn_mm, Tri.asg_nst, Tri.ats_nil, Tri.ats_cons, Tri.isNon, Tri.isiR, Tri.isiQ, Tri.tyOf, Tri.at_mid, Tri.set_mid,
  List.map_cons, List.map_nil, List.cons_append, List.nil_append, List.append_assoc, List.length_append, Tri.at_off, Tri.set_off, List.length_cons, List.length_nil, List.length_map, List.replicate_succ, List.replicate_zero, List.getElem?_cons_zero, List.getElem?_cons_succ, List.set_cons_zero, List.set_cons_succ, Option.bind_some, Option.map_some, Nat.reduceAdd, Nat.reduceSub, Nat.zero_add, if_true, Bool.false_eq_true, if_false, ite_true, ite_false, decide_true, decide_false, Bool.not_true, Bool.not_false, Bool.or_true, Bool.or_false, Bool.false_or, Bool.and_false, Bool.false_and, Tri.ty_ne, Bool.true_or, Bool.and_true, Bool.true_and, Int.toNat_one, Int.toNat_zero, Int.reduceToNat, Int.reduceLT, Int.reduceLE, Nat.reduceLT, Int.toNat_natCast, Int.natCast_nonneg, beq_self_eq_true, *])
def notF : D → Bool
  | .fzl _ => false
  | .dct _ _ => false
  | _ => true
def isI : D → Bool
  | .int _ => true
  | _ => false
def getI : D → Int
  | .int i => i
  | _ => 0
/-- a price that may stand -/
def pr : D → Bool
  | .int i => decide (1 ≤ i) && decide (i ≤ 20)
  | _ => false
def scan : Nat → List D → Option Nat
  | _, [] => none
  | i, x :: xs => if pr x then scan (i + 1) xs else some i
inductive Ck where
  | bad (a : Int) | told (n : Int)
def Ck.res (M : Store) : Ck → R D
  | .bad a => .ex .BadSight [.int a] M
  | .told n => .ok (.int n) M
def Ck.due : Ck → D
  | .bad a => .tup [.str "raised", .int a]
  | .told n => .tup [.str "told", .int n]
def chkT (xs : List D) : Ck := match scan 0 xs with
  | some i => .bad i
  | none => .told (xs.map getI).sum
def chkD (n : Nat) : D → Ck
  | .tup xs => if xs.length = n then chkT xs else .bad (-1)
  | _ => .bad (-1)
def okT : D → Bool
  | .tup xs => xs.all notF
  | t => notF t
theorem scan_bad : ∀ (xs : List D) (k j : Nat) (x : D), (xs.take j).all pr = true → xs[j]? = some x → pr x = false → scan k xs = some (k + j)
  | [], _, _, _, _, h, _ => by simp at h
  | y :: xs, k, 0, x, _, h, hp => by
    simp at h
    subst h
    simp [scan, hp]
  | y :: xs, k, j + 1, x, ha, h, hp => by
    simp only [List.take_succ_cons, List.all_cons, Bool.and_eq_true] at ha
    rw [scan, if_pos ha.1, scan_bad xs (k + 1) j x ha.2 (by simpa using h) hp]
    congr 1
    omega
theorem scan_none : ∀ (xs : List D) (k : Nat), xs.all pr = true → scan k xs = none
  | [], _, _ => rfl
  | y :: xs, k, h => by
    simp only [List.all_cons, Bool.and_eq_true] at h
    rw [scan, if_pos h.1, scan_none xs (k + 1) h.2]
theorem pr_int : ∀ {xs : List D}, xs.all pr = true → xs = (xs.map getI).map .int
  | [], _ => rfl
  | x :: xs, h => by
    simp only [List.all_cons, Bool.and_eq_true] at h
    rw [List.map_cons, List.map_cons, ← pr_int h.2]
    cases x with
    | int i => rfl
    | _ => cases h.1
theorem sum_pr {xs : List D} (h : xs.all pr = true) (M : Store) : b1Q .sum (.v (.tup xs)) M = .ok (.v (.int (xs.map getI).sum)) M := by
  have e := pr_int h
  have := sum_tu (bs := xs.map getI) (M := M)
  rwa [← e] at this
theorem isint_ok {a : D} (h : notF a = true) (M : Store) : g_is_integer [a] M = .ok (.bl (isI a)) M := by
  unfold g_is_integer b_is_integer
  cases a with
  | fzl _ => cases h
  | dct _ _ => cases h
  | _ => clear h; walk_at "ev"; try rfl
theorem within_ok {a : D} (h : notF a = true) (M : Store) : g_integer_within [a, .int 1, .int 20] M = .ok (.bl (pr a)) M := by
  have f := fun M => isint_ok h M
  unfold g_integer_within b_integer_within
  cases a with
  | fzl _ => cases h
  | dct _ _ => cases h
  | int i =>
    replace f : ∀ M, g_is_integer [.int i] M = .ok (.bl true) M := f
    clear h
    by_cases c : 1 ≤ i
    · have c1 : decide (1 ≤ i) = true := decide_eq_true c
      walk_at "ev"
      simp [pr, c]
    · have c1 : decide (1 ≤ i) = false := decide_eq_false c
      walk_at "ev"
      simp [pr, c]
  | _ => (replace f := fun M => (f M).trans (show _ = R.ok (.bl false) M from rfl)); clear h; walk_at "ev"; try rfl
def isTn (n : Nat) : D → Bool
  | .tup xs => decide (xs.length = n)
  | _ => false
theorem tuple_ok {t : D} (n : Nat) (h : notF t = true) (M : Store) : g_tuple_of [t, .int n] M = .ok (.bl (isTn n t)) M := by
  unfold g_tuple_of b_tuple_of
  cases t with
  | fzl _ => cases h
  | dct _ _ => cases h
  | tup xs =>
    clear h
    walk_at "ev"
    congr 3
    exact propext ⟨fun h => by omega, fun h => by omega⟩
  | _ => clear h; walk_at "ev"; try rfl
theorem okT_n {t : D} (h : okT t = true) : notF t = true := by
  cases t with
  | fzl _ => cases h
  | dct _ _ => cases h
  | _ => rfl
theorem chk_no {n : Nat} {t : D} (h : isTn n t = false) : chkD n t = .bad (-1) := by
  cases t with
  | tup xs => exact if_neg (of_decide_eq_false h)
  | _ => rfl
theorem chk_yes {n : Nat} {t : D} (h : isTn n t = true) : ∃ xs, t = .tup xs ∧ xs.length = n ∧ chkD n t = chkT xs := by
  cases t with
  | tup xs => exact ⟨xs, rfl, of_decide_eq_true h, if_pos (of_decide_eq_true h)⟩
  | _ => cases h
theorem take_all {xs : List D} {j : Nat} {x : D} (h : xs[j]? = some x) (ha : (xs.take j).all pr = true) (hp : pr x = true) : (xs.take (j + 1)).all pr = true := by
  rw [List.take_add_one, h, List.all_append, ha]
  simp [hp]
theorem chkT_bad {xs : List D} {j : Nat} {x : D} (h : xs[j]? = some x) (ha : (xs.take j).all pr = true) (hp : pr x = false) : chkT xs = .bad j := by
  unfold chkT
  rw [scan_bad xs 0 j x ha h hp]
  simp
theorem chkT_told {xs : List D} (h : xs.all pr = true) : chkT xs = .told (xs.map getI).sum := by
  unfold chkT
  rw [scan_none xs 0 h]
theorem check_ok {fs : List D} {t : D} (h : okT t = true) (M : Store) : g_check_prices [.tup fs, t] M = (chkD fs.length t).res M := by
  have f3 := fun M => tuple_ok fs.length (okT_n h) M
  apply enx_eq
  unfold g_check_prices b_check_prices
  apply enx_fn
  cases c : isTn fs.length t with
  | false =>
    rw [c] at f3
    rw [chk_no c]
    clear h
    walk_at "ev"
    exact enx_ex rfl
  | true =>
    rw [c] at f3
    obtain ⟨xs, rfl, hl, e⟩ := chk_yes c
    rw [e]
    have hx : xs.all notF = true := h
    clear c e hl h
    walk_at "ev"
    apply enx_seq
    refine forQ_enx (fun j τ M1 => ∃ a2 a3, τ = [some (.tup fs), some (.tup xs), a2, a3] ∧ M1 = M ∧ (xs.take j).all pr = true) ⟨_, _, rfl, rfl, rfl⟩ ?_ ?_
    · rintro j y τ M1 hy ⟨a2, a3, rfl, rfl, ha⟩
      obtain ⟨x, hj, rfl⟩ := enum_get hy
      have w := fun M => within_ok (List.all_eq_true.mp hx x (List.mem_of_getElem? hj)) M
      refine ⟨_, by walk_at "ev"; rfl, .inl ?_⟩
      cases q : pr x with
      | true =>
        have ha' := take_all hj ha q
        rw [q] at w
        clear hy hx f3 hj ha q
        walk_at "ev"
        exact enx_nx ⟨_, _, rfl, rfl, trivial⟩
      | false =>
        have ha' := chkT_bad hj ha q
        rw [q] at w
        rw [ha']
        clear hy hx f3 hj ha q ha'
        walk_at "ev"
        exact enx_ex rfl
    · rintro τ M1 ⟨a2, a3, rfl, rfl, ha⟩
      rw [enum_length, List.take_length] at ha
      have su := fun M => sum_pr ha M
      rw [chkT_told ha]
      clear ha hx f3
      walk_at "ev"
      exact enx_rt rfl
theorem ens_eq {r : R D} {d : D} {M' : Store} (h : r.ens fun x M2 => x = d ∧ M2 = M') : r = .ok d M' := by
  obtain ⟨x, M2, e, rfl, rfl⟩ := h
  exact e
theorem due_ok {fs : List D} {t : D} (hf : fs.length ≤ 12) (h : okT t = true) (M : Store) : g_l_due [.tup fs, t] M = .ok (chkD fs.length t).due M := by
  apply ens_eq
  unfold g_l_due b_l_due
  apply ens_fn
  cases c : isTn fs.length t with
  | false =>
    rw [chk_no c]
    have hn := okT_n h
    cases t with
    | fzl _ => cases hn
    | dct _ _ => cases hn
    | tup xs =>
      have hl : xs.length ≠ fs.length := of_decide_eq_false c
      have e : decide ((xs.length : Int) = (fs.length : Int)) = false := decide_eq_false (by omega)
      clear h hn c hl
      walk_at "ev"
      exact ens_rt ⟨rfl, rfl⟩
    | _ => clear h hn c; walk_at "ev"; exact ens_rt ⟨rfl, rfl⟩
  | true =>
    obtain ⟨xs, rfl, hl, e⟩ := chk_yes c
    rw [e]
    have hx : xs.all notF = true := h
    have e1 : decide ((xs.length : Int) = (fs.length : Int)) = true := decide_eq_true (by omega)
    have l1 : ∀ M, rg1Q (.v (.int xs.length)) M = .ok ⟨none, rng 0 xs.length⟩ M := fun M => rg1_len (by unfold lim; omega)
    have e2 : decide ((xs.length : Int) = (fs.length : Int)) = true := e1
    clear c e h hl
    walk_at "ev"
    apply ens_seq
    refine forQ_ens (fun j τ M1 => ∃ a2 a3, τ = [some (.tup fs), some (.tup xs), a2, a3] ∧ M1 = M ∧ (xs.take j).all pr = true) ⟨_, _, rfl, rfl, rfl⟩ ?_ ?_
    · rintro j y τ M1 hy ⟨a2, a3, rfl, rfl, ha⟩
      obtain ⟨hj', rfl⟩ := Tri.rng_get hy
      have hj : xs[j]? = some xs[j] := List.getElem?_eq_getElem (by omega)
      have hn := List.all_eq_true.mp hx _ (List.mem_of_getElem? hj)
      generalize xs[j] = x at hj hn
      rw [Int.zero_add]
      refine ⟨_, asg_n, .inl ?_⟩
      have good : pr x = true → (xs.take (j + 1)).all pr = true := take_all hj ha
      have bad : pr x = false → chkT xs = .bad j := chkT_bad hj ha
      have fin : (runs [g_l_pool, g_l_draw, g_l_fields, g_l_same, g_sheet_cost, g_l_costs, g_l_bent] [.ife (.or (.not (.isi (.var 3) .int)) (.or (.isi (.var 3) .bool) (.not (.cmp2 .LtE .LtE (.int 1) (.var 3) (.int 20))))) [.ret (.tup (.cons (.str "raised") (.cons (.var 2) .nil)))] []] [some (.tup fs), some (.tup xs), some (.int j), some x] M1) = if pr x then .nx [some (.tup fs), some (.tup xs), some (.int j), some x] M1 else .rt (.tup [.str "raised", .int j]) M1 := by
        clear good bad hy hx hj ha l1 e1 e2
        cases x with
        | fzl _ => cases hn
        | dct _ _ => cases hn
        | int i =>
          unfold pr
          clear hn
          cases c1 : decide (1 ≤ i) with
          | false => walk_at "ev"
          | true =>
            cases c2 : decide (i ≤ 20) with
            | false => walk_at "ev"
            | true => walk_at "ev"
        | _ => clear hn; unfold pr; walk_at "ev"
      cases q : pr x with
      | true =>
        have good := good q
        rw [q] at fin
        clear hy hx bad hn
        rw [if_pos rfl] at fin
        refine ens_step (by walk_at "ev"; rfl) ?_
        show (runs _ _ [some (.tup fs), some (.tup xs), some (.int j), some x] M1).ens _ _
        rw [fin]
        exact ens_nx ⟨_, _, rfl, rfl, good⟩
      | false =>
        have bad := bad q
        rw [q] at fin
        rw [bad]
        clear hy hx good hn bad
        refine ens_step (by walk_at "ev"; rfl) ?_
        show (runs _ _ [some (.tup fs), some (.tup xs), some (.int j), some x] M1).ens _ _
        rw [fin, if_neg (by decide)]
        exact ens_rt ⟨rfl, rfl⟩
    · rintro τ M1 ⟨a2, a3, rfl, rfl, ha⟩
      rw [rng_len, show ((xs.length : Int) - 0).toNat = xs.length by omega, List.take_length] at ha
      have su := fun M => sum_pr ha M
      rw [chkT_told ha]
      clear ha hx l1 e1 e2
      walk_at "ev"
      exact ens_rt ⟨rfl, rfl⟩
theorem heard_ok {fs : List D} {t : D} (h : okT t = true) (M : Store) : g_l_heard [.tup fs, t] M = .ok (chkD fs.length t).due M := by
  have f := fun M => check_ok (fs := fs) h M
  unfold g_l_heard b_l_heard
  generalize chkD fs.length t = k at f ⊢
  cases k with
  | bad a =>
    replace f : ∀ M, g_check_prices [.tup fs, t] M = .ex .BadSight [.int a] M := f
    clear h
    walk_at "ev"
    rfl
  | told n =>
    replace f : ∀ M, g_check_prices [.tup fs, t] M = .ok (.int n) M := f
    clear h
    walk_at "ev"
    rfl

end Ltrueatonce_k29_prices_costs

set_option Elab.async false
set_option linter.all false
set_option maxRecDepth 100000
set_option maxHeartbeats 4000000
namespace Ltrueatonce_k29_prices_costs
open PySem PySem.Spec PyProof.Rows L2 RZ Tri
local macro_rules | `(tactic| walk_at "ev") => `(tactic| simp (config := {decide := true, implicitDefEqProofs := false}) only [Tri.fn_eq, Tri.fnO_nx, Tri.fnO_rt, Tri.fnO_ex, Tri.k_ok, Tri.k_ex, Tri.k_no, Tri.st_ok, Tri.st_ex, Tri.st_no, Tri.runs_cons, Tri.runs_nil, Tri.seq_nx, Tri.seq_rt, Tri.seq_bk, Tri.seq_ct, Tri.seq_ex, Tri.seq_no, Tri.seq_nil, Tri.tst_bl, Tri.evD_v, Tri.evD_tmp, Tri.evD_ex, Tri.okv_eq, Tri.noex_ok, Tri.r_expr, Tri.r_ret, Tri.r_retN, Tri.r_pass, Tri.r_brk, Tri.r_cont, Tri.r_set, Tri.nxo_some, Tri.r_asg, Tri.r_par, Tri.nxm_some, Tri.r_setIx, Tri.augR_some, Tri.r_aug, Tri.ifS_t, Tri.ifS_f, Tri.r_ife, Tri.r_whl, Tri.r_for, Tri.v_non, Tri.v_bl, Tri.v_int, Tri.v_str, Tri.slot_some, Tri.v_var, Tri.v_con, Tri.v_bin, Tri.negQ_int, Tri.v_neg, Tri.v_not, Tri.andR_t, Tri.andR_f, Tri.orR_t, Tri.orR_f, Tri.v_and, Tri.v_or, Tri.ifR_t, Tri.ifR_f, Tri.v_ife, Tri.v_cmp, Tri.v_cmp2, Tri.cmpE_int, Tri.cmp3_f, Tri.cmp3_t, Tri.cmpI, Tri.v_isN, Tri.v_notN, Tri.v_isi, Tri.v_tup, Tri.v_lst, Tri.v_ix, Tri.v_sl, Tri.callR_some, Tri.v_call, Tri.v_callK, Tri.v_lrg1, Tri.v_lrg2, Tri.v_b1, Tri.v_b2, Tri.v_m0, Tri.m1R_ref, Tri.v_m1, Tri.v_lc, Tri.a_app, Tri.a_ext, Tri.a_pop, Tri.s_nil, Tri.s_cons, Tri.o_no, Tri.intO_int, Tri.o_so, Tri.c_no, Tri.c_so, Tri.i_seq, Tri.i_rg1, Tri.i_rg2, Tri.i_en, Tri.i_zip, Tri.src_tmp, Tri.src_tup, Tri.srcO_some, Tri.src_ref, Tri.src_f, Tri.rg1_ok, Tri.rg1_int, Tri.rg2_ok, Tri.en_tmp, Tri.zip_tup, Tri.tupQ_ok, Tri.lstQ_ok, Tri.bn_add, Tri.bn_addr, Tri.catO_some, Tri.bn_addt, Tri.bn_sub, Tri.bn_mod, Tri.bn_div, Tri.bn_mulr, Tri.bn_mull, Tri.ofB_some, Tri.cm_lt, Tri.cm_le, Tri.cm_gt, Tri.cm_ge, Tri.cm_eq, Tri.cm_ne, Tri.cm_eqb, Tri.cm_neb, Tri.ixO_some, Tri.ix_t, Tri.ix_m, Tri.ixR_some, Tri.ix_r, Tri.lstO_some, Tri.len_t, Tri.len_m, Tri.len_f, Tri.len_r, Tri.int_i, Tri.int_b, Tri.tup_t, Tri.tup_m, Tri.tup_r, Tri.lst_t, Tri.sorted_tu, Tri.lst_m, Tri.lst_r, Tri.min_i, Tri.max_i, Tri.appO_some, Tri.app_r, Tri.extO_some, Tri.ext_m, Tri.ext_r, Tri.pop_r, Tri.popO_some, Tri.six_r, Tri.setO_some, Tri.asg_n, Tri.asg_t, Tri.sa_nil, Tri.sa_cons, Tri.aug_add, Tri.aug_sub, Tri.isA_all, Tri.fl_BadName_at_, Tri.fl_BadFields_at_, Tri.fl_BadFields_word, Tri.fl_BadLadder_at_, Tri.fl_BadLadder_word, Tri.fl_BadReading_at_, Tri.fl_BadReading_word, Tri.fl_BadSight_at_, Tri.fl_BadStep_word, Tri.fl_BadText_line, Tri.fl_BadText_word, Tri.fl_BadCommand_line, Tri.fl_NoSuch_word, Tri.fl_NoSuch_name, Tri.fl_Taken_name, Tri.raisS_ok, Tri.r_rais, Tri.r_try, Tri.try_nx, Tri.try_rt, Tri.try_ex, Tri.handR_t, Tri.handR_f, Tri.hands_nil, Tri.hands_cons, Tri.sok_none, Tri.sok_some, Tri.wipeO_none, Tri.wipeO_some, Tri.xend_nx, Tri.xend_v, Tri.xend_tmp, Tri.xs_nil, Tri.xs_cons, Tri.xseq_nx, Tri.xseq_rt, Tri.xretO_some, Tri.x_ret, Tri.x_pass, Tri.xif_t, Tri.xif_f, Tri.x_ife, Tri.t_isx, Tri.t_isxs, Tri.t_not, Tri.t_and, Tri.t_or, Tri.e_non, Tri.e_bl, Tri.e_int, Tri.e_str, Tri.xslot_some, Tri.e_var, Tri.e_fld, Tri.xifE_t, Tri.xifE_f, Tri.e_ife, Tri.xtup_some, Tri.xlst_some, Tri.e_tup, Tri.e_lst, Tri.es_nil, Tri.xcons_some, Tri.es_cons, Tri.v_dnew, Tri.v_disp, Tri.dispR_t, Tri.dispQ_ok, Tri.v_dget, Tri.v_din, Tri.r_dset, Tri.dR_t, Tri.dlkO_some, Tri.dget_d, Tri.din_d, Tri.dset_d, Tri.dsR_ok, Tri.keyOk_i, Tri.keyOk_s, Tri.keyOk_ii, Tri.keyOk_si, Tri.keyOk_is, Tri.keyOk_iii, Tri.i_zip3, Tri.en_tup, Tri.zip3_tup, Tri.v_rev, Tri.rev_m, Tri.rev_r, Tri.sl_t, Tri.sl_m, Tri.sl_f, Tri.sl_r, Tri.addO_some, Tri.bn_rm, Tri.bn_mm, Tri.asg_nst, Tri.ats_nil, Tri.ats_cons, Tri.isNon, Tri.isiR, Tri.isiQ, Tri.tyOf, Tri.at_mid, Tri.set_mid,
  List.map_cons, List.map_nil, List.cons_append, List.nil_append, List.append_assoc, List.length_append, Tri.at_off, Tri.set_off, List.length_cons, List.length_nil, List.length_map, List.replicate_succ, List.replicate_zero, List.getElem?_cons_zero, List.getElem?_cons_succ, List.set_cons_zero, List.set_cons_succ, Option.bind_some, Option.map_some, Nat.reduceAdd, Nat.reduceSub, Nat.zero_add, if_true, Bool.false_eq_true, if_false, ite_true, ite_false, decide_true, decide_false, Bool.not_true, Bool.not_false, Bool.or_true, Bool.or_false, Bool.false_or, Bool.and_false, Bool.false_and, Tri.ty_ne, Bool.true_or, Bool.and_true, Bool.true_and, Int.toNat_one, Int.toNat_zero, Int.reduceToNat, Int.reduceLT, Int.reduceLE, Nat.reduceLT, Int.toNat_natCast, Int.natCast_nonneg, beq_self_eq_true, *])
local macro_rules | `(tactic| walk_at "ew") => `(tactic| simp (config := {decide := true, implicitDefEqProofs := false}) only [Tri.fn_eq, Tri.fnO_nx, Tri.fnO_rt, Tri.fnO_ex, Tri.k_ok, Tri.k_ex, Tri.k_no, Tri.st_ok, Tri.st_ex, Tri.st_no, Tri.runs_cons, Tri.runs_nil, Tri.seq_nx, Tri.seq_rt, Tri.seq_bk, Tri.seq_ct, Tri.seq_ex, Tri.seq_no, Tri.seq_nil, Tri.tst_bl, Tri.evD_v, Tri.evD_tmp, Tri.evD_ex, Tri.okv_eq, Tri.noex_ok, Tri.r_expr, Tri.r_ret, Tri.r_retN, Tri.r_pass, Tri.r_brk, Tri.r_cont, Tri.r_set, Tri.nxo_some, Tri.r_asg, Tri.r_par, Tri.nxm_some, Tri.r_setIx, Tri.augR_some, Tri.r_aug, Tri.ifS_t, Tri.ifS_f, Tri.r_ife, Tri.r_whl, Tri.r_for, Tri.v_non, Tri.v_bl, Tri.v_int, Tri.v_str, Tri.slot_some, Tri.v_var, Tri.v_con, Tri.v_bin, Tri.negQ_int, Tri.v_neg, Tri.v_not, Tri.andR_t, Tri.andR_f, Tri.orR_t, Tri.orR_f, Tri.v_and, Tri.v_or, Tri.ifR_t, Tri.ifR_f, Tri.v_ife, Tri.v_cmp, Tri.v_cmp2, Tri.cmpE_int, Tri.cmp3_f, Tri.cmp3_t, Tri.cmpI, Tri.v_isN, Tri.v_notN, Tri.v_isi, Tri.v_tup, Tri.v_lst, Tri.v_ix, Tri.v_sl, Tri.callR_some, Tri.v_call, Tri.v_callK, Tri.v_lrg1, Tri.v_lrg2, Tri.v_b1, Tri.v_b2, Tri.v_m0, Tri.m1R_ref, Tri.v_m1, Tri.v_lc, Tri.a_app, Tri.a_ext, Tri.a_pop, Tri.s_nil, Tri.s_cons, Tri.o_no, Tri.intO_int, Tri.o_so, Tri.c_no, Tri.c_so, Tri.i_seq, Tri.i_rg1, Tri.i_rg2, Tri.i_en, Tri.i_zip, Tri.src_tmp, Tri.src_tup, Tri.srcO_some, Tri.src_ref, Tri.src_f, Tri.rg1_ok, Tri.rg1_int, Tri.rg2_ok, Tri.en_tmp, Tri.zip_tup, Tri.tupQ_ok, Tri.lstQ_ok, Tri.bn_add, Tri.bn_addr, Tri.catO_some, Tri.bn_addt, Tri.bn_sub, Tri.bn_mod, Tri.bn_div, Tri.bn_mulr, Tri.bn_mull, Tri.ofB_some, Tri.cm_lt, Tri.cm_le, Tri.cm_gt, Tri.cm_ge, Tri.cm_eq, Tri.cm_ne, Tri.cm_eqb, Tri.cm_neb, Tri.ixO_some, Tri.ix_t, Tri.ix_m, Tri.ixR_some, Tri.ix_r, Tri.lstO_some, Tri.len_t, Tri.len_m, Tri.len_f, Tri.len_r, Tri.int_i, Tri.int_b, Tri.tup_t, Tri.tup_m, Tri.tup_r, Tri.lst_t, Tri.sorted_tu, Tri.lst_m, Tri.lst_r, Tri.min_i, Tri.max_i, Tri.appO_some, Tri.app_r, Tri.extO_some, Tri.ext_m, Tri.ext_r, Tri.pop_r, Tri.popO_some, Tri.six_r, Tri.setO_some, Tri.asg_n, Tri.asg_t, Tri.sa_nil, Tri.sa_cons, Tri.aug_add, Tri.aug_sub, Tri.isA_all, Tri.fl_BadName_at_, Tri.fl_BadFields_at_, Tri.fl_BadFields_word, Tri.fl_BadLadder_at_, Tri.fl_BadLadder_word, Tri.fl_BadReading_at_, Tri.fl_BadReading_word, Tri.fl_BadSight_at_, Tri.fl_BadStep_word, Tri.fl_BadText_line, Tri.fl_BadText_word, Tri.fl_BadCommand_line, Tri.fl_NoSuch_word, Tri.fl_NoSuch_name, Tri.fl_Taken_name, Tri.raisS_ok, Tri.r_rais, Tri.r_try, Tri.try_nx, Tri.try_rt, Tri.try_ex, Tri.handR_t, Tri.handR_f, Tri.hands_nil, Tri.hands_cons, Tri.sok_none, Tri.sok_some, Tri.wipeO_none, Tri.wipeO_some, Tri.xend_nx, Tri.xend_v, Tri.xend_tmp, Tri.xs_nil, Tri.xs_cons, Tri.xseq_nx, Tri.xseq_rt, Tri.xretO_some, Tri.x_ret, Tri.x_pass, Tri.xif_t, Tri.xif_f, Tri.x_ife, Tri.t_isx, Tri.t_isxs, Tri.t_not, Tri.t_and, Tri.t_or, Tri.e_non, Tri.e_bl, Tri.e_int, Tri.e_str, Tri.xslot_some, Tri.e_var, Tri.e_fld, Tri.xifE_t, Tri.xifE_f, Tri.e_ife, Tri.xtup_some, Tri.xlst_some, Tri.e_tup, Tri.e_lst, Tri.es_nil, Tri.xcons_some, Tri.es_cons, Tri.v_dnew, Tri.v_disp, Tri.dispR_t, Tri.dispQ_ok, Tri.v_dget, Tri.v_din, Tri.r_dset, Tri.dR_t, Tri.dlkO_some, Tri.dget_d, Tri.din_d, Tri.dset_d, Tri.dsR_ok, Tri.keyOk_i, Tri.keyOk_s, Tri.keyOk_ii, Tri.keyOk_si, Tri.keyOk_is, Tri.keyOk_iii, Tri.i_zip3, Tri.en_tup, Tri.zip3_tup, Tri.v_rev, Tri.rev_m, Tri.rev_r, Tri.sl_t, Tri.sl_m, Tri.sl_f, Tri.sl_r, Tri.addO_some, Tri.bn_rm, Tri.bn_mm, Tri.asg_nst, Tri.ats_nil, Tri.ats_cons, Tri.isNon, Tri.isiR, Tri.isiQ, Tri.tyOf, Tri.at_mid, Tri.set_mid,
  List.map_cons, List.map_nil, List.cons_append, List.nil_append, List.append_assoc, W_app, W_len, W_at, W_set, List.length_append, Tri.at_off, Tri.set_off, List.length_cons, List.length_nil, List.length_map, List.replicate_succ, List.replicate_zero, List.getElem?_cons_zero, List.getElem?_cons_succ, List.set_cons_zero, List.set_cons_succ, Option.bind_some, Option.map_some, Nat.reduceAdd, Nat.reduceSub, Nat.zero_add, if_true, Bool.false_eq_true, if_false, ite_true, ite_false, decide_true, decide_false, Bool.not_true, Bool.not_false, Bool.or_true, Bool.or_false, Bool.false_or, Bool.and_false, Bool.false_and, Tri.ty_ne, Bool.true_or, Bool.and_true, Bool.true_and, Int.toNat_one, Int.toNat_zero, Int.reduceToNat, Int.reduceLT, Int.reduceLE, Nat.reduceLT, Int.toNat_natCast, Int.natCast_nonneg, beq_self_eq_true, *])

structure F3 where
  n : Str
  lo : Int
  hi : Int
def fD (f : F3) : D := .tup [.str f.n, .int f.lo, .int f.hi]
def FD (fs : List F3) : D := .tup (fs.map fD)
def FOk (f : F3) : Prop := f.lo ≤ f.hi ∧ -100 ≤ f.lo ∧ f.hi ≤ 100
def signsS : Str := "abcdefghijklmnopqrstuvwxyz0123456789"
theorem signs_len : signsS.cps.toList.length = 36 := by decide +kernel
theorem signs_len2 : signsS.length = 36 := by decide +kernel
theorem sgn {r : Int} (h0 : 0 ≤ r) (h : r < 36) : ∃ c : Str, (∀ M, ixQ (.v (.str signsS)) (.v (.int r)) M = .ok (.v (.str c)) M) ∧ c.length = 1 := by
  obtain ⟨c, e, _, l⟩ := sign_ok (z := signsS) (r := r.toNat) (by rw [signs_len]; omega) (by decide +kernel) (by rw [signs_len2]; unfold lim; omega)
  rw [Int.toNat_of_nonneg h0] at e
  exact ⟨c, e, l⟩
theorem fields_ok (s : Dice) (L : Store) (hs : s.gs.length ≤ 63) (n : Nat) (hn : n ≤ 12) : ∃ fs s' G, g_l_fields [.ref 0, .int n] (W s L) = .ok (FD fs) (W s' (L ++ G)) ∧ s'.gs.length ≤ 63 ∧ fs.length = n ∧ ∀ f ∈ fs, FOk f := by
  suffices h : (g_l_fields [.ref 0, .int n] (W s L)).ens fun d M' => ∃ fs s' G, d = FD fs ∧ M' = W s' (L ++ G) ∧ s'.gs.length ≤ 63 ∧ fs.length = n ∧ ∀ f ∈ fs, FOk f by
    obtain ⟨d, M', e, fs, s', G, rfl, rfl, h⟩ := h
    exact ⟨fs, s', G, e, h⟩
  unfold g_l_fields b_l_fields
  apply ens_fn
  have l1 : ∀ M, rg1Q (.v (.int n)) M = .ok ⟨none, rng 0 n⟩ M := fun M => rg1_len (by unfold lim; omega)
  have sg : (Str.ofString "abcdefghijklmnopqrstuvwxyz0123456789" : Str) = signsS := rfl
  walk_at "ew"
  apply ens_seq
  refine forQ_ens (fun j τ M1 => ∃ a4 a5 fs s', τ = [some (.ref 0), some (.int n), some (.str signsS), some (.ref (L.length + 1)), a4, a5] ∧ M1 = W s' (L ++ [.lst (fs.map fD)]) ∧ s'.gs.length ≤ 63 ∧ fs.length = j ∧ ∀ f ∈ fs, FOk f) ⟨_, _, [], s, rfl, rfl, hs, rfl, fun f hf => by cases hf⟩ ?_ ?_
  · rintro j x τ M1 hx ⟨a4, a5, fs, s', rfl, rfl, hs', hl, hf⟩
    obtain ⟨hj, rfl⟩ := Tri.rng_get hx
    rw [Int.zero_add]
    refine ⟨_, asg_n, .inl ?_⟩
    obtain ⟨r1, s1, e1, k1, h1⟩ := draw_nat s' (L ++ [.lst (fs.map fD)]) (m := 21) hs' (by omega) (by omega)
    obtain ⟨r2, s2, e2, k2, h2⟩ := draw_nat s1 (L ++ [.lst (fs.map fD)]) (m := 4) k1 (by omega) (by omega)
    obtain ⟨r3, s3, e3, k3, h3⟩ := draw_nat s2 (L ++ [.lst (fs.map fD)]) (m := 36) k2 (by omega) (by omega)
    obtain ⟨r4, s4, e4, k4, h4⟩ := draw_nat s3 (L ++ [.lst (fs.map fD)]) (m := 8) k3 (by omega) (by omega)
    obtain ⟨r5, s5, e5, k5, h5⟩ := draw_nat s4 (L ++ [.lst (fs.map fD)]) (m := 9) k4 (by omega) (by omega)
    obtain ⟨d, _, _, ed, lo, rfl, lo1, lo2⟩ := item_ok (xs := [.int 0, .int (-20), .int 12, .int ((r1 : Int) - 10)]) (r := r2) (by simp; omega) (fun d => ∃ lo : Int, d = .int lo ∧ -20 ≤ lo ∧ lo ≤ 12) (by
      intro x hx
      simp only [List.mem_cons, List.not_mem_nil, or_false] at hx
      rcases hx with rfl | rfl | rfl | rfl <;> exact ⟨_, rfl, by omega, by omega⟩)
    obtain ⟨c1, g1, m1⟩ := sgn (r := 25 - (j : Int)) (by omega) (by omega)
    obtain ⟨c2, g2, m2⟩ := sgn (r := (r3 : Int)) (by omega) (by omega)
    have mu : ∀ M, binQ .Mult (.v (.str c2)) (.v (.int (r4 : Int))) M = .ok (.v (.str (Txt.mul c2 r4))) M := fun M => bn_muls (by omega) (by omega) (by rw [m2]; unfold lim; omega) (by rw [m2]; unfold lim; omega)
    have ml := mul_len c2 (r4 : Int)
    have ad : ∀ M, binQ .Add (.v (.str c1)) (.v (.str (Txt.mul c2 r4))) M = .ok (.v (.str (c1 ++ Txt.mul c2 r4))) M := fun M => bn_adds (by rw [m1, ml, m2]; unfold lim; omega)
    generalize c1 ++ Txt.mul c2 r4 = nm at ad
    have l3 : (List.map fD fs).length < lim := by rw [List.length_map]; unfold lim; omega
    have l4 : fs.length < lim := by unfold lim; omega
    have ok : FOk ⟨nm, lo, lo + r5⟩ := ⟨by dsimp only; omega, by dsimp only; omega, by dsimp only; omega⟩
    clear hx hj m1 m2 ml h1 h2 h3 h4 h5 lo1 lo2 sg l1
    have hl' : (fs ++ [F3.mk nm lo (lo + r5)]).length = j + 1 := by rw [List.length_append, hl]; rfl
    clear hl
    walk_at "ew"
    refine ens_nx ⟨_, _, fs ++ [F3.mk nm lo (lo + r5)], s5, rfl, by rw [List.map_append]; rfl, k5, hl', fun f hf' => ?_⟩
    rcases List.mem_append.mp hf' with h | h
    · exact hf f h
    · rw [List.mem_singleton.mp h]; exact ok
  · rintro τ M1 ⟨a4, a5, fs, s', rfl, rfl, hs', hl, hf⟩
    rw [rng_len, show ((n : Int) - 0).toNat = n by omega] at hl
    clear l1 sg
    have hl2 := id hl
    clear hl
    walk_at "ew"
    exact ens_rt ⟨fs, s', _, rfl, rfl, hs', hl2, hf⟩

end Ltrueatonce_k29_prices_costs

set_option Elab.async false
set_option linter.all false
set_option maxRecDepth 100000
set_option maxHeartbeats 4000000
namespace Ltrueatonce_k29_prices_costs
open PySem PySem.Spec PyProof.Rows L2 RZ Tri
local macro_rules | `(tactic| walk_at "ev") => `(tactic| simp (config := {decide := true, implicitDefEqProofs := false}) only [Tri.fn_eq, Tri.fnO_nx, Tri.fnO_rt, Tri.fnO_ex, Tri.k_ok, Tri.k_ex, Tri.k_no, Tri.st_ok, Tri.st_ex, Tri.st_no, Tri.runs_cons, Tri.runs_nil, Tri.seq_nx, Tri.seq_rt, Tri.seq_bk, Tri.seq_ct, Tri.seq_ex, Tri.seq_no, Tri.seq_nil, Tri.tst_bl, Tri.evD_v, Tri.evD_tmp, Tri.evD_ex, Tri.okv_eq, Tri.noex_ok, Tri.r_expr, Tri.r_ret, Tri.r_retN, Tri.r_pass, Tri.r_brk, Tri.r_cont, Tri.r_set, Tri.nxo_some, Tri.r_asg, Tri.r_par, Tri.nxm_some, Tri.r_setIx, Tri.augR_some, Tri.r_aug, Tri.ifS_t, Tri.ifS_f, Tri.r_ife, Tri.r_whl, Tri.r_for, Tri.v_non, Tri.v_bl, Tri.v_int, Tri.v_str, Tri.slot_some, Tri.v_var, Tri.v_con, Tri.v_bin, Tri.negQ_int, Tri.v_neg, Tri.v_not, Tri.andR_t, Tri.andR_f, Tri.orR_t, Tri.orR_f, Tri.v_and, Tri.v_or, Tri.ifR_t, Tri.ifR_f, Tri.v_ife, Tri.v_cmp, Tri.v_cmp2, Tri.cmpE_int, Tri.cmp3_f, Tri.cmp3_t, Tri.cmpI, Tri.v_isN, Tri.v_notN, Tri.v_isi, Tri.v_tup, Tri.v_lst, Tri.v_ix, Tri.v_sl, Tri.callR_some, Tri.v_call, Tri.v_callK, Tri.v_lrg1, Tri.v_lrg2, Tri.v_b1, Tri.v_b2, Tri.v_m0, Tri.m1R_ref, Tri.v_m1, Tri.v_lc, Tri.a_app, Tri.a_ext, Tri.a_pop, Tri.s_nil, Tri.s_cons, Tri.o_no, Tri.intO_int, Tri.o_so, Tri.c_no, Tri.c_so, Tri.i_seq, Tri.i_rg1, Tri.i_rg2, Tri.i_en, Tri.i_zip, Tri.src_tmp, Tri.src_tup, Tri.srcO_some, Tri.src_ref, Tri.src_f, Tri.rg1_ok, Tri.rg1_int, Tri.rg2_ok, Tri.en_tmp, Tri.zip_tup, Tri.tupQ_ok, Tri.lstQ_ok, Tri.bn_add, Tri.bn_addr, Tri.catO_some, Tri.bn_addt, Tri.bn_sub, Tri.bn_mod, Tri.bn_div, Tri.bn_mulr, Tri.bn_mull, Tri.ofB_some, Tri.cm_lt, Tri.cm_le, Tri.cm_gt, Tri.cm_ge, Tri.cm_eq, Tri.cm_ne, Tri.cm_eqb, Tri.cm_neb, Tri.ixO_some, Tri.ix_t, Tri.ix_m, Tri.ixR_some, Tri.ix_r, Tri.lstO_some, Tri.len_t, Tri.len_m, Tri.len_f, Tri.len_r, Tri.int_i, Tri.int_b, Tri.tup_t, Tri.tup_m, Tri.tup_r, Tri.lst_t, Tri.sorted_tu, Tri.lst_m, Tri.lst_r, Tri.min_i, Tri.max_i, Tri.appO_some, Tri.app_r, Tri.extO_some, Tri.ext_m, Tri.ext_r, Tri.pop_r, Tri.popO_some, Tri.six_r, Tri.setO_some, Tri.asg_n, Tri.asg_t, Tri.sa_nil, Tri.sa_cons, Tri.aug_add, Tri.aug_sub, Tri.isA_all, Tri.fl_BadName_at_, Tri.fl_BadFields_at_, Tri.fl_BadFields_word, Tri.fl_BadLadder_at_, Tri.fl_BadLadder_word, Tri.fl_BadReading_at_, Tri.fl_BadReading_word, Tri.fl_BadSight_at_, Tri.fl_BadStep_word, Tri.fl_BadText_line, Tri.fl_BadText_word, Tri.fl_BadCommand_line, Tri.fl_NoSuch_word, Tri.fl_NoSuch_name, Tri.fl_Taken_name, Tri.raisS_ok, Tri.r_rais, Tri.r_try, Tri.try_nx, Tri.try_rt, Tri.try_ex, Tri.handR_t, Tri.handR_f, Tri.hands_nil, Tri.hands_cons, Tri.sok_none, Tri.sok_some, Tri.wipeO_none, Tri.wipeO_some, Tri.xend_nx, Tri.xend_v, Tri.xend_tmp, Tri.xs_nil, Tri.xs_cons, Tri.xseq_nx, Tri.xseq_rt, Tri.xretO_some, Tri.x_ret, Tri.x_pass, Tri.xif_t, Tri.xif_f, Tri.x_ife, Tri.t_isx, Tri.t_isxs, Tri.t_not, Tri.t_and, Tri.t_or, Tri.e_non, Tri.e_bl, Tri.e_int, Tri.e_str, Tri.xslot_some, Tri.e_var, Tri.e_fld, Tri.xifE_t, Tri.xifE_f, Tri.e_ife, Tri.xtup_some, Tri.xlst_some, Tri.e_tup, Tri.e_lst, Tri.es_nil, Tri.xcons_some, Tri.es_cons, Tri.v_dnew, Tri.v_disp, Tri.dispR_t, Tri.dispQ_ok, Tri.v_dget, Tri.v_din, Tri.r_dset, Tri.dR_t, Tri.dlkO_some, Tri.dget_d, Tri.din_d, Tri.dset_d, Tri.dsR_ok, Tri.keyOk_i, Tri.keyOk_s, Tri.keyOk_ii, Tri.keyOk_si, Tri.keyOk_is, Tri.keyOk_iii, Tri.i_zip3, Tri.en_tup, Tri.zip3_tup, Tri.v_rev, Tri.rev_m, Tri.rev_r, Tri.sl_t, Tri.sl_m, Tri.sl_f, Tri.sl_r, Tri.addO_some, Tri.bn_rm, Tri.bn_mm, Tri.asg_nst, Tri.ats_nil, Tri.ats_cons, Tri.isNon, Tri.isiR, Tri.isiQ, Tri.tyOf, Tri.at_mid, Tri.set_mid,
  List.map_cons, List.map_nil, List.cons_append, List.nil_append, List.append_assoc, List.length_append, Tri.at_off, Tri.set_off, List.length_cons, List.length_nil, List.length_map, List.replicate_succ, List.replicate_zero, List.getElem?_cons_zero, List.getElem?_cons_succ, List.set_cons_zero, List.set_cons_succ, Option.bind_some, Option.map_some, Nat.reduceAdd, Nat.reduceSub, Nat.zero_add, if_true, Bool.false_eq_true, if_false, ite_true, ite_false, decide_true, decide_false, Bool.not_true, Bool.not_false, Bool.or_true, Bool.or_false, Bool.false_or, Bool.and_false, Bool.false_and, Tri.ty_ne, Bool.true_or, Bool.and_true, Bool.true_and, Int.toNat_one, Int.toNat_zero, Int.reduceToNat, Int.reduceLT, Int.reduceLE, Nat.reduceLT, Int.toNat_natCast, Int.natCast_nonneg, beq_self_eq_true, *])
local macro_rules | `(tactic| walk_at "ew") => `(tactic| simp (config := {decide := true, implicitDefEqProofs := false}) only [Tri.fn_eq, Tri.fnO_nx, Tri.fnO_rt, Tri.fnO_ex, Tri.k_ok, Tri.k_ex, Tri.k_no, Tri.st_ok, Tri.st_ex, Tri.st_no, Tri.runs_cons, Tri.runs_nil, Tri.seq_nx, Tri.seq_rt, Tri.seq_bk, Tri.seq_ct, Tri.seq_ex, Tri.seq_no, Tri.seq_nil, Tri.tst_bl, Tri.evD_v, Tri.evD_tmp, Tri.evD_ex, Tri.okv_eq, Tri.noex_ok, Tri.r_expr, Tri.r_ret, Tri.r_retN, Tri.r_pass, Tri.r_brk, Tri.r_cont, Tri.r_set, Tri.nxo_some, Tri.r_asg, Tri.r_par, Tri.nxm_some, Tri.r_setIx, Tri.augR_some, Tri.r_aug, Tri.ifS_t, Tri.ifS_f, Tri.r_ife, Tri.r_whl, Tri.r_for, Tri.v_non, Tri.v_bl, Tri.v_int, Tri.v_str, Tri.slot_some, Tri.v_var, Tri.v_con, Tri.v_bin, Tri.negQ_int, Tri.v_neg, Tri.v_not, Tri.andR_t, Tri.andR_f, Tri.orR_t, Tri.orR_f, Tri.v_and, Tri.v_or, Tri.ifR_t, Tri.ifR_f, Tri.v_ife, Tri.v_cmp, Tri.v_cmp2, Tri.cmpE_int, Tri.cmp3_f, Tri.cmp3_t, Tri.cmpI, Tri.v_isN, Tri.v_notN, Tri.v_isi, Tri.v_tup, Tri.v_lst, Tri.v_ix, Tri.v_sl, Tri.callR_some, Tri.v_call, Tri.v_callK, Tri.v_lrg1, Tri.v_lrg2, Tri.v_b1, Tri.v_b2, Tri.v_m0, Tri.m1R_ref, Tri.v_m1, Tri.v_lc, Tri.a_app, Tri.a_ext, Tri.a_pop, Tri.s_nil, Tri.s_cons, Tri.o_no, Tri.intO_int, Tri.o_so, Tri.c_no, Tri.c_so, Tri.i_seq, Tri.i_rg1, Tri.i_rg2, Tri.i_en, Tri.i_zip, Tri.src_tmp, Tri.src_tup, Tri.srcO_some, Tri.src_ref, Tri.src_f, Tri.rg1_ok, Tri.rg1_int, Tri.rg2_ok, Tri.en_tmp, Tri.zip_tup, Tri.tupQ_ok, Tri.lstQ_ok, Tri.bn_add, Tri.bn_addr, Tri.catO_some, Tri.bn_addt, Tri.bn_sub, Tri.bn_mod, Tri.bn_div, Tri.bn_mulr, Tri.bn_mull, Tri.ofB_some, Tri.cm_lt, Tri.cm_le, Tri.cm_gt, Tri.cm_ge, Tri.cm_eq, Tri.cm_ne, Tri.cm_eqb, Tri.cm_neb, Tri.ixO_some, Tri.ix_t, Tri.ix_m, Tri.ixR_some, Tri.ix_r, Tri.lstO_some, Tri.len_t, Tri.len_m, Tri.len_f, Tri.len_r, Tri.int_i, Tri.int_b, Tri.tup_t, Tri.tup_m, Tri.tup_r, Tri.lst_t, Tri.sorted_tu, Tri.lst_m, Tri.lst_r, Tri.min_i, Tri.max_i, Tri.appO_some, Tri.app_r, Tri.extO_some, Tri.ext_m, Tri.ext_r, Tri.pop_r, Tri.popO_some, Tri.six_r, Tri.setO_some, Tri.asg_n, Tri.asg_t, Tri.sa_nil, Tri.sa_cons, Tri.aug_add, Tri.aug_sub, Tri.isA_all, Tri.fl_BadName_at_, Tri.fl_BadFields_at_, Tri.fl_BadFields_word, Tri.fl_BadLadder_at_, Tri.fl_BadLadder_word, Tri.fl_BadReading_at_, Tri.fl_BadReading_word, Tri.fl_BadSight_at_, Tri.fl_BadStep_word, Tri.fl_BadText_line, Tri.fl_BadText_word, Tri.fl_BadCommand_line, Tri.fl_NoSuch_word, Tri.fl_NoSuch_name, Tri.fl_Taken_name, Tri.raisS_ok, Tri.r_rais, Tri.r_try, Tri.try_nx, Tri.try_rt, Tri.try_ex, Tri.handR_t, Tri.handR_f, Tri.hands_nil, Tri.hands_cons, Tri.sok_none, Tri.sok_some, Tri.wipeO_none, Tri.wipeO_some, Tri.xend_nx, Tri.xend_v, Tri.xend_tmp, Tri.xs_nil, Tri.xs_cons, Tri.xseq_nx, Tri.xseq_rt, Tri.xretO_some, Tri.x_ret, Tri.x_pass, Tri.xif_t, Tri.xif_f, Tri.x_ife, Tri.t_isx, Tri.t_isxs, Tri.t_not, Tri.t_and, Tri.t_or, Tri.e_non, Tri.e_bl, Tri.e_int, Tri.e_str, Tri.xslot_some, Tri.e_var, Tri.e_fld, Tri.xifE_t, Tri.xifE_f, Tri.e_ife, Tri.xtup_some, Tri.xlst_some, Tri.e_tup, Tri.e_lst, Tri.es_nil, Tri.xcons_some, Tri.es_cons, Tri.v_dnew, Tri.v_disp, Tri.dispR_t, Tri.dispQ_ok, Tri.v_dget, Tri.v_din, Tri.r_dset, Tri.dR_t, Tri.dlkO_some, Tri.dget_d, Tri.din_d, Tri.dset_d, Tri.dsR_ok, Tri.keyOk_i, Tri.keyOk_s, Tri.keyOk_ii, Tri.keyOk_si, Tri.keyOk_is, Tri.keyOk_iii, Tri.i_zip3, Tri.en_tup, Tri.zip3_tup, Tri.v_rev, Tri.rev_m, Tri.rev_r, Tri.sl_t, Tri.sl_m, Tri.sl_f, Tri.sl_r, Tri.addO_some, Tri.bn_rm, Tri.bn_mm, Tri.asg_nst, Tri.ats_nil, Tri.ats_cons, Tri.isNon, Tri.isiR, Tri.isiQ, Tri.tyOf, Tri.at_mid, Tri.set_mid,
  List.map_cons, List.map_nil, List.cons_append, List.nil_append, List.append_assoc, W_app, W_len, W_at, W_set, List.length_append, Tri.at_off, Tri.set_off, List.length_cons, List.length_nil, List.length_map, List.replicate_succ, List.replicate_zero, List.getElem?_cons_zero, List.getElem?_cons_succ, List.set_cons_zero, List.set_cons_succ, Option.bind_some, Option.map_some, Nat.reduceAdd, Nat.reduceSub, Nat.zero_add, if_true, Bool.false_eq_true, if_false, ite_true, ite_false, decide_true, decide_false, Bool.not_true, Bool.not_false, Bool.or_true, Bool.or_false, Bool.false_or, Bool.and_false, Bool.false_and, Tri.ty_ne, Bool.true_or, Bool.and_true, Bool.true_and, Int.toNat_one, Int.toNat_zero, Int.reduceToNat, Int.reduceLT, Int.reduceLE, Nat.reduceLT, Int.toNat_natCast, Int.natCast_nonneg, beq_self_eq_true, *])

theorem all_notF {ps : List Int} : (ps.map D.int).all notF = true := by
  rw [List.all_eq_true]
  intro x hx
  obtain ⟨i, _, rfl⟩ := List.mem_map.mp hx
  rfl
theorem all_cut {xs : List D} (lo hi : Option Int) (h : xs.all notF = true) : (cut xs lo hi).all notF = true := by
  rw [List.all_eq_true] at *
  exact fun x hx => h x (List.mem_of_mem_drop (List.mem_of_mem_take hx))
/-- the odd ones -/
def oddL (k : Nat) (big : Int) : List D := [.int 0, .int 21, .int (-1), .int 20, .int 1, .bl true, .bl false, .non, .str "1", .tup [.int 1], .ref k, .int big, .int (-big), .str "", .tup [], .int 19]
theorem odd_n (k : Nat) (big : Int) : ∀ x ∈ oddL k big, notF x = true := by
  intro x hx
  simp only [oddL, List.mem_cons, List.not_mem_nil, or_false] at hx
  rcases hx with rfl | rfl | rfl | rfl | rfl | rfl | rfl | rfl | rfl | rfl | rfl | rfl | rfl | rfl | rfl | rfl <;> rfl
theorem bn_mulg {i j : Int} {M : Store} (h : mulOk i j = true) : binQ .Mult (.v (.int i)) (.v (.int j)) M = .ok (.v (.int (i * j))) M := by
  simp only [binQ, mulQ, h, if_true, okv]
theorem last {G0 : List D → Store → R D} {G : Gam} {L0 : Store} {s : Dice} (hs : s.gs.length ≤ 63) {a1 a2 a3 a4 a5 a6 : Option D} (th : List D) (k : Nat) (L : Store) (hk : L[k]? = some (.lst th)) (hl : th.length = 14) (ha : th.all okT = true) (hL : ∃ G, L = L0 ++ G) :
    (runs (G0 :: g_l_draw :: G) [.ret (.ix (.var 7) (.call 1 (.cons (.var 0) (.cons (.b1 .len (.var 7)) .nil))))] [some (.ref 0), a1, a2, a3, a4, a5, a6, some (.ref (k + 1))] (W s L)).ens (fun _ _ => False) fun t M' => ∃ s' G, M' = W s' (L0 ++ G) ∧ s'.gs.length ≤ 63 ∧ okT t = true := by
  obtain ⟨r, s1, e1, k1, q1⟩ := draw_nat s L (m := (th.length : Int)) hs (by omega) (by omega)
  obtain ⟨d, _, f, _, n⟩ := item_ok (xs := th) (r := r) (by omega) (fun d => okT d = true) (List.all_eq_true.mp ha)
  obtain ⟨G', rfl⟩ := hL
  clear hl ha q1
  walk_at "ew"
  exact ens_rt ⟨s1, G', rfl, k1, n⟩
theorem bent_ok (s : Dice) (L : Store) (hs : s.gs.length ≤ 63) (ps : List Int) (h1 : 1 ≤ ps.length) (h2 : ps.length ≤ 12) : ∃ t s' G, g_l_bent [.ref 0, .tup (ps.map .int)] (W s L) = .ok t (W s' (L ++ G)) ∧ s'.gs.length ≤ 63 ∧ okT t = true := by
  suffices h : (g_l_bent [.ref 0, .tup (ps.map .int)] (W s L)).ens fun t M' => ∃ s' G, M' = W s' (L ++ G) ∧ s'.gs.length ≤ 63 ∧ okT t = true by
    obtain ⟨d, M', e, s', G, rfl, h⟩ := h
    exact ⟨d, s', G, e, h⟩
  obtain ⟨p0, hp0⟩ : ∃ p : Int, (ps.map D.int)[ps.length - 1]? = some (.int p) := ⟨ps[ps.length - 1], by rw [List.getElem?_map, List.getElem?_eq_getElem (by omega)]; rfl⟩
  have su := fun M => sum_tu (bs := ps) (M := M)
  have hall := all_notF (ps := ps)
  have hlen : (ps.map D.int).length = ps.length := List.length_map ..
  obtain ⟨P, Q, big, hP, hQ, hB⟩ : ∃ P Q big : Int, (∀ M, binQ .Pow (.v (.int 10)) (.v (.int 60)) M = .ok (.v (.int P)) M) ∧ (∀ M, binQ .Pow (.v (.int 10)) (.v (.int 20)) M = .ok (.v (.int Q)) M) ∧ ∀ M, binQ .Mult (.v (.int P)) (.v (.int Q)) M = .ok (.v (.int big)) M :=
    ⟨_, _, _, fun M => bn_pow (by decide +kernel), fun M => bn_pow (by decide +kernel), fun M => bn_mulg (by decide +kernel)⟩
  unfold g_l_bent b_l_bent
  apply ens_fn
  have st1 : run [g_l_pool, g_l_draw, g_l_fields, g_l_same, g_sheet_cost, g_l_costs] (.set 2 (.lst (.cons (.int 0) (.cons (.int 21) (.cons (.neg (.int 1)) (.cons (.int 20) (.cons (.int 1) (.cons (.bl true) (.cons (.bl false) (.cons .non (.cons (.str "1") (.cons (.tup (.cons (.int 1) .nil)) (.cons (.lst (.cons (.int 2) .nil)) (.cons (.bin .Mult (.bin .Pow (.int 10) (.int 60)) (.bin .Pow (.int 10) (.int 20))) (.cons (.neg (.bin .Mult (.bin .Pow (.int 10) (.int 60)) (.bin .Pow (.int 10) (.int 20)))) (.cons (.str "") (.cons (.tup .nil) (.cons (.int 19) .nil)))))))))))))))))) [some (.ref 0), some (.tup (ps.map .int)), none, none, none, none, none, none] (W s L) = .nx [some (.ref 0), some (.tup (ps.map .int)), some (.ref (L.length + 1 + 1)), none, none, none, none, none] (W s (L ++ [.lst [.int 2], .lst (oddL (L.length + 1) big)])) := by
    unfold oddL
    walk_at "ew"
  refine ens_step st1 ?_
  have on := odd_n (L.length + 1) big
  have ol : (oddL (L.length + 1) big).length = 16 := rfl
  clear st1 hP hQ hB
  generalize oddL (L.length + 1) big = odd at on ol ⊢
  have ln1 : 0 < (ps.length : Int) := by omega
  obtain ⟨r1, s1, e1, k1, q1⟩ := draw_nat s (L ++ [.lst [.int 2], .lst odd]) (m := (ps.length : Int)) hs (by omega) (by omega)
  obtain ⟨r2, s2, e2, k2, q2⟩ := draw_nat s1 (L ++ [.lst [.int 2], .lst odd]) (m := 3) k1 (by omega) (by omega)
  obtain ⟨_, _, _, ed, a, rfl, ha⟩ := item_ok (xs := [.int 0, .int ((ps.length : Int) - 1), .int (r1 : Int)]) (r := r2) (by simp; omega) (fun d => ∃ a : Nat, d = .int a ∧ a < ps.length) (by
    intro x hx
    simp only [List.mem_cons, List.not_mem_nil, or_false] at hx
    rcases hx with rfl | rfl | rfl
    · exact ⟨0, rfl, by omega⟩
    · exact ⟨ps.length - 1, by congr 1; omega, by omega⟩
    · exact ⟨r1, rfl, by omega⟩)
  obtain ⟨b, s3, e3, k3, q3⟩ := draw_nat s2 (L ++ [.lst [.int 2], .lst odd]) (m := (ps.length : Int)) k2 (by omega) (by omega)
  obtain ⟨r4, s4, e4, k4, q4⟩ := draw_nat s3 (L ++ [.lst [.int 2], .lst odd]) (m := (odd.length : Int)) k3 (by omega) (by omega)
  obtain ⟨r5, s5, e5, k5, q5⟩ := draw_nat s4 (L ++ [.lst [.int 2], .lst odd]) (m := (odd.length : Int)) k4 (by omega) (by omega)
  obtain ⟨d4, _, f4, _, n4⟩ := item_ok (xs := odd) (r := r4) (by omega) (fun d => notF d = true) on
  obtain ⟨d5, _, f5, _, n5⟩ := item_ok (xs := odd) (r := r5) (by omega) (fun d => notF d = true) on
  -- the cuts
  have cuts : ∀ (xs : List D) (i : Nat), xs.all notF = true → xs.length ≤ 40 → ∀ d, notF d = true → ∃ c1 c2, (∀ M, slQ (.v (.tup xs)) none (some (i : Int)) M = .ok (.v (.tup c1)) M) ∧ (∀ M, slQ (.v (.tup xs)) (some ((i : Int) + 1)) none M = .ok (.v (.tup c2)) M) ∧ (∀ M, binQ .Add (.v (.tup c1)) (.v (.tup [d])) M = .ok (.v (.tup (c1 ++ [d]))) M) ∧
      (∀ M, binQ .Add (.v (.tup (c1 ++ [d]))) (.v (.tup c2)) M = .ok (.v (.tup ((c1 ++ [d]) ++ c2))) M) ∧ ((c1 ++ [d]) ++ c2).all notF = true ∧ ((c1 ++ [d]) ++ c2).length ≤ 2 * xs.length + 1 := fun xs i hx hl d hd => by
    have l1 := cut_len xs none (some (i : Int))
    have l2 := cut_len xs (some ((i : Int) + 1)) none
    refine ⟨_, _, fun M => sl_t, fun M => sl_t, fun M => bn_addt (by rw [List.length_singleton]; unfold lim; omega), fun M => bn_addt (by rw [List.length_append, List.length_singleton]; unfold lim; omega), ?_, by rw [List.length_append, List.length_append, List.length_singleton]; omega⟩
    rw [List.all_append, List.all_append, all_cut _ _ hx, all_cut _ _ hx]
    simp [hd]
  obtain ⟨c1, c2, z1, z2, z3, z4, z5, z6⟩ := cuts (ps.map .int) a hall (by omega) d4 n4
  generalize (c1 ++ [d4]) ++ c2 = one at z4 z5 z6
  obtain ⟨c3, c4, y1, y2, y3, y4, y5, y6⟩ := cuts one b z5 (by omega) d5 n5
  generalize (c3 ++ [d5]) ++ c4 = two at y4 y5 y6
  -- the rest of the things
  have sl1 : ∀ M, slQ (.v (.tup (ps.map .int))) (some 1) none M = .ok (.v (.tup (cut (ps.map .int) (some 1) none))) M := fun M => sl_t
  have a1 := all_cut (some 1) none hall
  generalize cut (ps.map D.int) (some 1) none = t1 at sl1 a1
  have sl2 : ∀ M, slQ (.v (.tup (ps.map .int))) none (some (-1)) M = .ok (.v (.tup (cut (ps.map .int) none (some (-1))))) M := fun M => sl_t
  have a2 := all_cut none (some (-1)) hall
  have l2 := cut_len (ps.map D.int) none (some (-1))
  generalize cut (ps.map D.int) none (some (-1)) = t2 at sl2 a2 l2
  have ix1 : ∀ M, ixQ (.v (.tup (ps.map .int))) (.v (.int (-1))) M = .ok (.v (.int p0)) M := fun M => by
    rw [ix_tn (by omega) (by rw [hlen]; omega), hlen, show ((ps.length : Int) + (-1)).toNat = ps.length - 1 by omega, hp0]; rfl
  have m1 : ∀ M, binQ .Add (.v (.tup (ps.map .int))) (.v (.tup [.int 1])) M = .ok (.v (.tup (ps.map .int ++ [D.int 1]))) M := fun M => bn_addt (by rw [List.length_singleton]; unfold lim; omega)
  have m2 : ∀ M, binQ .Add (.v (.tup (ps.map .int))) (.v (.tup (ps.map .int))) M = .ok (.v (.tup (ps.map .int ++ ps.map .int))) M := fun M => bn_addt (by unfold lim; omega)
  have m3 : ∀ M, binQ .Add (.v (.tup t2)) (.v (.tup [.tup [.int p0]])) M = .ok (.v (.tup (t2 ++ [D.tup [D.int p0]]))) M := fun M => bn_addt (by rw [List.length_singleton]; unfold lim; omega)
  have a3 : (ps.map D.int ++ [D.int 1]).all notF = true := by rw [List.all_append, hall]; rfl
  have a4 : (ps.map D.int ++ ps.map D.int).all notF = true := by rw [List.all_append, hall]; rfl
  have a5 : (t2 ++ [D.tup [D.int p0]]).all notF = true := by rw [List.all_append, a2]; rfl
  generalize t2 ++ [D.tup [D.int p0]] = t3 at m3 a5
  have lt : ∀ M, b1Q .list (.v (.tup (ps.map .int))) M = .ok (.tmp (ps.map .int)) M := fun M => lst_t
  have lo : ∀ M, b1Q .list (.v (.tup one)) M = .ok (.tmp one) M := fun M => lst_t
  have lnt : ∀ M, b1Q .len (.v (.tup (ps.map .int))) M = .ok (.v (.int ps.length)) M := fun M => by rw [len_t, hlen]
  generalize ps.map D.int ++ [D.int 1] = t4 at m1 a3
  generalize ps.map D.int ++ ps.map D.int = t5 at m2 a4
  generalize ps.map D.int = pd at *
  clear cuts hp0 hlen l2 y6 z6 q1 q2 q3 q4 q5 ha on ol n4 n5 ln1
  refine ens_step (by walk_at "ew"; rfl) ?_
  refine ens_step (by walk_at "ew"; rfl) ?_
  refine ens_step (by walk_at "ew"; rfl) ?_
  refine ens_step (by walk_at "ew"; rfl) ?_
  refine ens_step (by walk_at "ew"; rfl) ?_
  refine (last (L0 := L) k5 ?th _ _ ?hk ?hl ?ha ⟨_, rfl⟩).mono (fun _ _ h => h.elim) fun _ _ h => h
  case hk => rw [at_off]; rfl
  case hl => rfl
  case ha => simp only [List.all_cons, List.all_nil, okT, notF, hall, z5, y5, a1, a3, a4, a5, Bool.and_self, Bool.and_true]

end Ltrueatonce_k29_prices_costs

set_option Elab.async false
set_option linter.all false
set_option maxRecDepth 100000
set_option maxHeartbeats 4000000
namespace Ltrueatonce_k29_prices_costs
open PySem PySem.Spec PyProof.Rows L2 RZ Tri
local macro_rules | `(tactic| walk_at "ev") => `(tactic| simp (config := {decide := true, implicitDefEqProofs := false}) only [Tri.fn_eq, Tri.fnO_nx, Tri.fnO_rt, Tri.fnO_ex, Tri.k_ok, Tri.k_ex, Tri.k_no, Tri.st_ok, Tri.st_ex, Tri.st_no, Tri.runs_cons, Tri.runs_nil, Tri.seq_nx, Tri.seq_rt, Tri.seq_bk, Tri.seq_ct, Tri.seq_ex, Tri.seq_no, Tri.seq_nil, Tri.tst_bl, Tri.evD_v, Tri.evD_tmp, Tri.evD_ex, Tri.okv_eq, Tri.noex_ok, Tri.r_expr, Tri.r_ret, Tri.r_retN, Tri.r_pass, Tri.r_brk, Tri.r_cont, Tri.r_set, Tri.nxo_some, Tri.r_asg, Tri.r_par, Tri.nxm_some, Tri.r_setIx, Tri.augR_some, Tri.r_aug, Tri.ifS_t, Tri.ifS_f, Tri.r_ife, Tri.r_whl, Tri.r_for, Tri.v_non, Tri.v_bl, Tri.v_int, Tri.v_str, Tri.slot_some, Tri.v_var, Tri.v_con, Tri.v_bin, Tri.negQ_int, Tri.v_neg, Tri.v_not, Tri.andR_t, Tri.andR_f, Tri.orR_t, Tri.orR_f, Tri.v_and, Tri.v_or, Tri.ifR_t, Tri.ifR_f, Tri.v_ife, Tri.v_cmp, Tri.v_cmp2, Tri.cmpE_int, Tri.cmp3_f, Tri.cmp3_t, Tri.cmpI, Tri.v_isN, Tri.v_notN, Tri.v_isi, Tri.v_tup, Tri.v_lst, Tri.v_ix, Tri.v_sl, Tri.callR_some, Tri.v_call, Tri.v_callK, Tri.v_lrg1, Tri.v_lrg2, Tri.v_b1, Tri.v_b2, Tri.v_m0, Tri.m1R_ref, Tri.v_m1, Tri.v_lc, Tri.a_app, Tri.a_ext, Tri.a_pop, Tri.s_nil, Tri.s_cons, Tri.o_no, Tri.intO_int, Tri.o_so, Tri.c_no, Tri.c_so, Tri.i_seq, Tri.i_rg1, Tri.i_rg2, Tri.i_en, Tri.i_zip, Tri.src_tmp, Tri.src_tup, Tri.srcO_some, Tri.src_ref, Tri.src_f, Tri.rg1_ok, Tri.rg1_int, Tri.rg2_ok, Tri.en_tmp, Tri.zip_tup, Tri.tupQ_ok, Tri.lstQ_ok, Tri.bn_add, Tri.bn_addr, Tri.catO_some, Tri.bn_addt, Tri.bn_sub, Tri.bn_mod, Tri.bn_div, Tri.bn_mulr, Tri.bn_mull, Tri.ofB_some, Tri.cm_lt, Tri.cm_le, Tri.cm_gt, Tri.cm_ge, Tri.cm_eq, Tri.cm_ne, Tri.cm_eqb, Tri.cm_neb, Tri.ixO_some, Tri.ix_t, Tri.ix_m, Tri.ixR_some, Tri.ix_r, Tri.lstO_some, Tri.len_t, Tri.len_m, Tri.len_f, Tri.len_r, Tri.int_i, Tri.int_b, Tri.tup_t, Tri.tup_m, Tri.tup_r, Tri.lst_t, Tri.sorted_tu, Tri.lst_m, Tri.lst_r, Tri.min_i, Tri.max_i, Tri.appO_some, Tri.app_r, Tri.extO_some, Tri.ext_m, Tri.ext_r, Tri.pop_r, Tri.popO_some, Tri.six_r, Tri.setO_some, Tri.asg_n, Tri.asg_t, Tri.sa_nil, Tri.sa_cons, Tri.aug_add, Tri.aug_sub, Tri.isA_all, Tri.fl_BadName_at_, Tri.fl_BadFields_at_, Tri.fl_BadFields_word, Tri.fl_BadLadder_at_, Tri.fl_BadLadder_word, Tri.fl_BadReading_at_, Tri.fl_BadReading_word, Tri.fl_BadSight_at_, Tri.fl_BadStep_word, Tri.fl_BadText_line, Tri.fl_BadText_word, Tri.fl_BadCommand_line, Tri.fl_NoSuch_word, Tri.fl_NoSuch_name, Tri.fl_Taken_name, Tri.raisS_ok, Tri.r_rais, Tri.r_try, Tri.try_nx, Tri.try_rt, Tri.try_ex, Tri.handR_t, Tri.handR_f, Tri.hands_nil, Tri.hands_cons, Tri.sok_none, Tri.sok_some, Tri.wipeO_none, Tri.wipeO_some, Tri.xend_nx, Tri.xend_v, Tri.xend_tmp, Tri.xs_nil, Tri.xs_cons, Tri.xseq_nx, Tri.xseq_rt, Tri.xretO_some, Tri.x_ret, Tri.x_pass, Tri.xif_t, Tri.xif_f, Tri.x_ife, Tri.t_isx, Tri.t_isxs, Tri.t_not, Tri.t_and, Tri.t_or, Tri.e_non, Tri.e_bl, Tri.e_int, Tri.e_str, Tri.xslot_some, Tri.e_var, Tri.e_fld, Tri.xifE_t, Tri.xifE_f, Tri.e_ife, Tri.xtup_some, Tri.xlst_some, Tri.e_tup, Tri.e_lst, Tri.es_nil, Tri.xcons_some, Tri.es_cons, Tri.v_dnew, Tri.v_disp, Tri.dispR_t, Tri.dispQ_ok, Tri.v_dget, Tri.v_din, Tri.r_dset, Tri.dR_t, Tri.dlkO_some, Tri.dget_d, Tri.din_d, Tri.dset_d, Tri.dsR_ok, Tri.keyOk_i, Tri.keyOk_s, Tri.keyOk_ii, Tri.keyOk_si, Tri.keyOk_is, Tri.keyOk_iii, Tri.i_zip3, Tri.en_tup, Tri.zip3_tup, Tri.v_rev, Tri.rev_m, Tri.rev_r, Tri.sl_t, Tri.sl_m, Tri.sl_f, Tri.sl_r, Tri.addO_some, Tri.bn_rm, Tri.bn_mm, Tri.asg_nst, Tri.ats_nil, Tri.ats_cons, Tri.isNon, Tri.isiR, Tri.isiQ, Tri.tyOf, Tri.at_mid, Tri.set_mid,
  List.map_cons, List.map_nil, List.cons_append, List.nil_append, List.append_assoc, List.length_append, Tri.at_off, Tri.set_off, List.length_cons, List.length_nil, List.length_map, List.replicate_succ, List.replicate_zero, List.getElem?_cons_zero, List.getElem?_cons_succ, List.set_cons_zero, List.set_cons_succ, Option.bind_some, Option.map_some, Nat.reduceAdd, Nat.reduceSub, Nat.zero_add, if_true, Bool.false_eq_true, if_false, ite_true, ite_false, decide_true, decide_false, Bool.not_true, Bool.not_false, Bool.or_true, Bool.or_false, Bool.false_or, Bool.and_false, Bool.false_and, Tri.ty_ne, Bool.true_or, Bool.and_true, Bool.true_and, Int.toNat_one, Int.toNat_zero, Int.reduceToNat, Int.reduceLT, Int.reduceLE, Nat.reduceLT, Int.toNat_natCast, Int.natCast_nonneg, beq_self_eq_true, *])
local macro_rules | `(tactic| walk_at "ew") => `(tactic| simp (config := {decide := true, implicitDefEqProofs := false}) only [Tri.fn_eq, Tri.fnO_nx, Tri.fnO_rt, Tri.fnO_ex, Tri.k_ok, Tri.k_ex, Tri.k_no, Tri.st_ok, Tri.st_ex, Tri.st_no, Tri.runs_cons, Tri.runs_nil, Tri.seq_nx, Tri.seq_rt, Tri.seq_bk, Tri.seq_ct, Tri.seq_ex, Tri.seq_no, Tri.seq_nil, Tri.tst_bl, Tri.evD_v, Tri.evD_tmp, Tri.evD_ex, Tri.okv_eq, Tri.noex_ok, Tri.r_expr, Tri.r_ret, Tri.r_retN, Tri.r_pass, Tri.r_brk, Tri.r_cont, Tri.r_set, Tri.nxo_some, Tri.r_asg, Tri.r_par, Tri.nxm_some, Tri.r_setIx, Tri.augR_some, Tri.r_aug, Tri.ifS_t, Tri.ifS_f, Tri.r_ife, Tri.r_whl, Tri.r_for, Tri.v_non, Tri.v_bl, Tri.v_int, Tri.v_str, Tri.slot_some, Tri.v_var, Tri.v_con, Tri.v_bin, Tri.negQ_int, Tri.v_neg, Tri.v_not, Tri.andR_t, Tri.andR_f, Tri.orR_t, Tri.orR_f, Tri.v_and, Tri.v_or, Tri.ifR_t, Tri.ifR_f, Tri.v_ife, Tri.v_cmp, Tri.v_cmp2, Tri.cmpE_int, Tri.cmp3_f, Tri.cmp3_t, Tri.cmpI, Tri.v_isN, Tri.v_notN, Tri.v_isi, Tri.v_tup, Tri.v_lst, Tri.v_ix, Tri.v_sl, Tri.callR_some, Tri.v_call, Tri.v_callK, Tri.v_lrg1, Tri.v_lrg2, Tri.v_b1, Tri.v_b2, Tri.v_m0, Tri.m1R_ref, Tri.v_m1, Tri.v_lc, Tri.a_app, Tri.a_ext, Tri.a_pop, Tri.s_nil, Tri.s_cons, Tri.o_no, Tri.intO_int, Tri.o_so, Tri.c_no, Tri.c_so, Tri.i_seq, Tri.i_rg1, Tri.i_rg2, Tri.i_en, Tri.i_zip, Tri.src_tmp, Tri.src_tup, Tri.srcO_some, Tri.src_ref, Tri.src_f, Tri.rg1_ok, Tri.rg1_int, Tri.rg2_ok, Tri.en_tmp, Tri.zip_tup, Tri.tupQ_ok, Tri.lstQ_ok, Tri.bn_add, Tri.bn_addr, Tri.catO_some, Tri.bn_addt, Tri.bn_sub, Tri.bn_mod, Tri.bn_div, Tri.bn_mulr, Tri.bn_mull, Tri.ofB_some, Tri.cm_lt, Tri.cm_le, Tri.cm_gt, Tri.cm_ge, Tri.cm_eq, Tri.cm_ne, Tri.cm_eqb, Tri.cm_neb, Tri.ixO_some, Tri.ix_t, Tri.ix_m, Tri.ixR_some, Tri.ix_r, Tri.lstO_some, Tri.len_t, Tri.len_m, Tri.len_f, Tri.len_r, Tri.int_i, Tri.int_b, Tri.tup_t, Tri.tup_m, Tri.tup_r, Tri.lst_t, Tri.sorted_tu, Tri.lst_m, Tri.lst_r, Tri.min_i, Tri.max_i, Tri.appO_some, Tri.app_r, Tri.extO_some, Tri.ext_m, Tri.ext_r, Tri.pop_r, Tri.popO_some, Tri.six_r, Tri.setO_some, Tri.asg_n, Tri.asg_t, Tri.sa_nil, Tri.sa_cons, Tri.aug_add, Tri.aug_sub, Tri.isA_all, Tri.fl_BadName_at_, Tri.fl_BadFields_at_, Tri.fl_BadFields_word, Tri.fl_BadLadder_at_, Tri.fl_BadLadder_word, Tri.fl_BadReading_at_, Tri.fl_BadReading_word, Tri.fl_BadSight_at_, Tri.fl_BadStep_word, Tri.fl_BadText_line, Tri.fl_BadText_word, Tri.fl_BadCommand_line, Tri.fl_NoSuch_word, Tri.fl_NoSuch_name, Tri.fl_Taken_name, Tri.raisS_ok, Tri.r_rais, Tri.r_try, Tri.try_nx, Tri.try_rt, Tri.try_ex, Tri.handR_t, Tri.handR_f, Tri.hands_nil, Tri.hands_cons, Tri.sok_none, Tri.sok_some, Tri.wipeO_none, Tri.wipeO_some, Tri.xend_nx, Tri.xend_v, Tri.xend_tmp, Tri.xs_nil, Tri.xs_cons, Tri.xseq_nx, Tri.xseq_rt, Tri.xretO_some, Tri.x_ret, Tri.x_pass, Tri.xif_t, Tri.xif_f, Tri.x_ife, Tri.t_isx, Tri.t_isxs, Tri.t_not, Tri.t_and, Tri.t_or, Tri.e_non, Tri.e_bl, Tri.e_int, Tri.e_str, Tri.xslot_some, Tri.e_var, Tri.e_fld, Tri.xifE_t, Tri.xifE_f, Tri.e_ife, Tri.xtup_some, Tri.xlst_some, Tri.e_tup, Tri.e_lst, Tri.es_nil, Tri.xcons_some, Tri.es_cons, Tri.v_dnew, Tri.v_disp, Tri.dispR_t, Tri.dispQ_ok, Tri.v_dget, Tri.v_din, Tri.r_dset, Tri.dR_t, Tri.dlkO_some, Tri.dget_d, Tri.din_d, Tri.dset_d, Tri.dsR_ok, Tri.keyOk_i, Tri.keyOk_s, Tri.keyOk_ii, Tri.keyOk_si, Tri.keyOk_is, Tri.keyOk_iii, Tri.i_zip3, Tri.en_tup, Tri.zip3_tup, Tri.v_rev, Tri.rev_m, Tri.rev_r, Tri.sl_t, Tri.sl_m, Tri.sl_f, Tri.sl_r, Tri.addO_some, Tri.bn_rm, Tri.bn_mm, Tri.asg_nst, Tri.ats_nil, Tri.ats_cons, Tri.isNon, Tri.isiR, Tri.isiQ, Tri.tyOf, Tri.at_mid, Tri.set_mid,
  List.map_cons, List.map_nil, List.cons_append, List.nil_append, List.append_assoc, W_app, W_len, W_at, W_set, List.length_append, Tri.at_off, Tri.set_off, List.length_cons, List.length_nil, List.length_map, List.replicate_succ, List.replicate_zero, List.getElem?_cons_zero, List.getElem?_cons_succ, List.set_cons_zero, List.set_cons_succ, Option.bind_some, Option.map_some, Nat.reduceAdd, Nat.reduceSub, Nat.zero_add, if_true, Bool.false_eq_true, if_false, ite_true, ite_false, decide_true, decide_false, Bool.not_true, Bool.not_false, Bool.or_true, Bool.or_false, Bool.false_or, Bool.and_false, Bool.false_and, Tri.ty_ne, Bool.true_or, Bool.and_true, Bool.true_and, Int.toNat_one, Int.toNat_zero, Int.reduceToNat, Int.reduceLT, Int.reduceLE, Nat.reduceLT, Int.toNat_natCast, Int.natCast_nonneg, beq_self_eq_true, *])

def absI (i : Int) : Int := if i < 0 then -i else i
theorem absI_sub (a b : Int) : absI (a - b) = absI (b - a) := by unfold absI; split <;> split <;> omega
/-- what answers cost, place by place -/
def cl : List Int → List Int → List Int → List Int
  | p :: ps, t :: ts, a :: as => p * absI (a - t) :: cl ps ts as
  | _, _, _ => []
def cf (d : D) : D := match d with
  | .tup [.int p, .int t, .int a] => .int (p * absI (a - t))
  | _ => .non
theorem zip3_cl : ∀ (ps ts as : List Int), (zip3D (ps.map .int) (ts.map .int) (as.map .int)).map cf = (cl ps ts as).map .int
  | [], _, _ => by simp [zip3D, cl]
  | p :: ps, [], _ => by simp [zip3D, cl]
  | p :: ps, t :: ts, [] => by simp [zip3D, cl]
  | p :: ps, t :: ts, a :: as => by simp only [List.map_cons, zip3D, cl, zip3_cl ps ts as, cf]
theorem zip3_mem : ∀ (ps ts as : List Int) (x : D), x ∈ zip3D (ps.map .int) (ts.map .int) (as.map .int) → ∃ p t a, x = .tup [.int p, .int t, .int a] ∧ p ∈ ps
  | [], _, _, x, h => by simp [zip3D] at h
  | p :: ps, [], _, x, h => by simp [zip3D] at h
  | p :: ps, t :: ts, [], x, h => by simp [zip3D] at h
  | p :: ps, t :: ts, a :: as, x, h => by
    simp only [List.map_cons, zip3D, List.mem_cons] at h
    rcases h with rfl | h
    · exact ⟨p, t, a, rfl, List.mem_cons_self⟩
    · obtain ⟨p', t', a', e, m⟩ := zip3_mem ps ts as x h
      exact ⟨p', t', a', e, List.mem_cons_of_mem _ m⟩
theorem cl_symm : ∀ (ps ts as : List Int), cl ps as ts = cl ps ts as
  | [], _, _ => by simp [cl]
  | p :: ps, [], [] => by simp [cl]
  | p :: ps, [], a :: as => by simp [cl]
  | p :: ps, t :: ts, [] => by simp [cl]
  | p :: ps, t :: ts, a :: as => by rw [cl, cl, absI_sub, cl_symm ps ts as]
theorem cl_self : ∀ (ps ts : List Int), (cl ps ts ts).sum = 0
  | [], _ => by simp [cl]
  | p :: ps, [] => by simp [cl]
  | p :: ps, t :: ts => by rw [cl, List.sum_cons, cl_self ps ts, Int.sub_self]; simp [absI]
theorem cl_take : ∀ (j : Nat) (ps ts as : List Int) (p t a : Int), ps[j]? = some p → ts[j]? = some t → as[j]? = some a → (cl (ps.take (j + 1)) (ts.take (j + 1)) (as.take (j + 1))).sum = (cl (ps.take j) (ts.take j) (as.take j)).sum + p * absI (a - t)
  | j, [], _, _, _, _, _, h, _, _ => by simp at h
  | j, _ :: _, [], _, _, _, _, _, h, _ => by simp at h
  | j, _ :: _, _ :: _, [], _, _, _, _, _, h => by simp at h
  | 0, p :: ps, t :: ts, a :: as, p', t', a', h1, h2, h3 => by
    simp at h1 h2 h3
    subst h1 h2 h3
    simp [cl]
  | j + 1, p :: ps, t :: ts, a :: as, p', t', a', h1, h2, h3 => by
    have := cl_take j ps ts as p' t' a' (by simpa using h1) (by simpa using h2) (by simpa using h3)
    simp only [List.take_succ_cons, cl, List.sum_cons] at this ⊢
    omega
theorem sheet_ok {ps ts as : List Int} (M : Store) (hp : ∀ p ∈ ps, p.natAbs < 2 ^ 64) (hl : ps.length ≤ 1000) : g_sheet_cost [.tup (ps.map .int), .tup (ts.map .int), .tup (as.map .int)] M = .ok (.int (cl ps ts as).sum) M := by
  have lc : ∀ (a3 a4 a5 : Option D), lcQ [g_l_pool, g_l_draw, g_l_fields, g_l_same] (.bin .Mult (.var 3) (.b1 .abs (.bin .Sub (.var 5) (.var 4)))) (.tup [3, 4, 5]) .no [3, 4, 5] [some (.tup (ps.map .int)), some (.tup (ts.map .int)), some (.tup (as.map .int)), a3, a4, a5] ⟨none, zip3D (ps.map .int) (ts.map .int) (as.map .int)⟩ M = .ok (.tmp ((cl ps ts as).map .int)) M := fun a3 a4 a5 => by
    rw [← zip3_cl]
    refine lcQ_map cf (by rw [zip3_length, List.length_map, List.length_map, List.length_map]; unfold lim; omega) fun x hx => ?_
    obtain ⟨p, t, a, rfl, m⟩ := zip3_mem _ _ _ _ hx
    have hp' := hp p m
    have ab : ∀ i M, b1Q .abs (.v (.int i)) M = .ok (.v (.int (absI i))) M := fun i M => rfl
    refine ⟨[some (.tup (ps.map .int)), some (.tup (ts.map .int)), some (.tup (as.map .int)), some (.int p), some (.int t), some (.int a)], by rw [asg_t]; rfl, ?_⟩
    clear hx m hp hl
    have mu : ∀ (i : Int) (M : Store), binQ .Mult (.v (.int p)) (.v (.int i)) M = .ok (.v (.int (p * i))) M := fun i M => bn_mull hp'
    clear hp'
    walk_at "ew"
    rfl
  have su := fun M => sum_m (bs := cl ps ts as) (M := M)
  unfold g_sheet_cost b_sheet_cost
  clear hp hl
  walk_at "ew"

theorem same_f (d : D) (hp : plainD d = true) (hz : szD d ≤ lim) : ∃ f : Store → Store, ∀ M, g_l_same [d, d] M = .ok (.bl true) (M ++ f M) := Classical.axiomOfChoice fun M => same_ok M hp hz
theorem num_at {r : List Int} {i : Nat} (h : i < r.length) : (r.map D.int)[i]? = some (.int r[i]) := by
  rw [List.getElem?_map, List.getElem?_eq_getElem h]; rfl
theorem target_lc {G : Gam} (hG : G[1]? = some g_l_draw) (fs : List F3) (hl : fs.length ≤ 12) (hf : ∀ f ∈ fs, FOk f) {a1 a2 a3 a4 a5 a6 a7 a8 a9 a10 a11 : Option D} (s : Dice) (hs : s.gs.length ≤ 63) (L : Store) :
    ∃ (ts : List Int) (s' : Dice), lcQ G (.bin .Add (.var 5) (.call 1 (.cons (.var 0) (.cons (.bin .Sub (.bin .Add (.var 6) (.int 1)) (.var 5)) .nil)))) (.tup [4, 5, 6]) .no [4, 5, 6] [some (.ref 0), a1, a2, a3, a4, a5, a6, a7, a8, a9, a10, a11] ⟨none, fs.map fD⟩ (W s L) = .ok (.tmp (ts.map .int)) (W s' L) ∧ s'.gs.length ≤ 63 ∧ ts.length = fs.length := by
  obtain ⟨ds, M', e, ts, s', rfl, rfl, h2, h⟩ := lcQ_ens (G := G) (elt := .bin .Add (.var 5) (.call 1 (.cons (.var 0) (.cons (.bin .Sub (.bin .Add (.var 6) (.int 1)) (.var 5)) .nil)))) (tg := .tup [4, 5, 6]) (own := [4, 5, 6]) (τ := [some (.ref 0), a1, a2, a3, a4, a5, a6, a7, a8, a9, a10, a11]) (xs := fs.map fD) (M := W s L) (fun j acc M => ∃ (ts : List Int) (s' : Dice), acc = ts.map .int ∧ M = W s' L ∧ s'.gs.length ≤ 63 ∧ ts.length = j) (by rw [List.length_map]; unfold lim; omega) ⟨[], s, rfl, rfl, hs, rfl⟩ (by
    rintro j x acc M hx ⟨ts, s', rfl, rfl, hs', hl'⟩
    rw [List.getElem?_map] at hx
    obtain ⟨f, hf1, rfl⟩ := Option.map_eq_some_iff.mp hx
    obtain ⟨o1, o2, o3⟩ := hf f (List.mem_of_getElem? hf1)
    obtain ⟨r, s2, e2, k2, _⟩ := draw_nat s' L (m := f.hi + 1 - f.lo) hs' (by omega) (by omega)
    refine ⟨[some (.ref 0), a1, a2, a3, some (.str f.n), some (.int f.lo), some (.int f.hi), a7, a8, a9, a10, a11], by unfold fD; rw [asg_t]; rfl, ?_⟩
    clear hx hf1 hf hl o1 o2 o3
    have e3 : (ts ++ [f.lo + (r : Int)]).length = j + 1 := by rw [List.length_append, hl']; rfl
    clear hl'
    walk_at "ew"
    exact ens_ok ⟨ts ++ [f.lo + (r : Int)], s2, by rw [List.map_append]; rfl, rfl, k2, e3⟩)
  rw [List.length_map] at h
  exact ⟨ts, s', e, h2, h⟩
theorem costs_ok (s : Dice) (L : Store) (hs : s.gs.length ≤ 63) (fs : List F3) (ps : List Int) (hl : fs.length ≤ 12) (hf : ∀ f ∈ fs, FOk f) (hp : ∀ p ∈ ps, 1 ≤ p ∧ p ≤ 20) (hpl : ps.length = fs.length) : ∃ s' G, g_l_costs [.ref 0, FD fs, .tup (ps.map .int)] (W s L) = .ok (.bl true) (W s' (L ++ G)) ∧ s'.gs.length ≤ 63 := by
  suffices h : (g_l_costs [.ref 0, FD fs, .tup (ps.map .int)] (W s L)).ens fun d M' => d = .bl true ∧ ∃ s' G, M' = W s' (L ++ G) ∧ s'.gs.length ≤ 63 by
    obtain ⟨d, M', e, rfl, s', G, rfl, h⟩ := h
    exact ⟨s', G, e, h⟩
  have hp' : ∀ p ∈ ps, p.natAbs < 2 ^ 64 := fun p m => by have := hp p m; omega
  unfold g_l_costs b_l_costs FD
  apply ens_fn
  obtain ⟨ts, s1, e1, k1, l1⟩ := target_lc (G := [g_l_pool, g_l_draw, g_l_fields, g_l_same, g_sheet_cost]) rfl fs hl hf (a1 := some (.tup (fs.map fD))) (a2 := some (.tup (ps.map .int))) (a3 := none) (a4 := none) (a5 := none) (a6 := none) (a7 := none) (a8 := none) (a9 := none) (a10 := none) (a11 := none) s hs L
  obtain ⟨hb, s2, e2, k2, q2⟩ := draw_nat s1 L (m := 3) k1 (by omega) (by omega)
  have rg : ∀ M, rg1Q (.v (.int fs.length)) M = .ok ⟨none, rng 0 fs.length⟩ M := fun M => rg1_len (by unfold lim; omega)
  have lnt : ∀ M, b1Q .len (.v (.tup (fs.map fD))) M = .ok (.v (.int fs.length)) M := fun M => by rw [len_t, List.length_map]
  walk_at "ew"
  apply ens_seq
  refine forQ_ens (fun j τ M1 => ∃ a4 a5 a6 a9 a10 as s', τ = [some (.ref 0), some (.tup (fs.map fD)), some (.tup (ps.map .int)), some (.tup (ts.map .int)), a4, a5, a6, some (.int hb), some (.ref (L.length + 1)), a9, a10, none] ∧ M1 = W s' (L ++ [.lst (as.map .int)]) ∧ s'.gs.length ≤ 63 ∧ as.length = j) ⟨_, _, _, _, _, [], s2, rfl, rfl, k2, rfl⟩ ?_ ?_
  · rintro j x τ M1 hx ⟨a4, a5, a6, a9, a10, as, s', rfl, rfl, hs', hl'⟩
    obtain ⟨hj, rfl⟩ := Tri.rng_get hx
    rw [Int.zero_add]
    have hj' : j < fs.length := by omega
    obtain ⟨o1, o2, o3⟩ := hf fs[j] (List.getElem_mem _)
    have g1 : (fs.map fD)[j]? = some (.tup [.str fs[j].n, .int fs[j].lo, .int fs[j].hi]) := by rw [List.getElem?_map, List.getElem?_eq_getElem hj']; rfl
    have g2 := num_at (r := ts) (i := j) (by omega)
    generalize fs[j] = f at *
    generalize ts[j] = t at *
    obtain ⟨r, s3, e3, k3, q3⟩ := draw_nat s' (L ++ [.lst (as.map .int)]) (m := f.hi + 1 - f.lo) hs' (by omega) (by omega)
    obtain ⟨r4, s4, e4, k4, q4⟩ := draw_nat s3 (L ++ [.lst (as.map .int)]) (m := 3) k3 (by omega) (by omega)
    have fin : ∀ v : Int, (as ++ [v]).length = j + 1 := fun v => by rw [List.length_append, hl']; rfl
    have mp : ∀ v : Int, List.map D.int (as ++ [v]) = List.map D.int as ++ [.int v] := fun v => by rw [List.map_append]; rfl
    have la : as.length < lim := by unfold lim; omega
    refine ⟨_, asg_n, .inl ?_⟩
    clear hx hj hj' o1 o2 o3 q3 q4 hf hp hp' hl hpl l1 rg lnt e1 e2 hl'
    cases c1 : decide ((hb : Int) = 1) with
    | false =>
      cases c2 : decide ((hb : Int) = 2) with
      | false =>
        walk_at "ew"
        exact ens_nx ⟨_, _, _, _, _, as ++ [_], _, rfl, by rw [mp], k3, fin _⟩
      | true =>
        cases c3 : decide (t = f.lo) with
        | false => walk_at "ew"; exact ens_nx ⟨_, _, _, _, _, as ++ [_], _, rfl, by rw [mp], k3, fin _⟩
        | true => walk_at "ew"; exact ens_nx ⟨_, _, _, _, _, as ++ [_], _, rfl, by rw [mp], k3, fin _⟩
    | true =>
      have c2 : decide ((hb : Int) = 2) = false := decide_eq_false (by have := of_decide_eq_true c1; omega)
      cases c4 : decide ((0 : Int) < (r4 : Int)) with
      | false => walk_at "ew"; exact ens_nx ⟨_, _, _, _, _, as ++ [_], _, rfl, by rw [mp], k4, fin _⟩
      | true => walk_at "ew"; exact ens_nx ⟨_, _, _, _, _, as ++ [_], _, rfl, by rw [mp], k4, fin _⟩
  · rintro τ M1 ⟨a4, a5, a6, a9, a10, as, s', rfl, rfl, hs', hl'⟩
    rw [rng_len, show ((fs.length : Int) - 0).toNat = fs.length by omega] at hl'
    have n1 := fun M => sheet_ok (ts := ts) (as := as) M hp' (by omega)
    have n2 := fun M => sheet_ok (ts := as) (as := ts) M hp' (by omega)
    have n3 := fun M => sheet_ok (ts := ts) (as := ts) M hp' (by omega)
    have tk1 : ps.take fs.length = ps := List.take_of_length_le (by omega)
    have tk2 : ts.take fs.length = ts := List.take_of_length_le (by omega)
    have tk3 : as.take fs.length = as := List.take_of_length_le (by omega)
    rw [cl_symm] at n2
    rw [cl_self] at n3
    clear e1 e2 hf hl q2
    walk_at "ew"
    apply ens_seq
    refine forQ_ens (fun j τ M1 => ∃ b9, τ = [some (.ref 0), some (.tup (fs.map fD)), some (.tup (ps.map .int)), some (.tup (ts.map .int)), a4, a5, a6, some (.int hb), some (.ref (L.length + 1)), b9, a10, some (.int (cl (ps.take j) (ts.take j) (as.take j)).sum)] ∧ M1 = W s' (L ++ [.lst (as.map .int)])) ⟨_, rfl, rfl⟩ ?_ ?_
    · rintro j x τ M1 hx ⟨b9, rfl, rfl⟩
      obtain ⟨hj, rfl⟩ := Tri.rng_get hx
      rw [Int.zero_add]
      have g1 := num_at (r := ps) (i := j) (by omega)
      have g2 := num_at (r := ts) (i := j) (by omega)
      have g3 := num_at (r := as) (i := j) (by omega)
      have ct := cl_take j ps ts as ps[j] ts[j] as[j] (List.getElem?_eq_getElem (by omega)) (List.getElem?_eq_getElem (by omega)) (List.getElem?_eq_getElem (by omega))
      have pb := hp' ps[j] (List.getElem_mem _)
      generalize ps[j] = p at *
      generalize ts[j] = t at *
      generalize as[j] = a at *
      have mx : ∀ M, b2Q .max (.v (.int (a - t))) (.v (.int (t - a))) M = .ok (.v (.int (absI (a - t)))) M := fun M => by
        rw [max_i]
        congr 3
        unfold absI
        split <;> split <;> omega
      have mu : ∀ (i : Int) (M : Store), binQ .Mult (.v (.int p)) (.v (.int i)) M = .ok (.v (.int (p * i))) M := fun i M => bn_mull pb
      refine ⟨_, asg_n, .inl ?_⟩
      clear hx hj n1 n2 n3 rg lnt hp hp' pb tk1 tk2 tk3 hl' l1 hpl
      generalize (cl (ps.take j) (ts.take j) (as.take j)).sum = su at *
      walk_at "ew"
      exact ens_nx ⟨_, rfl, rfl⟩
    · rintro τ M1 ⟨b9, rfl, rfl⟩
      rw [rng_len, show ((fs.length : Int) - 0).toNat = fs.length by omega, tk1, tk2, tk3]
      obtain ⟨f, hf⟩ := same_f (.tup [.int (cl ps ts as).sum, .int (cl ps ts as).sum, .int 0]) rfl (by simp only [szD, szDs]; decide)
      generalize (cl ps ts as).sum = v at *
      clear tk1 tk2 tk3 hl' l1 hpl hp hp' rg lnt
      walk_at "ew"
      exact ens_rt ⟨rfl, _, _, rfl, hs'⟩

end Ltrueatonce_k29_prices_costs

set_option Elab.async false
set_option linter.all false
set_option maxRecDepth 100000
set_option maxHeartbeats 4000000
namespace Ltrueatonce_k29_prices_costs
open PySem PySem.Spec PyProof.Rows L2 RZ Tri
local macro_rules | `(tactic| walk_at "ev") => `(tactic| simp (config := {decide := true, implicitDefEqProofs := false}) only [Tri.fn_eq, Tri.fnO_nx, Tri.fnO_rt, Tri.fnO_ex, Tri.k_ok, Tri.k_ex, Tri.k_no, Tri.st_ok, Tri.st_ex, Tri.st_no, Tri.runs_cons, Tri.runs_nil, Tri.seq_nx, Tri.seq_rt, Tri.seq_bk, Tri.seq_ct, Tri.seq_ex, Tri.seq_no, Tri.seq_nil, Tri.tst_bl, Tri.evD_v, Tri.evD_tmp, Tri.evD_ex, Tri.okv_eq, Tri.noex_ok, Tri.r_expr, Tri.r_ret, Tri.r_retN, Tri.r_pass, Tri.r_brk, Tri.r_cont, Tri.r_set, Tri.nxo_some, Tri.r_asg, Tri.r_par, Tri.nxm_some, Tri.r_setIx, Tri.augR_some, Tri.r_aug, Tri.ifS_t, Tri.ifS_f, Tri.r_ife, Tri.r_whl, Tri.r_for, Tri.v_non, Tri.v_bl, Tri.v_int, Tri.v_str, Tri.slot_some, Tri.v_var, Tri.v_con, Tri.v_bin, Tri.negQ_int, Tri.v_neg, Tri.v_not, Tri.andR_t, Tri.andR_f, Tri.orR_t, Tri.orR_f, Tri.v_and, Tri.v_or, Tri.ifR_t, Tri.ifR_f, Tri.v_ife, Tri.v_cmp, Tri.v_cmp2, Tri.cmpE_int, Tri.cmp3_f, Tri.cmp3_t, Tri.cmpI, Tri.v_isN, Tri.v_notN, Tri.v_isi, Tri.v_tup, Tri.v_lst, Tri.v_ix, Tri.v_sl, Tri.callR_some, Tri.v_call, Tri.v_callK, Tri.v_lrg1, Tri.v_lrg2, Tri.v_b1, Tri.v_b2, Tri.v_m0, Tri.m1R_ref, Tri.v_m1, Tri.v_lc, Tri.a_app, Tri.a_ext, Tri.a_pop, Tri.s_nil, Tri.s_cons, Tri.o_no, Tri.intO_int, Tri.o_so, Tri.c_no, Tri.c_so, Tri.i_seq, Tri.i_rg1, Tri.i_rg2, Tri.i_en, Tri.i_zip, Tri.src_tmp, Tri.src_tup, Tri.srcO_some, Tri.src_ref, Tri.src_f, Tri.rg1_ok, Tri.rg1_int, Tri.rg2_ok, Tri.en_tmp, Tri.zip_tup, Tri.tupQ_ok, Tri.lstQ_ok, Tri.bn_add, Tri.bn_addr, Tri.catO_some, Tri.bn_addt, Tri.bn_sub, Tri.bn_mod, Tri.bn_div, Tri.bn_mulr, Tri.bn_mull, Tri.ofB_some, Tri.cm_lt, Tri.cm_le, Tri.cm_gt, Tri.cm_ge, Tri.cm_eq, Tri.cm_ne, Tri.cm_eqb, Tri.cm_neb, Tri.ixO_some, Tri.ix_t, Tri.ix_m, Tri.ixR_some, Tri.ix_r, Tri.lstO_some, Tri.len_t, Tri.len_m, Tri.len_f, Tri.len_r, Tri.int_i, Tri.int_b, Tri.tup_t, Tri.tup_m, Tri.tup_r, Tri.lst_t, Tri.sorted_tu, Tri.lst_m, Tri.lst_r, Tri.min_i, Tri.max_i, Tri.appO_some, Tri.app_r, Tri.extO_some, Tri.ext_m, Tri.ext_r, Tri.pop_r, Tri.popO_some, Tri.six_r, Tri.setO_some, Tri.asg_n, Tri.asg_t, Tri.sa_nil, Tri.sa_cons, Tri.aug_add, Tri.aug_sub, Tri.isA_all, Tri.fl_BadName_at_, Tri.fl_BadFields_at_, Tri.fl_BadFields_word, Tri.fl_BadLadder_at_, Tri.fl_BadLadder_word, Tri.fl_BadReading_at_, Tri.fl_BadReading_word, Tri.fl_BadSight_at_, Tri.fl_BadStep_word, Tri.fl_BadText_line, Tri.fl_BadText_word, Tri.fl_BadCommand_line, Tri.fl_NoSuch_word, Tri.fl_NoSuch_name, Tri.fl_Taken_name, Tri.raisS_ok, Tri.r_rais, Tri.r_try, Tri.try_nx, Tri.try_rt, Tri.try_ex, Tri.handR_t, Tri.handR_f, Tri.hands_nil, Tri.hands_cons, Tri.sok_none, Tri.sok_some, Tri.wipeO_none, Tri.wipeO_some, Tri.xend_nx, Tri.xend_v, Tri.xend_tmp, Tri.xs_nil, Tri.xs_cons, Tri.xseq_nx, Tri.xseq_rt, Tri.xretO_some, Tri.x_ret, Tri.x_pass, Tri.xif_t, Tri.xif_f, Tri.x_ife, Tri.t_isx, Tri.t_isxs, Tri.t_not, Tri.t_and, Tri.t_or, Tri.e_non, Tri.e_bl, Tri.e_int, Tri.e_str, Tri.xslot_some, Tri.e_var, Tri.e_fld, Tri.xifE_t, Tri.xifE_f, Tri.e_ife, Tri.xtup_some, Tri.xlst_some, Tri.e_tup, Tri.e_lst, Tri.es_nil, Tri.xcons_some, Tri.es_cons, Tri.v_dnew, Tri.v_disp, Tri.dispR_t, Tri.dispQ_ok, Tri.v_dget, Tri.v_din, Tri.r_dset, Tri.dR_t, Tri.dlkO_some, Tri.dget_d, Tri.din_d, Tri.dset_d, Tri.dsR_ok, Tri.keyOk_i, Tri.keyOk_s, Tri.keyOk_ii, Tri.keyOk_si, Tri.keyOk_is, Tri.keyOk_iii, Tri.i_zip3, Tri.en_tup, Tri.zip3_tup, Tri.v_rev, Tri.rev_m, Tri.rev_r, Tri.sl_t, Tri.sl_m, Tri.sl_f, Tri.sl_r, Tri.addO_some, Tri.bn_rm, Tri.bn_mm, Tri.asg_nst, Tri.ats_nil, Tri.ats_cons, Tri.isNon, Tri.isiR, Tri.isiQ, Tri.tyOf, Tri.at_mid, Tri.set_mid,
  List.map_cons, List.map_nil, List.cons_append, List.nil_append, List.append_assoc, List.length_append, Tri.at_off, Tri.set_off, List.length_cons, List.length_nil, List.length_map, List.replicate_succ, List.replicate_zero, List.getElem?_cons_zero, List.getElem?_cons_succ, List.set_cons_zero, List.set_cons_succ, Option.bind_some, Option.map_some, Nat.reduceAdd, Nat.reduceSub, Nat.zero_add, if_true, Bool.false_eq_true, if_false, ite_true, ite_false, decide_true, decide_false, Bool.not_true, Bool.not_false, Bool.or_true, Bool.or_false, Bool.false_or, Bool.and_false, Bool.false_and, Tri.ty_ne, Bool.true_or, Bool.and_true, Bool.true_and, Int.toNat_one, Int.toNat_zero, Int.reduceToNat, Int.reduceLT, Int.reduceLE, Nat.reduceLT, Int.toNat_natCast, Int.natCast_nonneg, beq_self_eq_true, *])
local macro_rules | `(tactic| walk_at "ew") => `(tactic| simp (config := {decide := true, implicitDefEqProofs := false}) only [Tri.fn_eq, Tri.fnO_nx, Tri.fnO_rt, Tri.fnO_ex, Tri.k_ok, Tri.k_ex, Tri.k_no, Tri.st_ok, Tri.st_ex, Tri.st_no, Tri.runs_cons, Tri.runs_nil, Tri.seq_nx, Tri.seq_rt, Tri.seq_bk, Tri.seq_ct, Tri.seq_ex, Tri.seq_no, Tri.seq_nil, Tri.tst_bl, Tri.evD_v, Tri.evD_tmp, Tri.evD_ex, Tri.okv_eq, Tri.noex_ok, Tri.r_expr, Tri.r_ret, Tri.r_retN, Tri.r_pass, Tri.r_brk, Tri.r_cont, Tri.r_set, Tri.nxo_some, Tri.r_asg, Tri.r_par, Tri.nxm_some, Tri.r_setIx, Tri.augR_some, Tri.r_aug, Tri.ifS_t, Tri.ifS_f, Tri.r_ife, Tri.r_whl, Tri.r_for, Tri.v_non, Tri.v_bl, Tri.v_int, Tri.v_str, Tri.slot_some, Tri.v_var, Tri.v_con, Tri.v_bin, Tri.negQ_int, Tri.v_neg, Tri.v_not, Tri.andR_t, Tri.andR_f, Tri.orR_t, Tri.orR_f, Tri.v_and, Tri.v_or, Tri.ifR_t, Tri.ifR_f, Tri.v_ife, Tri.v_cmp, Tri.v_cmp2, Tri.cmpE_int, Tri.cmp3_f, Tri.cmp3_t, Tri.cmpI, Tri.v_isN, Tri.v_notN, Tri.v_isi, Tri.v_tup, Tri.v_lst, Tri.v_ix, Tri.v_sl, Tri.callR_some, Tri.v_call, Tri.v_callK, Tri.v_lrg1, Tri.v_lrg2, Tri.v_b1, Tri.v_b2, Tri.v_m0, Tri.m1R_ref, Tri.v_m1, Tri.v_lc, Tri.a_app, Tri.a_ext, Tri.a_pop, Tri.s_nil, Tri.s_cons, Tri.o_no, Tri.intO_int, Tri.o_so, Tri.c_no, Tri.c_so, Tri.i_seq, Tri.i_rg1, Tri.i_rg2, Tri.i_en, Tri.i_zip, Tri.src_tmp, Tri.src_tup, Tri.srcO_some, Tri.src_ref, Tri.src_f, Tri.rg1_ok, Tri.rg1_int, Tri.rg2_ok, Tri.en_tmp, Tri.zip_tup, Tri.tupQ_ok, Tri.lstQ_ok, Tri.bn_add, Tri.bn_addr, Tri.catO_some, Tri.bn_addt, Tri.bn_sub, Tri.bn_mod, Tri.bn_div, Tri.bn_mulr, Tri.bn_mull, Tri.ofB_some, Tri.cm_lt, Tri.cm_le, Tri.cm_gt, Tri.cm_ge, Tri.cm_eq, Tri.cm_ne, Tri.cm_eqb, Tri.cm_neb, Tri.ixO_some, Tri.ix_t, Tri.ix_m, Tri.ixR_some, Tri.ix_r, Tri.lstO_some, Tri.len_t, Tri.len_m, Tri.len_f, Tri.len_r, Tri.int_i, Tri.int_b, Tri.tup_t, Tri.tup_m, Tri.tup_r, Tri.lst_t, Tri.sorted_tu, Tri.lst_m, Tri.lst_r, Tri.min_i, Tri.max_i, Tri.appO_some, Tri.app_r, Tri.extO_some, Tri.ext_m, Tri.ext_r, Tri.pop_r, Tri.popO_some, Tri.six_r, Tri.setO_some, Tri.asg_n, Tri.asg_t, Tri.sa_nil, Tri.sa_cons, Tri.aug_add, Tri.aug_sub, Tri.isA_all, Tri.fl_BadName_at_, Tri.fl_BadFields_at_, Tri.fl_BadFields_word, Tri.fl_BadLadder_at_, Tri.fl_BadLadder_word, Tri.fl_BadReading_at_, Tri.fl_BadReading_word, Tri.fl_BadSight_at_, Tri.fl_BadStep_word, Tri.fl_BadText_line, Tri.fl_BadText_word, Tri.fl_BadCommand_line, Tri.fl_NoSuch_word, Tri.fl_NoSuch_name, Tri.fl_Taken_name, Tri.raisS_ok, Tri.r_rais, Tri.r_try, Tri.try_nx, Tri.try_rt, Tri.try_ex, Tri.handR_t, Tri.handR_f, Tri.hands_nil, Tri.hands_cons, Tri.sok_none, Tri.sok_some, Tri.wipeO_none, Tri.wipeO_some, Tri.xend_nx, Tri.xend_v, Tri.xend_tmp, Tri.xs_nil, Tri.xs_cons, Tri.xseq_nx, Tri.xseq_rt, Tri.xretO_some, Tri.x_ret, Tri.x_pass, Tri.xif_t, Tri.xif_f, Tri.x_ife, Tri.t_isx, Tri.t_isxs, Tri.t_not, Tri.t_and, Tri.t_or, Tri.e_non, Tri.e_bl, Tri.e_int, Tri.e_str, Tri.xslot_some, Tri.e_var, Tri.e_fld, Tri.xifE_t, Tri.xifE_f, Tri.e_ife, Tri.xtup_some, Tri.xlst_some, Tri.e_tup, Tri.e_lst, Tri.es_nil, Tri.xcons_some, Tri.es_cons, Tri.v_dnew, Tri.v_disp, Tri.dispR_t, Tri.dispQ_ok, Tri.v_dget, Tri.v_din, Tri.r_dset, Tri.dR_t, Tri.dlkO_some, Tri.dget_d, Tri.din_d, Tri.dset_d, Tri.dsR_ok, Tri.keyOk_i, Tri.keyOk_s, Tri.keyOk_ii, Tri.keyOk_si, Tri.keyOk_is, Tri.keyOk_iii, Tri.i_zip3, Tri.en_tup, Tri.zip3_tup, Tri.v_rev, Tri.rev_m, Tri.rev_r, Tri.sl_t, Tri.sl_m, Tri.sl_f, Tri.sl_r, Tri.addO_some, Tri.bn_rm, Tri.bn_mm, Tri.asg_nst, Tri.ats_nil, Tri.ats_cons, Tri.isNon, Tri.isiR, Tri.isiQ, Tri.tyOf, Tri.at_mid, Tri.set_mid,
  List.map_cons, List.map_nil, List.cons_append, List.nil_append, List.append_assoc, W_app, W_len, W_at, W_set, List.length_append, Tri.at_off, Tri.set_off, List.length_cons, List.length_nil, List.length_map, List.replicate_succ, List.replicate_zero, List.getElem?_cons_zero, List.getElem?_cons_succ, List.set_cons_zero, List.set_cons_succ, Option.bind_some, Option.map_some, Nat.reduceAdd, Nat.reduceSub, Nat.zero_add, if_true, Bool.false_eq_true, if_false, ite_true, ite_false, decide_true, decide_false, Bool.not_true, Bool.not_false, Bool.or_true, Bool.or_false, Bool.false_or, Bool.and_false, Bool.false_and, Tri.ty_ne, Bool.true_or, Bool.and_true, Bool.true_and, Int.toNat_one, Int.toNat_zero, Int.reduceToNat, Int.reduceLT, Int.reduceLE, Nat.reduceLT, Int.toNat_natCast, Int.natCast_nonneg, beq_self_eq_true, *])

theorem cut_last {xs : List D} : cut xs none (some (-1)) = xs.take (xs.length - 1) := by
  have h1 : sIx xs.length xs.length (some (-1)) = ((-1 : Int) + (xs.length : Int)).toNat := by rfl
  have h2 : sIx xs.length 0 none = 0 := rfl
  unfold cut
  rw [h1, h2, List.drop_zero]
  congr 1
  omega
theorem all_pr {ps : List Int} (h : ∀ p ∈ ps, 1 ≤ p ∧ p ≤ 20) : (ps.map D.int).all pr = true := by
  rw [List.all_eq_true]
  intro x hx
  obtain ⟨p, hp, rfl⟩ := List.mem_map.mp hx
  have := h p hp
  simp only [pr, Bool.and_eq_true, decide_eq_true_eq]
  exact this
theorem prices_lc {G : Gam} (hG : G[1]? = some g_l_draw) (fs : List F3) (hl : fs.length ≤ 12) (top : Int) (h1 : 1 ≤ top) (h2 : top ≤ 20) {a2 a3 a4 a6 a7 a8 a9 a10 a11 a12 scr : Option D} (s : Dice) (hs : s.gs.length ≤ 63) (L : Store) :
    ∃ (ps : List Int) (s' : Dice), lcQ G (.bin .Add (.int 1) (.call 1 (.cons (.var 1) (.cons (.var 5) .nil)))) (.name 7) .no [7] [scr, some (.ref 0), a2, a3, a4, some (.int top), a6, a7, a8, a9, a10, a11, a12] ⟨none, fs.map fD⟩ (W s L) = .ok (.tmp (ps.map .int)) (W s' L) ∧ s'.gs.length ≤ 63 ∧ ps.length = fs.length ∧ ∀ p ∈ ps, 1 ≤ p ∧ p ≤ 20 := by
  obtain ⟨ds, M', e, ts, s', rfl, rfl, h2', h, h'⟩ := lcQ_ens (G := G) (elt := .bin .Add (.int 1) (.call 1 (.cons (.var 1) (.cons (.var 5) .nil)))) (tg := .name 7) (own := [7]) (τ := [scr, some (.ref 0), a2, a3, a4, some (.int top), a6, a7, a8, a9, a10, a11, a12]) (xs := fs.map fD) (M := W s L) (fun j acc M => ∃ (ts : List Int) (s' : Dice), acc = ts.map .int ∧ M = W s' L ∧ s'.gs.length ≤ 63 ∧ ts.length = j ∧ ∀ p ∈ ts, 1 ≤ p ∧ p ≤ 20) (by rw [List.length_map]; unfold lim; omega) ⟨[], s, rfl, rfl, hs, rfl, fun p hp => by cases hp⟩ (by
    rintro j x acc M hx ⟨ts, s', rfl, rfl, hs', hl', ht⟩
    obtain ⟨r, s2, e2, k2, q⟩ := draw_nat s' L (m := top) hs' (by omega) (by omega)
    refine ⟨[scr, some (.ref 0), a2, a3, a4, some (.int top), a6, some x, a8, a9, a10, a11, a12], by rw [asg_n]; rfl, ?_⟩
    have e3 : (ts ++ [1 + (r : Int)]).length = j + 1 := by rw [List.length_append, hl']; rfl
    have e4 : ∀ p ∈ ts ++ [1 + (r : Int)], 1 ≤ p ∧ p ≤ 20 := fun p hp => by
      rcases List.mem_append.mp hp with h | h
      · exact ht p h
      · rw [List.mem_singleton.mp h]; omega
    clear hx hl hl' h1 h2 q
    walk_at "ew"
    exact ens_ok ⟨ts ++ [1 + (r : Int)], s2, by rw [List.map_append]; rfl, rfl, k2, e3, e4⟩)
  rw [List.length_map] at h
  exact ⟨ts, s', e, h2', h, h'⟩
theorem bents_lc {G : Gam} (hG : G[6]? = some g_l_bent) (ps : List Int) (h1 : 1 ≤ ps.length) (h2 : ps.length ≤ 12) {scr a2 a3 a4 a5 a7 a8 a9 a10 a11 a12 : Option D} (s : Dice) (hs : s.gs.length ≤ 63) (L : Store) :
    ∃ (ts : List D) (s' : Dice) (G' : Store), lcQ G (.call 6 (.cons (.var 1) (.cons (.var 6) .nil))) (.name 10) .no [10] [scr, some (.ref 0), a2, a3, a4, a5, some (.tup (ps.map .int)), a7, a8, a9, a10, a11, a12] ⟨none, rng 0 8⟩ (W s L) = .ok (.tmp ts) (W s' (L ++ G')) ∧ s'.gs.length ≤ 63 ∧ ts.length = 8 ∧ ts.all okT = true := by
  obtain ⟨ds, M', e, s', G', rfl, h2', h, h'⟩ := lcQ_ens (G := G) (elt := .call 6 (.cons (.var 1) (.cons (.var 6) .nil))) (tg := .name 10) (own := [10]) (τ := [scr, some (.ref 0), a2, a3, a4, a5, some (.tup (ps.map .int)), a7, a8, a9, a10, a11, a12]) (xs := rng 0 8) (M := W s L) (fun j acc M => ∃ (s' : Dice) (G' : Store), M = W s' (L ++ G') ∧ s'.gs.length ≤ 63 ∧ acc.length = j ∧ acc.all okT = true) (by rw [rng_len]; unfold lim; omega) ⟨s, [], by rw [List.append_nil], hs, rfl, rfl⟩ (by
    rintro j x acc M hx ⟨s', G', rfl, hs', hl', ht⟩
    obtain ⟨t, s2, G2, e2, k2, ok⟩ := bent_ok s' (L ++ G') hs' ps h1 h2
    refine ⟨[scr, some (.ref 0), a2, a3, a4, a5, some (.tup (ps.map .int)), a7, a8, a9, some x, a11, a12], by rw [asg_n]; rfl, ?_⟩
    have e3 : (acc ++ [t]).length = j + 1 := by rw [List.length_append, hl']; rfl
    have e4 : (acc ++ [t]).all okT = true := by rw [List.all_append, ht]; simp [ok]
    rw [List.append_assoc] at e2
    clear hx hl' h1 h2 ht ok
    walk_at "ew"
    exact ens_ok ⟨s2, G' ++ G2, rfl, k2, by rw [← e3, List.length_append]; rfl, e4⟩)
  exact ⟨ds, s', G', e, h2', by rw [h, rng_len]; rfl, h'⟩
def seenC (a b : Int) : List D := [.tup [.str "told", .int a], .tup [.str "raised", .int b]]
theorem ne_tr : D.str "told" ≠ D.str "raised" := by
  intro h
  injection h with h
  exact absurd h (by decide +kernel)
theorem lk1 (a b : Int) : dlook (.str "told") [.tup [.str "told", .int a], .tup [.str "raised", .int b]] = some (.int a) := dlook_same
theorem lk2 (a b : Int) : dlook (.str "raised") [.tup [.str "told", .int a], .tup [.str "raised", .int b]] = some (.int b) := by rw [dlook_ne ne_tr, dlook_same]
theorem pt1 (a b : Int) (v : D) : dput (.str "told") v [.tup [.str "told", .int a], .tup [.str "raised", .int b]] = [.tup [.str "told", v], .tup [.str "raised", .int b]] := by
  unfold dput
  rw [lk1]
  simp only [Option.isSome_some, if_true, dsubs, if_neg ne_tr.symm]
theorem pt2 (a b : Int) (v : D) : dput (.str "raised") v [.tup [.str "told", .int a], .tup [.str "raised", .int b]] = [.tup [.str "told", .int a], .tup [.str "raised", v]] := by
  unfold dput
  rw [lk2]
  simp only [Option.isSome_some, if_true, dsubs, if_neg ne_tr]
theorem fil : dfill [.inr "told", .inr "raised"] [.int 0, .int 0] [] = [.tup [.str "told", .int 0], .tup [.str "raised", .int 0]] := by
  have e1 : dput (.str "told") (.int 0) [] = [.tup [.str "told", .int 0]] := by
    unfold dput
    rw [dlook_nil]
    rfl
  have e2 : dput (.str "raised") (.int 0) [.tup [.str "told", .int 0]] = [.tup [.str "told", .int 0], .tup [.str "raised", .int 0]] := by
    unfold dput
    rw [dlook_ne ne_tr, dlook_nil]
    rfl
  show dfill [] [] (dput (keyD (.inr "raised")) (.int 0) (dput (keyD (.inr "told")) (.int 0) [])) = _
  show dfill [] [] (dput (.str "raised") (.int 0) (dput (.str "told") (.int 0) [])) = _
  rw [e1, e2]
  unfold dfill
  rfl

theorem due_plain (k : Ck) : plainD k.due = true := by
  cases k with
  | bad a =>
    show (PyData.strOk "raised" && (true && true)) = true
    decide +kernel
  | told a =>
    show (PyData.strOk "told" && (true && true)) = true
    decide +kernel
/-- what the law says of one thing -/
theorem look_ok {fs : List F3} (hf : fs.length ≤ 12) {t : D} (h : okT t = true) : ∃ f : Store → Store, (∀ M, g_l_due [.tup (fs.map fD), t] M = .ok (chkD fs.length t).due M) ∧ (∀ M, g_l_heard [.tup (fs.map fD), t] M = .ok (chkD fs.length t).due M) ∧ ∀ M, g_l_same [(chkD fs.length t).due, (chkD fs.length t).due] M = .ok (.bl true) (M ++ f M) := by
  have hl : (fs.map fD).length = fs.length := List.length_map ..
  have e1 := fun M => due_ok (fs := fs.map fD) (t := t) (by rw [hl]; exact hf) h M
  have e2 := fun M => heard_ok (fs := fs.map fD) (t := t) h M
  rw [hl] at e1 e2
  obtain ⟨f, hf⟩ := same_f (chkD fs.length t).due (due_plain _) (by cases chkD fs.length t <;> (simp only [Ck.due, szD, szDs]; decide))
  exact ⟨f, e1, e2, hf⟩
/-- the things of a lap, one by one -/
theorem things_ok {G0 G1 G2 G4 G5 G6 G8 G9 G10 G11 : List D → Store → R D} {fs : List F3} (hf : fs.length ≤ 12) (ts : List D) (hts : ts.all okT = true) {n0 : Int} (h0 : ts[0]?.map (chkD fs.length) = some (.told n0)) {i0 : Int} (h2 : ts[2]?.map (chkD fs.length) = some (.bad i0)) {scr a1 a3 a5 a6 a7 a8 a9 a10 a11 a12 : Option D} (s : Dice) (a b : Int) (ha : 0 ≤ a) (hb : 0 ≤ b) (L : Store) :
    (forQ [G0, G1, G2, g_l_same, G4, G5, G6, g_l_due, G8, G9, G10, G11, g_l_heard] (.name 9) [.set 11 (.call 7 (.cons (.var 4) (.cons (.var 9) .nil))), .dset (.var 2) (.ix (.var 11) (.int 0)) (.bin .Add (.dget (.var 2) (.ix (.var 11) (.int 0))) (.int 1)), .ife (.not (.call 3 (.cons (.call 12 (.cons (.var 4) (.cons (.var 9) .nil))) (.cons (.var 11) .nil)))) [.ret (.bl false)] []] ⟨none, ts⟩
      [scr, a1, some (.dct false 1), a3, some (.tup (fs.map fD)), a5, a6, a7, a8, a9, a10, a11, a12] (W s (.lst [.tup [.str "told", .int a], .tup [.str "raised", .int b]] :: L))).ens
      (fun τ M => ∃ a b a9 a11 L', 1 ≤ a ∧ 1 ≤ b ∧ τ = [scr, a1, some (.dct false 1), a3, some (.tup (fs.map fD)), a5, a6, a7, a8, a9, a10, a11, a12] ∧ M = W s (.lst [.tup [.str "told", .int a], .tup [.str "raised", .int b]] :: L')) fun _ _ => False := by
  refine forQ_ens (fun j τ M => ∃ a b a9 a11 L', 0 ≤ a ∧ 0 ≤ b ∧ (1 ≤ j → 1 ≤ a) ∧ (3 ≤ j → 1 ≤ b) ∧ τ = [scr, a1, some (.dct false 1), a3, some (.tup (fs.map fD)), a5, a6, a7, a8, a9, a10, a11, a12] ∧ M = W s (.lst [.tup [.str "told", .int a], .tup [.str "raised", .int b]] :: L')) ⟨a, b, _, _, L, ha, hb, by omega, by omega, rfl, rfl⟩ ?_ ?_
  · rintro j t τ M ht ⟨a, b, a9, a11, L', ha, hb, j1, j3, rfl, rfl⟩
    obtain ⟨f, e1, e2, e3⟩ := look_ok (fs := fs) hf (List.all_eq_true.mp hts t (List.mem_of_getElem? ht))
    have t0 : ∀ i, j = 0 → chkD fs.length t ≠ .bad i := fun i e z => by subst e; rw [ht] at h0; simp [z] at h0
    have t2 : ∀ i, j = 2 → chkD fs.length t ≠ .told i := fun i e z => by subst e; rw [ht] at h2; simp [z] at h2
    generalize chkD fs.length t = k at *
    have l2 : (2 : Nat) < lim := by unfold lim; omega
    have q1 := lk1
    have q2 := lk2
    have q3 := pt1
    have q4 := pt2
    refine ⟨_, asg_n, .inl ?_⟩
    cases k with
    | told n =>
      have hj : j ≠ 2 := fun e => t2 n e rfl
      replace e1 : ∀ M, g_l_due [.tup (fs.map fD), t] M = .ok (.tup [.str "told", .int n]) M := e1
      replace e2 : ∀ M, g_l_heard [.tup (fs.map fD), t] M = .ok (.tup [.str "told", .int n]) M := e2
      replace e3 : ∀ M, g_l_same [.tup [.str "told", .int n], .tup [.str "told", .int n]] M = .ok (.bl true) (M ++ f M) := e3
      have fin : ∀ L', ∃ a' b' a9' a11' L'', 0 ≤ a' ∧ 0 ≤ b' ∧ (1 ≤ j + 1 → 1 ≤ a') ∧ (3 ≤ j + 1 → 1 ≤ b') ∧ [scr, a1, some (.dct false 1), a3, some (.tup (fs.map fD)), a5, a6, a7, a8, some t, a10, some (.tup [.str "told", .int n]), a12] = [scr, a1, some (.dct false 1), a3, some (.tup (fs.map fD)), a5, a6, a7, a8, a9', a10, a11', a12] ∧ W s (.lst [.tup [.str "told", .int (a + 1)], .tup [.str "raised", .int b]] :: L') = W s (.lst [.tup [.str "told", .int a'], .tup [.str "raised", .int b']] :: L'') :=
        fun L' => ⟨a + 1, b, _, _, L', by omega, hb, fun _ => by omega, fun h => j3 (by omega), rfl, rfl⟩
      clear ht t0 t2 h0 h2 hts ha hb j1 j3 hj hf
      walk_at "ew"
      exact ens_nx (fin _)
    | bad n =>
      have hj : j ≠ 0 := fun e => t0 n e rfl
      replace e1 : ∀ M, g_l_due [.tup (fs.map fD), t] M = .ok (.tup [.str "raised", .int n]) M := e1
      replace e2 : ∀ M, g_l_heard [.tup (fs.map fD), t] M = .ok (.tup [.str "raised", .int n]) M := e2
      replace e3 : ∀ M, g_l_same [.tup [.str "raised", .int n], .tup [.str "raised", .int n]] M = .ok (.bl true) (M ++ f M) := e3
      have fin : ∀ L', ∃ a' b' a9' a11' L'', 0 ≤ a' ∧ 0 ≤ b' ∧ (1 ≤ j + 1 → 1 ≤ a') ∧ (3 ≤ j + 1 → 1 ≤ b') ∧ [scr, a1, some (.dct false 1), a3, some (.tup (fs.map fD)), a5, a6, a7, a8, some t, a10, some (.tup [.str "raised", .int n]), a12] = [scr, a1, some (.dct false 1), a3, some (.tup (fs.map fD)), a5, a6, a7, a8, a9', a10, a11', a12] ∧ W s (.lst [.tup [.str "told", .int a], .tup [.str "raised", .int (b + 1)]] :: L') = W s (.lst [.tup [.str "told", .int a'], .tup [.str "raised", .int b']] :: L'') :=
        fun L' => ⟨a, b + 1, _, _, L', ha, by omega, fun _ => j1 (by omega), fun _ => by omega, rfl, rfl⟩
      clear ht t0 t2 h0 h2 hts ha hb j1 j3 hj hf
      walk_at "ew"
      exact ens_nx (fin _)
  · rintro τ M ⟨a, b, a9, a11, L', ha, hb, j1, j3, rfl, rfl⟩
    have hl : 3 ≤ ts.length := by
      cases e : ts[2]? with
      | none => rw [e] at h2; cases h2
      | some x => have := (List.getElem?_eq_some_iff.mp e).1; omega
    exact ⟨a, b, a9, a11, L', j1 (by omega), j3 hl, rfl, rfl⟩

end Ltrueatonce_k29_prices_costs

set_option Elab.async false
set_option linter.all false
set_option maxRecDepth 100000
set_option maxHeartbeats 4000000
namespace Ltrueatonce_k29_prices_costs
open PySem PySem.Spec PyProof.Rows L2 RZ Tri
local macro_rules | `(tactic| walk_at "ev") => `(tactic| simp (config := {decide := true, implicitDefEqProofs := false}) only [Tri.fn_eq, Tri.fnO_nx, Tri.fnO_rt, Tri.fnO_ex, Tri.k_ok, Tri.k_ex, Tri.k_no, Tri.st_ok, Tri.st_ex, Tri.st_no, Tri.runs_cons, Tri.runs_nil, Tri.seq_nx, Tri.seq_rt, Tri.seq_bk, Tri.seq_ct, Tri.seq_ex, Tri.seq_no, Tri.seq_nil, Tri.tst_bl, Tri.evD_v, Tri.evD_tmp, Tri.evD_ex, Tri.okv_eq, Tri.noex_ok, Tri.r_expr, Tri.r_ret, Tri.r_retN, Tri.r_pass, Tri.r_brk, Tri.r_cont, Tri.r_set, Tri.nxo_some, Tri.r_asg, Tri.r_par, Tri.nxm_some, Tri.r_setIx, Tri.augR_some, Tri.r_aug, Tri.ifS_t, Tri.ifS_f, Tri.r_ife, Tri.r_whl, Tri.r_for, Tri.v_non, Tri.v_bl, Tri.v_int, Tri.v_str, Tri.slot_some, Tri.v_var, Tri.v_con, Tri.v_bin, Tri.negQ_int, Tri.v_neg, Tri.v_not, Tri.andR_t, Tri.andR_f, Tri.orR_t, Tri.orR_f, Tri.v_and, Tri.v_or, Tri.ifR_t, Tri.ifR_f, Tri.v_ife, Tri.v_cmp, Tri.v_cmp2, Tri.cmpE_int, Tri.cmp3_f, Tri.cmp3_t, Tri.cmpI, Tri.v_isN, Tri.v_notN, Tri.v_isi, Tri.v_tup, Tri.v_lst, Tri.v_ix, Tri.v_sl, Tri.callR_some, Tri.v_call, Tri.v_callK, Tri.v_lrg1, Tri.v_lrg2, Tri.v_b1, Tri.v_b2, Tri.v_m0, Tri.m1R_ref, Tri.v_m1, Tri.v_lc, Tri.a_app, Tri.a_ext, Tri.a_pop, Tri.s_nil, Tri.s_cons, Tri.o_no, Tri.intO_int, Tri.o_so, Tri.c_no, Tri.c_so, Tri.i_seq, Tri.i_rg1, Tri.i_rg2, Tri.i_en, Tri.i_zip, Tri.src_tmp, Tri.src_tup, Tri.srcO_some, Tri.src_ref, Tri.src_f, Tri.rg1_ok, Tri.rg1_int, Tri.rg2_ok, Tri.en_tmp, Tri.zip_tup, Tri.tupQ_ok, Tri.lstQ_ok, Tri.bn_add, Tri.bn_addr, Tri.catO_some, Tri.bn_addt, Tri.bn_sub, Tri.bn_mod, Tri.bn_div, Tri.bn_mulr, Tri.bn_mull, Tri.ofB_some, Tri.cm_lt, Tri.cm_le, Tri.cm_gt, Tri.cm_ge, Tri.cm_eq, Tri.cm_ne, Tri.cm_eqb, Tri.cm_neb, Tri.ixO_some, Tri.ix_t, Tri.ix_m, Tri.ixR_some, Tri.ix_r, Tri.lstO_some, Tri.len_t, Tri.len_m, Tri.len_f, Tri.len_r, Tri.int_i, Tri.int_b, Tri.tup_t, Tri.tup_m, Tri.tup_r, Tri.lst_t, Tri.sorted_tu, Tri.lst_m, Tri.lst_r, Tri.min_i, Tri.max_i, Tri.appO_some, Tri.app_r, Tri.extO_some, Tri.ext_m, Tri.ext_r, Tri.pop_r, Tri.popO_some, Tri.six_r, Tri.setO_some, Tri.asg_n, Tri.asg_t, Tri.sa_nil, Tri.sa_cons, Tri.aug_add, Tri.aug_sub, Tri.isA_all, Tri.fl_BadName_at_, Tri.fl_BadFields_at_, Tri.fl_BadFields_word, Tri.fl_BadLadder_at_, Tri.fl_BadLadder_word, Tri.fl_BadReading_at_, Tri.fl_BadReading_word, Tri.fl_BadSight_at_, Tri.fl_BadStep_word, Tri.fl_BadText_line, Tri.fl_BadText_word, Tri.fl_BadCommand_line, Tri.fl_NoSuch_word, Tri.fl_NoSuch_name, Tri.fl_Taken_name, Tri.raisS_ok, Tri.r_rais, Tri.r_try, Tri.try_nx, Tri.try_rt, Tri.try_ex, Tri.handR_t, Tri.handR_f, Tri.hands_nil, Tri.hands_cons, Tri.sok_none, Tri.sok_some, Tri.wipeO_none, Tri.wipeO_some, Tri.xend_nx, Tri.xend_v, Tri.xend_tmp, Tri.xs_nil, Tri.xs_cons, Tri.xseq_nx, Tri.xseq_rt, Tri.xretO_some, Tri.x_ret, Tri.x_pass, Tri.xif_t, Tri.xif_f, Tri.x_ife, Tri.t_isx, Tri.t_isxs, Tri.t_not, Tri.t_and, Tri.t_or, Tri.e_non, Tri.e_bl, Tri.e_int, Tri.e_str, Tri.xslot_some, Tri.e_var, Tri.e_fld, Tri.xifE_t, Tri.xifE_f, Tri.e_ife, Tri.xtup_some, Tri.xlst_some, Tri.e_tup, Tri.e_lst, Tri.es_nil, Tri.xcons_some, Tri.es_cons, Tri.v_dnew, Tri.v_disp, Tri.dispR_t, Tri.dispQ_ok, Tri.v_dget, Tri.v_din, Tri.r_dset, Tri.dR_t, Tri.dlkO_some, Tri.dget_d, Tri.din_d, Tri.dset_d, Tri.dsR_ok, Tri.keyOk_i, Tri.keyOk_s, Tri.keyOk_ii, Tri.keyOk_si, Tri.keyOk_is, Tri.keyOk_iii, Tri.i_zip3, Tri.en_tup, Tri.zip3_tup, Tri.v_rev, Tri.rev_m, Tri.rev_r, Tri.sl_t, Tri.sl_m, Tri.sl_f, Tri.sl_r, Tri.addO_some, Tri.bn_rm, Tri.bn_mm, Tri.asg_nst, Tri.ats_nil, Tri.ats_cons, Tri.isNon, Tri.isiR, Tri.isiQ, Tri.tyOf, Tri.at_mid, Tri.set_mid,
  List.map_cons, List.map_nil, List.cons_append, List.nil_append, List.append_assoc, List.length_append, Tri.at_off, Tri.set_off, List.length_cons, List.length_nil, List.length_map, List.replicate_succ, List.replicate_zero, List.getElem?_cons_zero, List.getElem?_cons_succ, List.set_cons_zero, List.set_cons_succ, Option.bind_some, Option.map_some, Nat.reduceAdd, Nat.reduceSub, Nat.zero_add, if_true, Bool.false_eq_true, if_false, ite_true, ite_false, decide_true, decide_false, Bool.not_true, Bool.not_false, Bool.or_true, Bool.or_false, Bool.false_or, Bool.and_false, Bool.false_and, Tri.ty_ne, Bool.true_or, Bool.and_true, Bool.true_and, Int.toNat_one, Int.toNat_zero, Int.reduceToNat, Int.reduceLT, Int.reduceLE, Nat.reduceLT, Int.toNat_natCast, Int.natCast_nonneg, beq_self_eq_true, *])
local macro_rules | `(tactic| walk_at "ew") => `(tactic| simp (config := {decide := true, implicitDefEqProofs := false}) only [Tri.fn_eq, Tri.fnO_nx, Tri.fnO_rt, Tri.fnO_ex, Tri.k_ok, Tri.k_ex, Tri.k_no, Tri.st_ok, Tri.st_ex, Tri.st_no, Tri.runs_cons, Tri.runs_nil, Tri.seq_nx, Tri.seq_rt, Tri.seq_bk, Tri.seq_ct, Tri.seq_ex, Tri.seq_no, Tri.seq_nil, Tri.tst_bl, Tri.evD_v, Tri.evD_tmp, Tri.evD_ex, Tri.okv_eq, Tri.noex_ok, Tri.r_expr, Tri.r_ret, Tri.r_retN, Tri.r_pass, Tri.r_brk, Tri.r_cont, Tri.r_set, Tri.nxo_some, Tri.r_asg, Tri.r_par, Tri.nxm_some, Tri.r_setIx, Tri.augR_some, Tri.r_aug, Tri.ifS_t, Tri.ifS_f, Tri.r_ife, Tri.r_whl, Tri.r_for, Tri.v_non, Tri.v_bl, Tri.v_int, Tri.v_str, Tri.slot_some, Tri.v_var, Tri.v_con, Tri.v_bin, Tri.negQ_int, Tri.v_neg, Tri.v_not, Tri.andR_t, Tri.andR_f, Tri.orR_t, Tri.orR_f, Tri.v_and, Tri.v_or, Tri.ifR_t, Tri.ifR_f, Tri.v_ife, Tri.v_cmp, Tri.v_cmp2, Tri.cmpE_int, Tri.cmp3_f, Tri.cmp3_t, Tri.cmpI, Tri.v_isN, Tri.v_notN, Tri.v_isi, Tri.v_tup, Tri.v_lst, Tri.v_ix, Tri.v_sl, Tri.callR_some, Tri.v_call, Tri.v_callK, Tri.v_lrg1, Tri.v_lrg2, Tri.v_b1, Tri.v_b2, Tri.v_m0, Tri.m1R_ref, Tri.v_m1, Tri.v_lc, Tri.a_app, Tri.a_ext, Tri.a_pop, Tri.s_nil, Tri.s_cons, Tri.o_no, Tri.intO_int, Tri.o_so, Tri.c_no, Tri.c_so, Tri.i_seq, Tri.i_rg1, Tri.i_rg2, Tri.i_en, Tri.i_zip, Tri.src_tmp, Tri.src_tup, Tri.srcO_some, Tri.src_ref, Tri.src_f, Tri.rg1_ok, Tri.rg1_int, Tri.rg2_ok, Tri.en_tmp, Tri.zip_tup, Tri.tupQ_ok, Tri.lstQ_ok, Tri.bn_add, Tri.bn_addr, Tri.catO_some, Tri.bn_addt, Tri.bn_sub, Tri.bn_mod, Tri.bn_div, Tri.bn_mulr, Tri.bn_mull, Tri.ofB_some, Tri.cm_lt, Tri.cm_le, Tri.cm_gt, Tri.cm_ge, Tri.cm_eq, Tri.cm_ne, Tri.cm_eqb, Tri.cm_neb, Tri.ixO_some, Tri.ix_t, Tri.ix_m, Tri.ixR_some, Tri.ix_r, Tri.lstO_some, Tri.len_t, Tri.len_m, Tri.len_f, Tri.len_r, Tri.int_i, Tri.int_b, Tri.tup_t, Tri.tup_m, Tri.tup_r, Tri.lst_t, Tri.sorted_tu, Tri.lst_m, Tri.lst_r, Tri.min_i, Tri.max_i, Tri.appO_some, Tri.app_r, Tri.extO_some, Tri.ext_m, Tri.ext_r, Tri.pop_r, Tri.popO_some, Tri.six_r, Tri.setO_some, Tri.asg_n, Tri.asg_t, Tri.sa_nil, Tri.sa_cons, Tri.aug_add, Tri.aug_sub, Tri.isA_all, Tri.fl_BadName_at_, Tri.fl_BadFields_at_, Tri.fl_BadFields_word, Tri.fl_BadLadder_at_, Tri.fl_BadLadder_word, Tri.fl_BadReading_at_, Tri.fl_BadReading_word, Tri.fl_BadSight_at_, Tri.fl_BadStep_word, Tri.fl_BadText_line, Tri.fl_BadText_word, Tri.fl_BadCommand_line, Tri.fl_NoSuch_word, Tri.fl_NoSuch_name, Tri.fl_Taken_name, Tri.raisS_ok, Tri.r_rais, Tri.r_try, Tri.try_nx, Tri.try_rt, Tri.try_ex, Tri.handR_t, Tri.handR_f, Tri.hands_nil, Tri.hands_cons, Tri.sok_none, Tri.sok_some, Tri.wipeO_none, Tri.wipeO_some, Tri.xend_nx, Tri.xend_v, Tri.xend_tmp, Tri.xs_nil, Tri.xs_cons, Tri.xseq_nx, Tri.xseq_rt, Tri.xretO_some, Tri.x_ret, Tri.x_pass, Tri.xif_t, Tri.xif_f, Tri.x_ife, Tri.t_isx, Tri.t_isxs, Tri.t_not, Tri.t_and, Tri.t_or, Tri.e_non, Tri.e_bl, Tri.e_int, Tri.e_str, Tri.xslot_some, Tri.e_var, Tri.e_fld, Tri.xifE_t, Tri.xifE_f, Tri.e_ife, Tri.xtup_some, Tri.xlst_some, Tri.e_tup, Tri.e_lst, Tri.es_nil, Tri.xcons_some, Tri.es_cons, Tri.v_dnew, Tri.v_disp, Tri.dispR_t, Tri.dispQ_ok, Tri.v_dget, Tri.v_din, Tri.r_dset, Tri.dR_t, Tri.dlkO_some, Tri.dget_d, Tri.din_d, Tri.dset_d, Tri.dsR_ok, Tri.keyOk_i, Tri.keyOk_s, Tri.keyOk_ii, Tri.keyOk_si, Tri.keyOk_is, Tri.keyOk_iii, Tri.i_zip3, Tri.en_tup, Tri.zip3_tup, Tri.v_rev, Tri.rev_m, Tri.rev_r, Tri.sl_t, Tri.sl_m, Tri.sl_f, Tri.sl_r, Tri.addO_some, Tri.bn_rm, Tri.bn_mm, Tri.asg_nst, Tri.ats_nil, Tri.ats_cons, Tri.isNon, Tri.isiR, Tri.isiQ, Tri.tyOf, Tri.at_mid, Tri.set_mid,
  List.map_cons, List.map_nil, List.cons_append, List.nil_append, List.append_assoc, W_app, W_len, W_at, W_set, List.length_append, Tri.at_off, Tri.set_off, List.length_cons, List.length_nil, List.length_map, List.replicate_succ, List.replicate_zero, List.getElem?_cons_zero, List.getElem?_cons_succ, List.set_cons_zero, List.set_cons_succ, Option.bind_some, Option.map_some, Nat.reduceAdd, Nat.reduceSub, Nat.zero_add, if_true, Bool.false_eq_true, if_false, ite_true, ite_false, decide_true, decide_false, Bool.not_true, Bool.not_false, Bool.or_true, Bool.or_false, Bool.false_or, Bool.and_false, Bool.false_and, Tri.ty_ne, Bool.true_or, Bool.and_true, Bool.true_and, Int.toNat_one, Int.toNat_zero, Int.reduceToNat, Int.reduceLT, Int.reduceLE, Nat.reduceLT, Int.toNat_natCast, Int.natCast_nonneg, beq_self_eq_true, *])

theorem chk_prices {ps : List Int} (h : ∀ p ∈ ps, 1 ≤ p ∧ p ≤ 20) : ∃ n, chkD ps.length (.tup (ps.map .int)) = .told n := by
  refine ⟨((ps.map D.int).map getI).sum, ?_⟩
  show (if (ps.map D.int).length = ps.length then _ else _) = _
  rw [if_pos (List.length_map ..), chkT_told (all_pr h)]
theorem chk_over {ps : List Int} (h : ∀ p ∈ ps, 1 ≤ p ∧ p ≤ 20) (h1 : 1 ≤ ps.length) : ∃ n, chkD ps.length (.tup ((ps.map D.int).take (ps.length - 1) ++ [.int 21])) = .bad n := by
  have hl : ((ps.map D.int).take (ps.length - 1)).length = ps.length - 1 := by rw [List.length_take, List.length_map]; omega
  refine ⟨((ps.length - 1 : Nat) : Int), ?_⟩
  show (if ((ps.map D.int).take (ps.length - 1) ++ [D.int 21]).length = ps.length then _ else _) = _
  rw [if_pos (by rw [List.length_append, hl, List.length_singleton]; omega)]
  refine chkT_bad (x := .int 21) ?_ ?_ rfl
  · rw [List.getElem?_append_right (by omega), hl, Nat.sub_self]; rfl
  · rw [List.take_append_of_le_length (by omega), List.take_of_length_le (by omega)]
    have := all_pr h
    rw [List.all_eq_true] at this ⊢
    exact fun x hx => this x (List.mem_of_mem_take hx)
theorem perm2 (a b : D) : permD [1, 0] [a, b] = [b, a] := rfl
theorem perm3 (a b c : D) : permD [2, 1, 0] [a, b, c] = [c, b, a] := rfl
theorem lap_ok (s : Dice) (hs : s.gs.length ≤ 63) (a b : Int) (ha : 0 ≤ a) (hb : 0 ≤ b) (L : Store) {scr a3 a4 a5 a6 a7 a8 a9 a10 a11 a12 : Option D} :
    (runs [g_l_pool, g_l_draw, g_l_fields, g_l_same, g_sheet_cost, g_l_costs, g_l_bent, g_l_due, g_tuple_of, g_is_integer, g_integer_within, g_check_prices, g_l_heard] [.set 4 (.call 2 (.cons (.var 1) (.cons (.ix (.tup (.cons (.int 1) (.cons (.int 2) (.cons (.bin .Add (.int 1) (.call 1 (.cons (.var 1) (.cons (.int 12) .nil)))) (.cons (.int 12) .nil))))) (.call 1 (.cons (.var 1) (.cons (.int 4) .nil)))) .nil))), .set 5 (.ix (.tup (.cons (.int 20) (.cons (.int 3) (.cons (.int 20) (.cons (.int 1) .nil))))) (.call 1 (.cons (.var 1) (.cons (.int 4) .nil)))), .set 6 (.b1 .tuple (.lc (.bin .Add (.int 1) (.call 1 (.cons (.var 1) (.cons (.var 5) .nil)))) (.name 7) (.seq (.var 4)) .no [7])), .ife (.not (.call 5 (.cons (.var 1) (.cons (.var 4) (.cons (.var 6) .nil))))) [.ret (.bl false)] [], .set 8 (.bin .Add (.sl (.var 6) .no (.so (.neg (.int 1)))) (.tup (.cons (.int 20) .nil))), .for_ (.name 9) (.seq (.bin .Add (.lst (.cons (.var 6) (.cons (.var 8) (.cons (.bin .Add (.sl (.var 6) .no (.so (.neg (.int 1)))) (.tup (.cons (.int 21) .nil))) .nil)))) (.lc (.call 6 (.cons (.var 1) (.cons (.var 6) .nil))) (.name 10) (.rg1 (.int 8)) .no [10]))) [.set 11 (.call 7 (.cons (.var 4) (.cons (.var 9) .nil))), .dset (.var 2) (.ix (.var 11) (.int 0)) (.bin .Add (.dget (.var 2) (.ix (.var 11) (.int 0))) (.int 1)), .ife (.not (.call 3 (.cons (.call 12 (.cons (.var 4) (.cons (.var 9) .nil))) (.cons (.var 11) .nil)))) [.ret (.bl false)] []]]
      [scr, some (.ref 0), some (.dct false 1), a3, a4, a5, a6, a7, a8, a9, a10, a11, a12] (W s (.lst [.tup [.str "told", .int a], .tup [.str "raised", .int b]] :: L))).ens
      (fun τ M => ∃ s' a b a4 a5 a6 a7 a8 a9 a10 a11 L', s'.gs.length ≤ 63 ∧ 1 ≤ a ∧ 1 ≤ b ∧ τ = [scr, some (.ref 0), some (.dct false 1), a3, a4, a5, a6, a7, a8, a9, a10, a11, a12] ∧ M = W s' (.lst [.tup [.str "told", .int a], .tup [.str "raised", .int b]] :: L')) fun _ _ => False := by
  obtain ⟨r1, s1, e1, k1, q1⟩ := draw_nat s (.lst [.tup [.str "told", .int a], .tup [.str "raised", .int b]] :: L) (m := 12) hs (by omega) (by omega)
  obtain ⟨r2, s2, e2, k2, q2⟩ := draw_nat s1 (.lst [.tup [.str "told", .int a], .tup [.str "raised", .int b]] :: L) (m := 4) k1 (by omega) (by omega)
  obtain ⟨_, _, _, i2, n, rfl, n1, n2⟩ := item_ok (xs := [.int 1, .int 2, .int (1 + (r1 : Int)), .int 12]) (r := r2) (by simp; omega) (fun d => ∃ n : Nat, d = .int n ∧ 1 ≤ n ∧ n ≤ 12) (by
    intro x hx
    simp only [List.mem_cons, List.not_mem_nil, or_false] at hx
    rcases hx with rfl | rfl | rfl | rfl
    · exact ⟨1, rfl, by omega, by omega⟩
    · exact ⟨2, rfl, by omega, by omega⟩
    · exact ⟨1 + r1, by congr 1 <;> omega, by omega, by omega⟩
    · exact ⟨12, rfl, by omega, by omega⟩)
  obtain ⟨fs, s3, F, e3, k3, fl, fk⟩ := fields_ok s2 (.lst [.tup [.str "told", .int a], .tup [.str "raised", .int b]] :: L) k2 n n2
  replace e3 : g_l_fields [.ref 0, .int n] (W s2 (.lst [.tup [.str "told", .int a], .tup [.str "raised", .int b]] :: L)) = .ok (.tup (fs.map fD)) (W s3 (.lst [.tup [.str "told", .int a], .tup [.str "raised", .int b]] :: (L ++ F))) := e3
  generalize L ++ F = L3 at e3
  obtain ⟨r4, s4, e4, k4, q4⟩ := draw_nat s3 (.lst [.tup [.str "told", .int a], .tup [.str "raised", .int b]] :: L3) (m := 4) k3 (by omega) (by omega)
  obtain ⟨_, _, _, i4, top, rfl, t1, t2⟩ := item_ok (xs := [.int 20, .int 3, .int 20, .int 1]) (r := r4) (by simp; omega) (fun d => ∃ n : Int, d = .int n ∧ 1 ≤ n ∧ n ≤ 20) (by
    intro x hx
    simp only [List.mem_cons, List.not_mem_nil, or_false] at hx
    rcases hx with rfl | rfl | rfl | rfl <;> exact ⟨_, rfl, by omega, by omega⟩)
  obtain ⟨ps, s5, e5, k5, pl, pk⟩ := prices_lc (G := [g_l_pool, g_l_draw, g_l_fields, g_l_same, g_sheet_cost, g_l_costs, g_l_bent, g_l_due, g_tuple_of, g_is_integer, g_integer_within, g_check_prices, g_l_heard]) rfl fs (by omega) top t1 t2 (scr := scr) (a2 := some (.dct false 1)) (a3 := a3) (a4 := some (.tup (fs.map fD))) (a6 := a6) (a7 := a7) (a8 := a8) (a9 := a9) (a10 := a10) (a11 := a11) (a12 := a12) s4 k4 (.lst [.tup [.str "told", .int a], .tup [.str "raised", .int b]] :: L3)
  obtain ⟨s6, F6, e6, k6⟩ := costs_ok s5 (.lst [.tup [.str "told", .int a], .tup [.str "raised", .int b]] :: L3) k5 fs ps (by omega) fk pk pl
  replace e6 : g_l_costs [.ref 0, .tup (fs.map fD), .tup (ps.map .int)] (W s5 (.lst [.tup [.str "told", .int a], .tup [.str "raised", .int b]] :: L3)) = .ok (.bl true) (W s6 (.lst [.tup [.str "told", .int a], .tup [.str "raised", .int b]] :: (L3 ++ F6))) := e6
  generalize L3 ++ F6 = L6 at e6
  obtain ⟨ct, hct⟩ : ∃ ct, ct = (ps.map D.int).take (ps.length - 1) := ⟨_, rfl⟩
  have sl : ∀ M, slQ (.v (.tup (ps.map .int))) none (some (-1)) M = .ok (.v (.tup ct)) M := fun M => by rw [sl_t, cut_last, List.length_map, hct]
  have cl : ct.length ≤ 12 := by rw [hct, List.length_take, List.length_map]; omega
  have ca : ct.all notF = true := by
    have := all_notF (ps := ps)
    rw [hct]
    rw [List.all_eq_true] at this ⊢
    exact fun x hx => this x (List.mem_of_mem_take hx)
  have m1 : ∀ M, binQ .Add (.v (.tup ct)) (.v (.tup [.int 20])) M = .ok (.v (.tup (ct ++ [.int 20]))) M := fun M => bn_addt (by rw [List.length_singleton]; unfold lim; omega)
  have m2 : ∀ M, binQ .Add (.v (.tup ct)) (.v (.tup [.int 21])) M = .ok (.v (.tup (ct ++ [.int 21]))) M := fun M => bn_addt (by rw [List.length_singleton]; unfold lim; omega)
  have o1 : okT (.tup (ps.map .int)) = true := all_notF
  have o2 : okT (.tup (ct ++ [.int 20])) = true := by
    show (ct ++ [D.int 20]).all notF = true
    rw [List.all_append, ca]; rfl
  have o3 : okT (.tup (ct ++ [.int 21])) = true := by
    show (ct ++ [D.int 21]).all notF = true
    rw [List.all_append, ca]; rfl
  obtain ⟨x1, c1⟩ := chk_prices pk
  obtain ⟨x2, c2⟩ := chk_over pk (by omega)
  rw [← hct] at c2
  rw [pl] at c1 c2
  obtain ⟨bs, s7, F7, e7, k7, bl, bk⟩ := bents_lc (G := [g_l_pool, g_l_draw, g_l_fields, g_l_same, g_sheet_cost, g_l_costs, g_l_bent, g_l_due, g_tuple_of, g_is_integer, g_integer_within, g_check_prices, g_l_heard]) rfl ps (by omega) (by omega) (scr := scr) (a2 := some (.dct false 1)) (a3 := a3) (a4 := some (.tup (fs.map fD))) (a5 := some (.int top)) (a7 := a7) (a8 := some (.tup (ct ++ [.int 20]))) (a9 := a9) (a10 := a10) (a11 := a11) (a12 := a12) s6 k6 (.lst [.tup [.str "told", .int a], .tup [.str "raised", .int b]] :: L6)
  have m3 : ∀ M, binQ .Add (.tmp [.tup (ps.map .int), .tup (ct ++ [.int 20]), .tup (ct ++ [.int 21])]) (.tmp bs) M = .ok (.tmp ([.tup (ps.map .int), .tup (ct ++ [.int 20]), .tup (ct ++ [.int 21])] ++ bs)) M := fun M => bn_mm (by rw [bl]; show 3 + 8 ≤ lim; decide)
  have tk := things_ok (G0 := g_l_pool) (G1 := g_l_draw) (G2 := g_l_fields) (G4 := g_sheet_cost) (G5 := g_l_costs) (G6 := g_l_bent) (G8 := g_tuple_of) (G9 := g_is_integer) (G10 := g_integer_within) (G11 := g_check_prices) (fs := fs) (by omega) ([.tup (ps.map .int), .tup (ct ++ [.int 20]), .tup (ct ++ [.int 21])] ++ bs) (by rw [List.all_append, bk]; simp only [List.all_cons, List.all_nil, o1, o2, o3, Bool.and_self, Bool.and_true]) (n0 := x1) (by show some _ = _; rw [c1]) (i0 := x2) (by show some _ = _; rw [c2]) (scr := scr) (a1 := some (.ref 0)) (a3 := a3) (a5 := some (.int top)) (a6 := some (.tup (ps.map .int))) (a7 := a7) (a8 := some (.tup (ct ++ [.int 20]))) (a9 := a9) (a10 := a10) (a11 := a11) (a12 := a12) s7 a b ha hb (L6 ++ F7)
  have r8 : ∀ M, rg1Q (.v (.int 8)) M = .ok ⟨none, rng 0 8⟩ M := fun M => rg1_ok (by decide)
  generalize [.tup (ps.map D.int), .tup (ct ++ [D.int 20]), .tup (ct ++ [.int 21])] ++ bs = ts at m3 tk
  clear q1 q2 q4 n1 n2 fl fk t1 t2 pl pk hct cl ca o1 o2 o3 c1 c2 bl bk ha hb
  refine ens_step (by walk_at "ew"; rfl) ?_
  refine ens_step (by walk_at "ew"; rfl) ?_
  refine ens_step (by walk_at "ew"; rfl) ?_
  refine ens_step (by walk_at "ew"; rfl) ?_
  refine ens_step (by walk_at "ew"; rfl) ?_
  clear e1 e2 e3 e4 e5 e6
  walk_at "ew"
  refine tk.mono (fun τ M h => ?_) fun _ _ h => h
  obtain ⟨a, b, a9, a11, L', h1, h2, h3, h4⟩ := h
  exact ⟨s7, a, b, _, _, _, _, _, a9, _, a11, L', k7, h1, h2, h3, h4⟩
theorem law_ok : LawOk g_law := by
  intro ns h
  suffices h : (g_law [scriptD ns] []).ens fun d M' => d = .bl true by
    obtain ⟨d, M', e, rfl⟩ := h
    exact ⟨M', e⟩
  obtain ⟨s, hs, es⟩ := pool_ok ns h
  generalize scriptD ns = scr at *
  have df := fil
  have dk : dispOk [.inr "told", .inr "raised"] = true := by decide
  unfold g_law b_law
  apply ens_fn
  have r3 : ∀ M, rg1Q (.v (.int 3)) M = .ok ⟨none, rng 0 3⟩ M := fun M => rg1_ok (by decide)
  clear h
  walk_at "ew"
  apply ens_seq
  refine forQ_ens (fun j τ M => ∃ s a b a3 a4 a5 a6 a7 a8 a9 a10 a11 L, s.gs.length ≤ 63 ∧ 0 ≤ a ∧ 0 ≤ b ∧ (1 ≤ j → 1 ≤ a ∧ 1 ≤ b) ∧ τ = [some scr, some (.ref 0), some (.dct false 1), a3, a4, a5, a6, a7, a8, a9, a10, a11, none] ∧ M = W s (.lst [.tup [.str "told", .int a], .tup [.str "raised", .int b]] :: L)) ⟨s, 0, 0, _, _, _, _, _, _, _, _, _, [], hs, by omega, by omega, by omega, rfl, rfl⟩ ?_ ?_
  · rintro j x τ M hx ⟨s, a, b, a3, a4, a5, a6, a7, a8, a9, a10, a11, L, hs, ha, hb, _, rfl, rfl⟩
    refine ⟨_, asg_n, .inl ?_⟩
    refine (lap_ok s hs a b ha hb L).mono (fun τ M h => ?_) fun _ _ h => h.elim
    obtain ⟨s, a, b, a4, a5, a6, a7, a8, a9, a10, a11, L', h1, h2, h3, h4, h5⟩ := h
    exact ⟨s, a, b, _, _, _, _, _, _, _, _, _, L', h1, by omega, by omega, fun _ => ⟨h2, h3⟩, h4, h5⟩
  · rintro τ M ⟨s, a, b, a3, a4, a5, a6, a7, a8, a9, a10, a11, L, hs, ha, hb, hab, rfl, rfl⟩
    obtain ⟨h1, h2⟩ := hab (by rw [rng_len]; decide)
    have c1 : decide (0 < a) = true := decide_eq_true (by omega)
    have c2 : decide (0 < b) = true := decide_eq_true (by omega)
    have e1 := fun M => check_ok (fs := [.tup [.str "d1", .int 0, .int 3], .tup [.str "d2", .int 0, .int 3], .tup [.str "d3", .int (-1), .int 3]]) (t := .tup [.int 1, .int 2, .int 20]) rfl M
    replace e1 : ∀ M, g_check_prices [.tup [.tup [.str "d1", .int 0, .int 3], .tup [.str "d2", .int 0, .int 3], .tup [.str "d3", .int (-1), .int 3]], .tup [.int 1, .int 2, .int 20]] M = .ok (.int 23) M := fun M => (e1 M).trans rfl
    have e2 := fun M => sheet_ok (ps := [1, 2, 3]) (ts := [2, 1, -1]) (as := [1, 1, 3]) M (by decide) (by decide)
    replace e2 : ∀ M, g_sheet_cost [.tup [.int 1, .int 2, .int 3], .tup [.int 2, .int 1, .int (-1)], .tup [.int 1, .int 1, .int 3]] M = .ok (.int 13) M := fun M => (e2 M).trans rfl
    obtain ⟨f, e3⟩ := same_f (.tup [.int 23, .int 13]) rfl (by simp only [szD, szDs]; decide)
    have p2 := perm2
    have p3 := perm3
    have q1 := lk1
    have q2 := lk2
    clear es hab h1 h2 ha hb df dk r3
    walk_at "ew"
    exact ens_rt rfl

end Ltrueatonce_k29_prices_costs

set_option Elab.async false
set_option linter.all false
set_option maxRecDepth 100000
set_option maxHeartbeats 4000000
namespace Ltrueatonce_k29_prices_costs
open PySem PySem.Spec PyProof.Rows L2 RZ Tri
/-! ### the head, printed by tri.py -/
def dfs : List DefI := [d_l_pool, d_l_draw, d_l_fields, d_l_same, d_sheet_cost, d_l_costs, d_l_bent, d_l_due, d_tuple_of, d_is_integer, d_integer_within, d_check_prices, d_l_heard, d_law]
abbrev fnL : List He.DefD := dfs.map toD
abbrev faL : List He.Fa := factsOf dfs freeN consN
def looseN : List Str := (["RecordError", "DataError", "CallError", "TextError", "BadReading", "BadSight", "PRICE_MOST", "is_integer", "integer_within", "tuple_of", "check_prices", "sheet_cost", "_law_pool", "_law_draw", "_law_same", "_law_fields", "_law_due", "_law_heard", "_law_bent", "_law_costs"] : List Str)
abbrev Rw : PySem.W.OpenRow := PySem.W.OpenLaw.row PySem.Challenge.rw_trueatonce_k29_prices_costs
abbrev hkL : PySem.W.Hook := hookY 4 Rw.prog faL fnL iniN xallN
def obL (s : PySem.W.SharedT) : AlY := obGY 4 Rw.prog faL fnL iniN xallN (HandSHeadRun.getT s)
theorem obL_eq (s : PySem.W.SharedT) : obL s = hkL.obs s.abs := obGY_eq (HandSHeadRun.getT_eq s)
set_option maxHeartbeats 0 in
theorem runL (w : World) : HandSHeadRun.RunEq Rw (PySem.W.view Rw.prog [24]) hkL obL 2000 looseN w := by
  intro os
  kernel_rfl
end Ltrueatonce_k29_prices_costs

set_option Elab.async false
set_option linter.all false
set_option maxRecDepth 100000
set_option maxHeartbeats 4000000
namespace Ltrueatonce_k29_prices_costs
open PySem PySem.Spec PyProof.Rows L2 RZ Tri
end Ltrueatonce_k29_prices_costs
open PySem PySem.W PySem.Calls PyProof.Rows
set_option maxRecDepth 100000 in
set_option maxHeartbeats 0 in
theorem PySem.Challenge.cw_trueatonce_k29_prices_costs_holds : PySem.Challenge.rw_trueatonce_k29_prices_costs.Holds := by
  w_on; o_law
  refine HandSHeadRun.head_any (r := OpenLaw.row PySem.Challenge.rw_trueatonce_k29_prices_costs) (q := view (OpenLaw.row PySem.Challenge.rw_trueatonce_k29_prices_costs).prog [24]) (H := Ltrueatonce_k29_prices_costs.hkL) (ob := Ltrueatonce_k29_prices_costs.obL) (M := 2000) (loose := Ltrueatonce_k29_prices_costs.looseN) (d := HandSHeadRun.topDef (OpenLaw.row PySem.Challenge.rw_trueatonce_k29_prices_costs).prog 24) (kwd := []) Ltrueatonce_k29_prices_costs.obL_eq
    (by kernel_rfl) (fun s => by kernel_rfl) Ltrueatonce_k29_prices_costs.runL (by kernel_rfl) (by kernel_rfl) (by kernel_rfl) (by rfl) (by first | assumption | decide +kernel) (by decide +kernel) ⟨rfl, rfl, rfl, rfl, rfl, by decide +kernel⟩ ?hw ?hc
  case hw => w_witness2
  case hc =>
    refine Tri.walk_ofX (l := PySem.Challenge.rw_trueatonce_k29_prices_costs) (n := 63) (k := Ltrueatonce_k29_prices_costs.dfs.length + 1) (x := "script") rfl (by decide) (by kernel_rfl) ⟨rfl, by decide, by decide⟩ ?F
    intro w mg fa h Y G hmg0
    obtain ⟨K, KX, c⟩ := Y
    have hmg : mg ("law" : PySem.Str) = some (.ref fa) := by
      have e : (HandSHeadRun.topDef (OpenLaw.row PySem.Challenge.rw_trueatonce_k29_prices_costs).prog 24).name = ("law" : PySem.Str) := by kernel_rfl
      rw [← e]
      exact hmg0
    obtain ⟨fd, hb, hF⟩ := Tri.law_fn (P := PySem.Challenge.rw_trueatonce_k29_prices_costs.prog) (w := w) (xs := Ltrueatonce_k29_prices_costs.iniN) KX G Ltrueatonce_k29_prices_costs.t_law c Ltrueatonce_k29_prices_costs.inisN (n := 13) (d := Ltrueatonce_k29_prices_costs.d_law) (g := Ltrueatonce_k29_prices_costs.g_law) rfl rfl rfl (fun _ _ _ _ _ _ us hl => match us, hl with | [_], _ => rfl) hmg
    exact ⟨K, fd, _, KX, hb, fun H a ns hl hO hS => Tri.law_sp Ltrueatonce_k29_prices_costs.law_ok hl hO hS, hF⟩

