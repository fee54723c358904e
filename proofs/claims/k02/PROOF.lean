import PyProof.Rows.All
import Wide.All
import OpenK.AllK
import Wide.FinOn
import KE.KStateDown
import HandS.ForMost
import HandS.Flow
import HandS.Defaults
import HandS.IsInst
import HandS.Steps
import HandS.Zip
import HandS.MakeKwOnly
import HandS.Evl
import HandS.Codes
import HandS.Head0
import HandS.Head1
import HandS.Head2
import HandS.HeadEnd
import HandS.HeadHook1
import HandS.HeadHook2
import PySem.Challenge.RW_partjoins_k02_names_words_and_numbers
set_option Elab.async false
set_option linter.all false
set_option maxRecDepth 100000
set_option maxHeartbeats 4000000
/-! what is frozen, what is owned, what is the bag -/
namespace PX
open PySem PySem.Spec PyProof.Rows L2

/-- what F knows, H knows -/
abbrev Ex (F H : Hp) : Prop := Same F H
theorem Ex.rd {F H : Hp} (e : Ex F H) {a : Addr} {u : HO} (h : Rd F a u) : Rd H a u := by
  rcases h with h | ⟨o, h⟩
  · exact Or.inl (e a _ h)
  · exact Or.inr ⟨o, e a _ h⟩
theorem Ex.sqL {F H : Hp} (e : Ex F H) {K : PySem.W.Frag} {a : Addr} {xs : List V} (h : SqL K F a xs) : SqL K H a xs := e.seq h
theorem Ex.sqT {F H : Hp} (e : Ex F H) {K : PySem.W.Frag} {a : Addr} {xs : List V} (h : SqT K F a xs) : SqT K H a xs := by
  rcases h with h | h
  · exact Or.inl (Ex.rd e h)
  · exact Or.inr h
theorem Ex.new {H : Hp} {p : Addr} {o : HO} (h : H p = none) : Ex H (upd H p o) := fun a u e => by
  rw [upd_ne (ne_of_none e h)]
  exact e

/-- the bag of a law at a: its cells (its list is frozen, the bag itself is not) -/
def Bag (F H : Hp) (a : Addr) : Prop := F a = none ∧ ∃ (l : Addr) (ns : List Int) (i r s c : Int), H a = some (.lst [.ref l, .int i, .int r, .int s, .int c]) ∧ F l = some (.lst (ns.map V.int)) ∧ 0 ≤ i ∧ ns.length ≤ 63 ∧ 0 ≤ r ∧ 0 ≤ s ∧ s < 2147483549
def BagI (b : Option Addr) (F H : Hp) : Prop := ∀ a, b = some a → Bag F H a

/-- a step: F to F', H to H'; what H tracked stays (but for the bag), what is new in F' is new in H' -/
structure Ext (b : Option Addr) (F H F' H' : Hp) : Prop where
  ff : Ex F F'
  fh : Ex F' H'
  hh : ∀ a o, some a ≠ b → H a = some o → H' a = some o
  bb : ∀ a, some a = b → (H a).isSome = true → (H' a).isSome = true
  nw : ∀ a, F a = none → (H a).isSome = true → F' a = none
theorem Ext.refl {b : Option Addr} {F H : Hp} (e : Ex F H) : Ext b F H F H := ⟨fun _ _ h => h, e, fun _ _ _ h => h, fun _ _ h => h, fun _ h _ => h⟩
theorem Ext.some_ {b : Option Addr} {F H F' H' : Hp} (x : Ext b F H F' H') {a : Addr} (h : (H a).isSome = true) : (H' a).isSome = true := by
  by_cases e : some a = b
  · exact x.bb a e h
  · obtain ⟨o, ho⟩ := Option.isSome_iff_exists.mp h
    rw [x.hh a o e ho]; rfl
theorem Ext.trans {b : Option Addr} {F H F1 H1 F2 H2 : Hp} (x : Ext b F H F1 H1) (y : Ext b F1 H1 F2 H2) : Ext b F H F2 H2 :=
  ⟨x.ff.trans y.ff, y.fh, fun a o n h => y.hh a o n (x.hh a o n h), fun a e h => y.bb a e (x.bb a e h), fun a n h => y.nw a (x.nw a n h) (x.some_ h)⟩
/-- a pure step is a step whatever the bag -/
theorem Ext.any {b : Option Addr} {F H F' H' : Hp} (x : Ext none F H F' H') : Ext b F H F' H' :=
  ⟨x.ff, x.fh, fun a o _ h => x.hh a o (by simp) h, fun a _ h => by
    obtain ⟨o, ho⟩ := Option.isSome_iff_exists.mp h
    rw [x.hh a o (by simp) ho]; rfl, x.nw⟩
theorem Ext.same {F H F' H' : Hp} (x : Ext none F H F' H') : Same H H' := fun a o h => x.hh a o (by simp) h
/-- a new object, frozen at once -/
theorem Ext.lay {b : Option Addr} {F H : Hp} (e : Ex F H) {p : Addr} {o : HO} (hp : H p = none) : Ext b F H (upd F p o) (upd H p o) := by
  have fp : F p = none := Same.free e hp
  refine ⟨Ex.new fp, fun a u h => ?_, fun a u _ h => ?_, fun a _ h => ?_, fun a n h => ?_⟩
  · by_cases ha : a = p
    · rw [ha, upd_same] at h ⊢; exact h
    · rw [upd_ne ha] at h ⊢; exact e a u h
  · rw [upd_ne (ne_of_none h hp)]; exact h
  · by_cases ha : a = p
    · rw [ha, upd_same]; rfl
    · rw [upd_ne ha]; exact h
  · rw [upd_ne]
    · exact n
    · rintro rfl
      rw [hp] at h; cases h
/-- a new object, not frozen -/
theorem Ext.own {b : Option Addr} {F H : Hp} (e : Ex F H) {p : Addr} {o : HO} (hp : H p = none) : Ext b F H F (upd H p o) := by
  refine ⟨fun _ _ h => h, e.trans (Ex.new hp), fun a u _ h => (Ex.new hp) a u h, fun a _ h => ?_, fun a n h => n⟩
  obtain ⟨u, hu⟩ := Option.isSome_iff_exists.mp h
  rw [(Ex.new hp) a u hu]; rfl
theorem Bag.isSome {F H : Hp} {b : Addr} (h : Bag F H b) : (H b).isSome = true := by
  obtain ⟨_, l, ns, i, r, s, c, h1, _⟩ := h
  rw [h1]; rfl
theorem BagI.step {b : Option Addr} {F H F' H' : Hp} (B : BagI b F H) (x : Ext none F H F' H') : BagI b F' H' := fun a e => by
  have h := B a e
  have n := x.nw a h.1 h.isSome
  obtain ⟨_, l, ns, i, r, s, c, h1, h2, h3⟩ := h
  exact ⟨n, l, ns, i, r, s, c, x.same _ _ h1, x.ff _ _ h2, h3⟩
theorem bagI_none {F H : Hp} : BagI none F H := fun a e => by cases e

/-! ### what is owned -/
structure Own (b : Option Addr) (H0 F H : Hp) (l : Addr) (o : HO) : Prop where
  n0 : H0 l = none
  nF : F l = none
  nb : some l ≠ b
  at_ : H l = some o
section
variable {b : Option Addr} {F0 H0 F H F' H' : Hp} {l p : Addr} {o u : HO}
theorem Own.step (w : Own b H0 F H l o) (x : Ext b F H F' H') : Own b H0 F' H' l o :=
  ⟨w.n0, x.nw l w.nF (by rw [w.at_]; rfl), w.nb, x.hh l o w.nb w.at_⟩
/-- an address that H does not have is new since the entry -/
theorem Ext.back (X : Ext b F0 H0 F H) (hp : H p = none) : H0 p = none := by
  cases e : H0 p with
  | none => rfl
  | some v =>
    have := X.some_ (a := p) (by rw [e]; rfl)
    rw [hp] at this; cases this
theorem Own.new (X : Ext b F0 H0 F H) (B : BagI b F H) (hp : H p = none) : Own b H0 F (upd H p o) p o :=
  ⟨X.back hp, Same.free X.fh hp, fun e => (by
    have := (B p e.symm).isSome
    rw [hp] at this
    cases this), upd_same⟩
/-- an owned object changes: the step from the entry -/
theorem Own.ext (w : Own b H0 F H l o) (X : Ext b F0 H0 F H) : Ext b F0 H0 F (upd H l u) := by
  refine ⟨X.ff, fun a v h => ?_, fun a v n h => ?_, fun a e h => ?_, X.nw⟩
  · rw [upd_ne (ne_of_none h w.nF)]; exact X.fh a v h
  · rw [upd_ne (ne_of_none h w.n0)]; exact X.hh a v n h
  · have := X.bb a e h
    by_cases ha : a = l
    · rw [ha, upd_same]; rfl
    · rw [upd_ne ha]; exact this
theorem Own.fh (w : Own b H0 F H l o) (e : Ex F H) : Ex F (upd H l u) := fun a v h => by
  rw [upd_ne (ne_of_none h w.nF)]; exact e a v h
theorem Own.set (w : Own b H0 F H l o) : Own b H0 F (upd H l u) l u := ⟨w.n0, w.nF, w.nb, upd_same⟩
theorem Own.other (w : Own b H0 F H l o) (h : l ≠ p) : Own b H0 F (upd H p u) l o := ⟨w.n0, w.nF, w.nb, by rw [upd_ne h]; exact w.at_⟩
theorem Own.new_other (w : Own b H0 F H l o) (hp : H p = none) : Own b H0 F (upd H p u) l o := w.other (ne_of_none w.at_ hp)
theorem Own.bag (w : Own b H0 F H l o) (B : BagI b F H) : BagI b F (upd H l u) := fun a e => by
  obtain ⟨n, l', ns, i, r, s, c, h1, h2, h3⟩ := B a e
  have na : a ≠ l := fun z => w.nb (by rw [← z, e])
  exact ⟨n, l', ns, i, r, s, c, by rw [upd_ne na]; exact h1, h2, h3⟩
theorem BagI.lay (B : BagI b F H) (hp : H p = none) : BagI b F (upd H p o) := fun a e => by
  obtain ⟨n, l', ns, i, r, s, c, h1, h2⟩ := B a e
  exact ⟨n, l', ns, i, r, s, c, by rw [upd_ne (ne_of_none h1 hp)]; exact h1, h2⟩
theorem Own.bagF (w : Own b H0 F H l o) (B : BagI b F H) : BagI b (upd F l u) H := fun a e => by
  obtain ⟨n, l', ns, i, r, s, c, h1, h2, h3⟩ := B a e
  have na : a ≠ l := fun z => w.nb (by rw [← z, e])
  exact ⟨by rw [upd_ne na]; exact n, l', ns, i, r, s, c, h1, by rw [upd_ne (ne_of_none h2 w.nF)]; exact h2, h3⟩
/-- an owned object is frozen -/
theorem Own.freeze (w : Own b H0 F H l o) (X : Ext b F0 H0 F H) : Ext b F0 H0 (upd F l o) H := by
  refine ⟨X.ff.trans (Ex.new w.nF), fun a v h => ?_, X.hh, X.bb, fun a n h => ?_⟩
  · by_cases ha : a = l
    · rw [ha, upd_same] at h
      cases h
      rw [ha]; exact w.at_
    · rw [upd_ne ha] at h; exact X.fh a v h
  · rw [upd_ne]
    · exact X.nw a n h
    · rintro rfl
      rw [w.n0] at h; cases h
end

/-! ### values and what they stand for -/
abbrev Rp (α : Type) := α → V → Hp → Prop
class MonoR {α : Type} (R : Rp α) : Prop where
  up : ∀ {x : α} {v : V} {F F' : Hp}, Ex F F' → R x v F → R x v F'
theorem up {α : Type} {R : Rp α} [MonoR R] {x : α} {v : V} {F F' : Hp} (e : Ex F F') (h : R x v F) : R x v F' := MonoR.up e h
def qI : Rp Int := fun i v _ => v = .int i
def qB : Rp Bool := fun b v _ => v = .bl b
def qS : Rp Str := fun z v _ => v = .str z
def qN : Rp Unit := fun _ v _ => v = .non
instance : MonoR qI := ⟨fun _ h => h⟩
instance : MonoR qB := ⟨fun _ h => h⟩
instance : MonoR qS := ⟨fun _ h => h⟩
instance : MonoR qN := ⟨fun _ h => h⟩
/-- item by item -/
def AllR {α : Type} (R : Rp α) : List α → List V → Hp → Prop
  | [], [], _ => True
  | x :: xs, v :: vs, F => R x v F ∧ AllR R xs vs F
  | _, _, _ => False
section
variable {α β : Type} {R : Rp α} {S : Rp β} {F F' : Hp}
theorem AllR.length : ∀ {xs : List α} {vs : List V}, AllR R xs vs F → xs.length = vs.length
  | [], [], _ => rfl
  | _ :: _, _ :: _, h => congrArg Nat.succ (AllR.length h.2)
  | [], _ :: _, h => h.elim
  | _ :: _, [], h => h.elim
theorem AllR.up [MonoR R] (e : Ex F F') : ∀ {xs : List α} {vs : List V}, AllR R xs vs F → AllR R xs vs F'
  | [], [], _ => True.intro
  | _ :: _, _ :: _, h => ⟨MonoR.up e h.1, AllR.up e h.2⟩
  | [], _ :: _, h => h.elim
  | _ :: _, [], h => h.elim
theorem AllR.get : ∀ {xs : List α} {vs : List V} {i : Nat} {x : α}, AllR R xs vs F → xs[i]? = some x → ∃ v, vs[i]? = some v ∧ R x v F
  | _ :: _, _ :: _, 0, _, h, e => by
    simp at e; subst e
    exact ⟨_, rfl, h.1⟩
  | _ :: _, _ :: _, i + 1, x, h, e => by
    obtain ⟨v, h1, h2⟩ := AllR.get (i := i) (x := x) h.2 (by simpa using e)
    exact ⟨v, by simpa using h1, h2⟩
  | [], [], _, _, _, e => by simp at e
  | [], _ :: _, _, _, h, _ => h.elim
  | _ :: _, [], _, _, h, _ => h.elim
theorem AllR.back : ∀ {xs : List α} {vs : List V} {i : Nat} {v : V}, AllR R xs vs F → vs[i]? = some v → ∃ x, xs[i]? = some x ∧ R x v F
  | _ :: _, _ :: _, 0, _, h, e => by
    simp at e; subst e
    exact ⟨_, rfl, h.1⟩
  | _ :: _, _ :: _, i + 1, x, h, e => by
    obtain ⟨v, h1, h2⟩ := AllR.back (i := i) (v := x) h.2 (by simpa using e)
    exact ⟨v, by simpa using h1, h2⟩
  | [], [], _, _, _, e => by simp at e
  | [], _ :: _, _, _, h, _ => h.elim
  | _ :: _, [], _, _, h, _ => h.elim
theorem AllR.append : ∀ {xs ys : List α} {vs ws : List V}, AllR R xs vs F → AllR R ys ws F → AllR R (xs ++ ys) (vs ++ ws) F
  | [], _, [], _, _, h => h
  | _ :: _, _, _ :: _, _, h, k => ⟨h.1, AllR.append h.2 k⟩
  | [], _, _ :: _, _, h, _ => h.elim
  | _ :: _, _, [], _, h, _ => h.elim
theorem AllR.one {x : α} {v : V} (h : R x v F) : AllR R [x] [v] F := ⟨h, True.intro⟩
theorem AllR.take (n : Nat) : ∀ {xs : List α} {vs : List V}, AllR R xs vs F → AllR R (xs.take n) (vs.take n) F := by
  induction n with
  | zero => intro xs vs _; simp; exact True.intro
  | succ n ih =>
    intro xs vs h
    match xs, vs, h with
    | [], [], _ => exact True.intro
    | _ :: _, _ :: _, h => exact ⟨h.1, ih h.2⟩
theorem AllR.drop (n : Nat) : ∀ {xs : List α} {vs : List V}, AllR R xs vs F → AllR R (xs.drop n) (vs.drop n) F := by
  induction n with
  | zero => intro xs vs h; exact h
  | succ n ih =>
    intro xs vs h
    match xs, vs, h with
    | [], [], _ => exact True.intro
    | _ :: _, _ :: _, h => exact ih h.2
theorem AllR.int {F : Hp} : ∀ {xs : List Int} {vs : List V}, AllR qI xs vs F → vs = xs.map V.int
  | [], [], _ => rfl
  | x :: xs, v :: vs, h => by
    rw [List.map_cons, ← AllR.int h.2, show v = V.int x from h.1]
  | [], _ :: _, h => h.elim
  | _ :: _, [], h => h.elim
theorem AllR.str {F : Hp} : ∀ {xs : List Str} {vs : List V}, AllR qS xs vs F → vs = xs.map V.str
  | [], [], _ => rfl
  | x :: xs, v :: vs, h => by
    rw [List.map_cons, ← AllR.str h.2, show v = V.str x from h.1]
  | [], _ :: _, h => h.elim
  | _ :: _, [], h => h.elim
theorem AllR.bl {F : Hp} : ∀ {xs : List Bool} {vs : List V}, AllR qB xs vs F → vs = xs.map V.bl
  | [], [], _ => rfl
  | x :: xs, v :: vs, h => by
    rw [List.map_cons, ← AllR.bl h.2, show v = V.bl x from h.1]
  | [], _ :: _, h => h.elim
  | _ :: _, [], h => h.elim
theorem AllR.of_map {f : α → V} (h : ∀ x, R x (f x) F) : ∀ xs : List α, AllR R xs (xs.map f) F
  | [] => True.intro
  | x :: xs => ⟨h x, AllR.of_map h xs⟩
end
/-- a list that stands still -/
def qL {α : Type} (R : Rp α) : Rp (List α) := fun xs v F => ∃ a vs, v = .ref a ∧ F a = some (.lst vs) ∧ AllR R xs vs F
/-- a tuple of any length -/
def qTs {α : Type} (R : Rp α) : Rp (List α) := fun xs v F => ∃ a vs, v = .ref a ∧ F a = some (.tup vs) ∧ AllR R xs vs F
def qT2 {α β : Type} (R : Rp α) (S : Rp β) : Rp (α × β) := fun p v F => ∃ a u w, v = .ref a ∧ F a = some (.tup [u, w]) ∧ R p.1 u F ∧ S p.2 w F
def qT3 {α β γ : Type} (R : Rp α) (S : Rp β) (T : Rp γ) : Rp (α × β × γ) := fun p v F => ∃ a u w x, v = .ref a ∧ F a = some (.tup [u, w, x]) ∧ R p.1 u F ∧ S p.2.1 w F ∧ T p.2.2 x F
def qO {α : Type} (R : Rp α) : Rp (Option α) := fun o v F => match o with
  | none => v = .non
  | some x => R x v F
def qD (K : PySem.W.Frag) : Rp PyData := fun d v F => Dp K F v d
instance {α : Type} {R : Rp α} [MonoR R] : MonoR (qL R) := ⟨fun e ⟨a, vs, h1, h2, h3⟩ => ⟨a, vs, h1, e _ _ h2, h3.up e⟩⟩
instance {α : Type} {R : Rp α} [MonoR R] : MonoR (qTs R) := ⟨fun e ⟨a, vs, h1, h2, h3⟩ => ⟨a, vs, h1, e _ _ h2, h3.up e⟩⟩
instance {α β : Type} {R : Rp α} {S : Rp β} [MonoR R] [MonoR S] : MonoR (qT2 R S) := ⟨fun e ⟨a, u, w, h1, h2, h3, h4⟩ => ⟨a, u, w, h1, e _ _ h2, up e h3, up e h4⟩⟩
instance {α β γ : Type} {R : Rp α} {S : Rp β} {T : Rp γ} [MonoR R] [MonoR S] [MonoR T] : MonoR (qT3 R S T) := ⟨fun e ⟨a, u, w, x, h1, h2, h3, h4, h5⟩ => ⟨a, u, w, x, h1, e _ _ h2, up e h3, up e h4, up e h5⟩⟩
instance {α : Type} {R : Rp α} [MonoR R] : MonoR (qO R) := ⟨fun {x v F F'} e h => by
  cases x with
  | none => exact h
  | some x => exact MonoR.up (R := R) e h⟩
mutual
theorem dp_up {K : PySem.W.Frag} {F F' : Hp} (e : Ex F F') : ∀ {v : V} {d : PyData}, Dp K F v d → Dp K F' v d
  | _, _, .non => .non
  | _, _, .bl b => .bl b
  | _, _, .int i => .int i
  | _, _, .str x => .str x
  | _, _, .lst h k => .lst (e.sqL h) (dpAll_up e k)
  | _, _, .tup h k => .tup (e.sqT h) (dpAll_up e k)
theorem dpAll_up {K : PySem.W.Frag} {F F' : Hp} (e : Ex F F') : ∀ {vs : List V} {ds : List PyData}, DpAll K F vs ds → DpAll K F' vs ds
  | _, _, .nil => .nil
  | _, _, .cons h k => .cons (dp_up e h) (dpAll_up e k)
end
instance {K : PySem.W.Frag} : MonoR (qD K) := ⟨fun e h => dp_up e h⟩
/-- the plain data that a thing is -/
class Dat {α : Type} (K : PySem.W.Frag) (R : Rp α) (f : outParam (α → PyData)) : Prop where
  to : ∀ {x : α} {v : V} {F : Hp}, R x v F → Dp K F v (f x)
theorem dat {α : Type} {K : PySem.W.Frag} {R : Rp α} {f : α → PyData} [Dat K R f] {x : α} {v : V} {F : Hp} (h : R x v F) : Dp K F v (f x) := Dat.to h
instance {K : PySem.W.Frag} : Dat K qI PyData.int := ⟨fun h => by cases h; exact .int _⟩
instance {K : PySem.W.Frag} : Dat K qB PyData.bool := ⟨fun h => by cases h; exact .bl _⟩
instance {K : PySem.W.Frag} : Dat K qS PyData.str := ⟨fun h => by cases h; exact .str _⟩
instance {K : PySem.W.Frag} : Dat K qN (fun _ => PyData.none) := ⟨fun h => by cases h; exact .non⟩
instance {K : PySem.W.Frag} : Dat K (qD K) id := ⟨fun h => h⟩
theorem dpAll_of {α : Type} {K : PySem.W.Frag} {R : Rp α} {f : α → PyData} [Dat K R f] {F : Hp} : ∀ {xs : List α} {vs : List V}, AllR R xs vs F → DpAll K F vs (xs.map f)
  | [], [], _ => .nil
  | _ :: _, _ :: _, h => .cons (Dat.to h.1) (dpAll_of h.2)
  | [], _ :: _, h => h.elim
  | _ :: _, [], h => h.elim
instance {α : Type} {K : PySem.W.Frag} {R : Rp α} {f : α → PyData} [Dat K R f] : Dat K (qL R) (fun xs => .list (xs.map f)) := ⟨fun ⟨a, vs, h1, h2, h3⟩ => by
  subst h1
  exact .lst (SqL.of h2) (dpAll_of h3)⟩
instance {α : Type} {K : PySem.W.Frag} {R : Rp α} {f : α → PyData} [Dat K R f] : Dat K (qTs R) (fun xs => .tuple (xs.map f)) := ⟨fun ⟨a, vs, h1, h2, h3⟩ => by
  subst h1
  exact .tup (SqT.of h2) (dpAll_of h3)⟩
instance {α β : Type} {K : PySem.W.Frag} {R : Rp α} {S : Rp β} {f : α → PyData} {g : β → PyData} [Dat K R f] [Dat K S g] : Dat K (qT2 R S) (fun p => .tuple [f p.1, g p.2]) := ⟨fun ⟨a, u, w, h1, h2, h3, h4⟩ => by
  subst h1
  exact .tup (SqT.of h2) (.cons (Dat.to h3) (.cons (Dat.to h4) .nil))⟩
end PX

/-! the operators, whatever the kinds; walks; comprehensions; loops -/
namespace PX
open PySem PySem.Spec PyProof.Rows L2 RZ

section
variable {X : Cx}
/-! ### operators -/
abbrev rAddS : R2 := fun x y H Q => ∃ i j, x = .str i ∧ y = .str j ∧ i.length + j.length ≤ sizeLine ∧ Q (.str (i ++ j)) H
def rAdd (K : PySem.W.Frag) : R2 := fun x y H Q => rI0 (fun i j => .int (i + j)) x y H Q ∨ (rAddS x y H Q ∨ (rCat x y H Q ∨ rCatT K x y H Q))
theorem o_add (K : PySem.W.Frag) (hK : X.K = K := by rfl) : OpR X (binaryOp .Add) (rAdd K) := by subst hK; exact op_add.or (op_add_str.or (op_cat.or op_catT))
def rSub : R2 := rI0 fun i j => .int (i - j)
theorem o_sub : OpR X (binaryOp .Sub) rSub := op_sub
def rMul : R2 := fun x y H Q => rI CMul (fun i j => .int (i * j)) x y H Q ∨ rRep x y H Q
theorem o_mul : OpR X (binaryOp .Mult) rMul := op_mul.or op_rep
def rFdiv : R2 := rI CDivN fun i j => .int (i.fdiv j)
theorem o_fdiv : OpR X (binaryOp .FloorDiv) rFdiv := op_fdivN
def rMod : R2 := rI (fun _ j => j ≠ 0) fun i j => .int (i.fmod j)
theorem o_mod : OpR X (binaryOp .Mod) rMod := op_modN
def rPow : R2 := rI CPow fun i j => .int (i ^ j.toNat)
theorem o_pow : OpR X (binaryOp .Pow) rPow := op_pow
abbrev rLtS : R2 := fun x y H Q => ∃ i j, x = .str i ∧ y = .str j ∧ Q (.bl (decide (i.cps.toList < j.cps.toList))) H
def rLt : R2 := fun x y H Q => rI0 (fun i j => .bl (decide (i < j))) x y H Q ∨ rLtS x y H Q
theorem o_lt : OpR X (compareOp .Lt) rLt := op_lt.or op_lt_str
def rLe : R2 := rI0 fun i j => .bl (decide (i ≤ j))
theorem o_le : OpR X (compareOp .LtE) rLe := op_le
def rGt : R2 := rI0 fun i j => .bl (decide (j < i))
theorem o_gt : OpR X (compareOp .Gt) rGt := op_gt
def rGe : R2 := rI0 fun i j => .bl (decide (j ≤ i))
theorem o_ge : OpR X (compareOp .GtE) rGe := op_ge
def rEqq (K : PySem.W.Frag) : R2 := fun x y H Q => rEq x y H Q ∨ rEqD K x y H Q
theorem o_eq (K : PySem.W.Frag) (hu : X.A.units + 64 < cLine) (hK : X.K = K := by rfl) : OpR X (compareOp .Eq) (rEqq K) := by subst hK; exact op_eq.or (op_eqD hu)
def rNee (K : PySem.W.Frag) : R2 := fun x y H Q => rNe x y H Q ∨ rNeD K x y H Q
theorem o_ne (K : PySem.W.Frag) (hu : X.A.units + 64 < cLine) (hK : X.K = K := by rfl) : OpR X (compareOp .NotEq) (rNee K) := by subst hK; exact op_ne.or (op_neD hu)
def rInn (K : PySem.W.Frag) : R2 := fun x y H Q => rInS x y H Q ∨ rIn K false x y H Q
theorem o_in (K : PySem.W.Frag) (hK : X.K = K := by rfl) : OpR X (compareOp .In) (rInn K) := by subst hK; exact op_inS.or op_in_seq
def rNin (K : PySem.W.Frag) : R2 := fun x y H Q => rNotInS x y H Q ∨ rIn K true x y H Q
theorem o_nin (K : PySem.W.Frag) (hK : X.K = K := by rfl) : OpR X (compareOp .NotIn) (rNin K) := by subst hK; exact op_notInS.or op_notIn_seq
def rSl (K : PySem.W.Frag) : V → Option Int → Option Int → Hp → VK → Prop := fun x lo hi H Q => rSlL K x lo hi H Q ∨ rSlS x lo hi H Q
theorem SlR.or {r r' : V → Option Int → Option Int → Hp → VK → Prop} (h : SlR X r) (h' : SlR X r') : SlR X (fun x lo hi H Q => r x lo hi H Q ∨ r' x lo hi H Q) := by
  intro pins s σ H x v vl vu lo hi sl Q I rx hs pl pu q
  rcases q with q | q
  · exact h pins s σ H x v vl vu lo hi sl Q I rx hs pl pu q
  · exact h' pins s σ H x v vl vu lo hi sl Q I rx hs pl pu q
theorem o_slice (K : PySem.W.Frag) (hK : X.K = K := by rfl) : SlR X (rSl K) := by subst hK; exact SlR.or sl_list sl_str
theorem k_ix (K : PySem.W.Frag) (hK : X.K = K := by rfl) : IxR X (rIx K) := by subst hK; exact ix_seq
def rLen (K : PySem.W.Frag) : List V → Hp → VK → Prop := fun xs H Q => ∃ x n, xs = [x] ∧ LenV K x H n ∧ Q (.int n) H
theorem k_len (K : PySem.W.Frag) (hK : X.K = K := by rfl) : CallR X (.builtin "len") (rLen K) := by subst hK; exact call_len
theorem k_isi (K : PySem.W.Frag) (hK : X.K = K := by rfl) : CallR X (.builtin "isinstance") (rIsi K) := by subst hK; exact call_isi
theorem k_isiT (K : PySem.W.Frag) (hK : X.K = K := by rfl) : CallR X (.builtin "isinstance") (rIsiT K) := by subst hK; exact call_isiT
def rInt1 : List V → Hp → VK → Prop := fun xs H Q => (∃ i, xs = [.int i] ∧ Q (.int i) H) ∨ ∃ k, xs = [.bl k] ∧ Q (.int (if k then 1 else 0)) H
theorem k_int : CallR X (.type "int") rInt1 := call_int1
theorem k_all (K : PySem.W.Frag) (hc : X.calm = true) (hK : X.K = K := by rfl) : CallR X (.builtin "all") (rAll K) := by subst hK; exact cr_all hc
theorem k_any (K : PySem.W.Frag) (hc : X.calm = true) (hK : X.K = K := by rfl) : CallR X (.builtin "any") (rAny K) := by subst hK; exact cr_any hc
theorem k_sum (K : PySem.W.Frag) (hc : X.calm = true) (hK : X.K = K := by rfl) : CallR X (.builtin "sum") (rSum K) := by subst hK; exact cr_sum hc
theorem k_max (K : PySem.W.Frag) (hc : X.calm = true) (hK : X.K = K := by rfl) : CallR X (.builtin "max") (rMax K) := by subst hK; exact cr_max hc
theorem k_min (K : PySem.W.Frag) (hc : X.calm = true) (hK : X.K = K := by rfl) : CallR X (.builtin "min") (rMin K) := by subst hK; exact cr_min hc
def rToL (K : PySem.W.Frag) : List V → Hp → VK → Prop := fun xs H Q => ∃ p ys, xs = [.ref p] ∧ (SqL K H p ys ∨ SqT K H p ys) ∧ ∀ l, H l = none → Q (.ref l) (upd H l (.lst ys))
theorem k_list (K : PySem.W.Frag) (hK : X.K = K := by rfl) : CallR X (.type "list") (rToL K) := by subst hK; exact call_list_of
def rToT (K : PySem.W.Frag) : List V → Hp → VK → Prop := fun xs H Q => ∃ p ys, xs = [.ref p] ∧ ((SqL K H p ys ∧ ∀ l, H l = none → Q (.ref l) (upd H l (.tup ys))) ∨ (SqT K H p ys ∧ Q (.ref p) H))
theorem k_tuple (K : PySem.W.Frag) (hK : X.K = K := by rfl) : CallR X (.type "tuple") (rToT K) := by subst hK; exact call_tuple_of
def rJoin (K : PySem.W.Frag) : V → List V → Hp → VK → Prop := fun x xs H Q => ∃ a p, ∃ ys : List Str, x = .str a ∧ xs = [.ref p] ∧ (SqL K H p (ys.map V.str) ∨ SqT K H p (ys.map V.str)) ∧ (ys.map (·.length)).sum + ys.length * a.length ≤ 16777216 ∧ Q (.str (Txt.join a ys)) H
theorem k_join (K : PySem.W.Frag) (hK : X.K = K := by rfl) : MtR X "str.join" (rJoin K) := by subst hK; exact mt_join
theorem k_tup (K : PySem.W.Frag) {es : List Expr} {pos : Pos} {k : Nat} {t : TGs} {n : Nat} (hc : X.calm = true) (h : PGs X es t) (hK : X.K = K := by rfl)
    (hn : (assignEach es X.env).length = n := by rfl) (hst : (assignEach es X.env).findIdx? (·.1) = none := by rfl) : PG X (.Tuple es k pos) (gTup K n t) := by subst hK; exact pg_tup hc h hn hst
theorem k_join1 (K : PySem.W.Frag) {o e : Expr} {to te : TE} {apos pos : Pos} (ho : PE X o to) (he : PE X e te) (hK : X.K = K := by rfl) (hs : starEach [e] X.env = [(false, eval e X.env)] := by rfl) (hbase : attributeBase o "join" X.env (eval o X.env) = eval o X.env := by rfl) (hline : (apos.endLine == pos.line) = true := by rfl) :
    PE X (.Call (.Attribute o "join" apos) [e] [] pos) (tM1 (rJoin K) to te) := pe_m1 F.slot_str_join F.type_str_join (k_join K hK) ho he hs hbase hline
theorem k_truth (K : PySem.W.Frag) {a : Expr} {ta : TE} (ha : PE X a ta) (he : ∀ whole, isTrue a X.env whole = (do let v ← whole; standAt a.pos; holding [v] (truthy v))) (hK : X.K = K := by rfl) : PT X a (tTru K ta) := by subst hK; exact pt_truth ha he
theorem k_orT (K : PySem.W.Frag) {a b : Expr} {rest : List Expr} {ta tb : TE} {pos : Pos} (ha : PE X a ta) (hb : PE X (.BoolOp .Or (b :: rest) pos) tb) (hK : X.K = K := by rfl) : PE X (.BoolOp .Or (a :: b :: rest) pos) (tOrT K ta tb) := by subst hK; exact pe_orT ha hb
theorem k_andT (K : PySem.W.Frag) {a b : Expr} {rest : List Expr} {ta tb : TE} {pos : Pos} (ha : PE X a ta) (hb : PE X (.BoolOp .And (b :: rest) pos) tb) (hK : X.K = K := by rfl) : PE X (.BoolOp .And (a :: b :: rest) pos) (tAndT K ta tb) := by subst hK; exact pe_andT ha hb
theorem k_notT (K : PySem.W.Frag) {a : Expr} {ta : TE} {pos : Pos} (ha : PE X a ta) (hK : X.K = K := by rfl) : PE X (.UnaryOp .Not a pos) (tNotT K ta) := by subst hK; exact pe_notT ha
theorem k_fld (K : PySem.W.Frag) {e : Expr} {ta : TE} {f : Str} {pos : Pos} (he : PE X e ta) (hb : attributeBase e f X.env (eval e X.env) = eval e X.env := by rfl) (hK : X.K = K := by rfl) : PE X (.Attribute e f pos) (tFld K ta f) := by subst hK; exact pe_fld he hb
theorem i_enum (K : PySem.W.Frag) {e : Expr} {ta : TA} {p pos tpos : Pos} {elts : List Expr} {kk : Nat} (hg : Gl X "enumerate") (hm : X.mg "enumerate" = none) (ha : PA X [e] ta) (hK : X.K = K := by rfl) (hs : starEach [e] X.env = [(false, eval e X.env)] := by rfl) :
    PI X (.Tuple elts kk tpos) (.Call (.Name "enumerate" p) [e] [] pos) (iEnum K ta) := by subst hK; exact pi_enum hg hm ha hs
def iZipB (K : PySem.W.Frag) (ta : TA) : TI := fun σ H R => ta σ H fun vs H1 => ∃ a b xs ys, vs = [.ref a, .ref b] ∧ ((SqL K H1 a xs ∧ SqL K H1 b ys ∧ R (Itz K a b) H1) ∨ (SqT K H1 a xs ∧ SqT K H1 b ys ∧ R (ItzT K a b) H1))
theorem i_zip (K : PySem.W.Frag) {e e2 : Expr} {ta : TA} {p pos tpos : Pos} {elts : List Expr} {kk : Nat} (hg : Gl X "zip") (hm : X.mg "zip" = none) (ha : PA X [e, e2] ta) (hK : X.K = K := by rfl)
    (hs : starEach [e, e2] X.env = (false, eval e X.env) :: starEach [e2] X.env := by rfl) (hpl : (backTo pos (starEach [e2] X.env)).any (·.1) = false := by rfl) :
    PI X (.Tuple elts kk tpos) (.Call (.Name "zip" p) [e, e2] [] pos) (iZipB K ta) := by subst hK; exact pi_zipA hg hm ha hs hpl
end

section
variable {K : PySem.W.Frag} {H : Hp} {Q : VK} {x y : V}
theorem add_i {i j : Int} (q : Q (.int (i + j)) H) : rAdd K (.int i) (.int j) H Q := .inl ⟨i, j, rfl, rfl, q⟩
theorem add_s {i j : Str} (h : i.length + j.length ≤ sizeLine) (q : Q (.str (i ++ j)) H) : rAdd K (.str i) (.str j) H Q := .inr (.inl ⟨i, j, rfl, rfl, h, q⟩)
theorem sub_i {i j : Int} (q : Q (.int (i - j)) H) : rSub (.int i) (.int j) H Q := ⟨i, j, rfl, rfl, q⟩
theorem mul_r {i j : Int} (h1 : -(2 ^ 64) < j) (h2 : j < 2 ^ 64) (q : Q (.int (i * j)) H) : rMul (.int i) (.int j) H Q := .inl ⟨i, j, rfl, rfl, .inr ⟨h1, h2⟩, q⟩
theorem mul_l {i j : Int} (h1 : -(2 ^ 64) < i) (h2 : i < 2 ^ 64) (q : Q (.int (i * j)) H) : rMul (.int i) (.int j) H Q := .inl ⟨i, j, rfl, rfl, .inl ⟨h1, h2⟩, q⟩
theorem fdiv_i {i j : Int} (h1 : 0 < j) (h2 : j < 1073741824) (q : Q (.int (i / j)) H) : rFdiv (.int i) (.int j) H Q := ⟨i, j, rfl, rfl, ⟨by omega, by omega⟩, by
  show Q (.int (i.fdiv j)) H
  rw [Int.fdiv_eq_ediv_of_nonneg i (by omega)]
  exact q⟩
theorem mod_i {i j : Int} (h1 : 0 < j) (q : Q (.int (i % j)) H) : rMod (.int i) (.int j) H Q := ⟨i, j, rfl, rfl, by omega, by
  show Q (.int (i.fmod j)) H
  rw [Int.fmod_eq_emod_of_nonneg i (by omega)]
  exact q⟩
theorem pow_i {i : Int} {n : Nat} (h2 : n ≤ 1000000) (h3 : i.natAbs < 2 ^ 64) (q : Q (.int (i ^ n)) H) : rPow (.int i) (.int n) H Q := ⟨i, n, rfl, rfl, ⟨by omega, by omega, h3⟩, by
  show Q (.int (i ^ ((n : Int)).toNat)) H
  rw [Int.toNat_natCast]
  exact q⟩
theorem lt_i {i j : Int} (q : Q (.bl (decide (i < j))) H) : rLt (.int i) (.int j) H Q := .inl ⟨i, j, rfl, rfl, q⟩
theorem le_i {i j : Int} (q : Q (.bl (decide (i ≤ j))) H) : rLe (.int i) (.int j) H Q := ⟨i, j, rfl, rfl, q⟩
theorem gt_i {i j : Int} (q : Q (.bl (decide (j < i))) H) : rGt (.int i) (.int j) H Q := ⟨i, j, rfl, rfl, q⟩
theorem ge_i {i j : Int} (q : Q (.bl (decide (j ≤ i))) H) : rGe (.int i) (.int j) H Q := ⟨i, j, rfl, rfl, q⟩
theorem eq_v (h : scal x y = true) (q : Q (.bl (decide (x = y))) H) : rEqq K x y H Q := .inl ⟨h, q⟩
theorem ne_v (h : scal x y = true) (q : Q (.bl (!decide (x = y))) H) : rNee K x y H Q := .inl ⟨h, q⟩
theorem dvi {i j : Int} : decide (V.int i = V.int j) = decide (i = j) := by by_cases h : i = j <;> simp [h]
theorem dvs {i j : Str} : decide (V.str i = V.str j) = decide (i = j) := by by_cases h : i = j <;> simp [h]
theorem dvb {i j : Bool} : decide (V.bl i = V.bl j) = decide (i = j) := by by_cases h : i = j <;> simp [h]
theorem eq_i {i j : Int} (q : Q (.bl (decide (i = j))) H) : rEqq K (.int i) (.int j) H Q := eq_v rfl (by rw [dvi]; exact q)
theorem eq_s {i j : Str} (q : Q (.bl (decide (i = j))) H) : rEqq K (.str i) (.str j) H Q := eq_v rfl (by rw [dvs]; exact q)
theorem eq_b {i j : Bool} (q : Q (.bl (decide (i = j))) H) : rEqq K (.bl i) (.bl j) H Q := eq_v rfl (by rw [dvb]; exact q)
theorem ne_i {i j : Int} (q : Q (.bl (!decide (i = j))) H) : rNee K (.int i) (.int j) H Q := ne_v rfl (by rw [dvi]; exact q)
theorem ne_s {i j : Str} (q : Q (.bl (!decide (i = j))) H) : rNee K (.str i) (.str j) H Q := ne_v rfl (by rw [dvs]; exact q)
theorem ne_b {i j : Bool} (q : Q (.bl (!decide (i = j))) H) : rNee K (.bl i) (.bl j) H Q := ne_v rfl (by rw [dvb]; exact q)
theorem eq_d {d e : PyData} (hx : Dp K H x d) (hy : Dp K H y e) (sd : SeqAt.shaped d = true) (se : SeqAt.shaped e = true) (q : Q (.bl (PyData.eqv d e)) H) : rEqq K x y H Q := .inr ⟨d, e, hx, hy, sd, se, q⟩
theorem ne_d {d e : PyData} (hx : Dp K H x d) (hy : Dp K H y e) (sd : SeqAt.shaped d = true) (se : SeqAt.shaped e = true) (q : Q (.bl (!PyData.eqv d e)) H) : rNee K x y H Q := .inr ⟨d, e, hx, hy, sd, se, q⟩
theorem in_c {c : Nat} {z : Str} (q : Q (.bl (decide (c ∈ z.cps.toList))) H) : rInn K (.str ⟨#[c]⟩) (.str z) H Q := .inl ⟨c, z, rfl, rfl, q⟩
theorem nin_c {c : Nat} {z : Str} (q : Q (.bl (!decide (c ∈ z.cps.toList))) H) : rNin K (.str ⟨#[c]⟩) (.str z) H Q := .inl ⟨c, z, rfl, rfl, q⟩
theorem in_l {p : Addr} {xs : List V} (h : H p = some (.lst xs)) (hx : flatV x = true) (hs : xs.all flatV = true) (q : Q (.bl (inV x xs)) H) : rInn K x (.ref p) H Q := .inr ⟨p, xs, rfl, .inl (SqL.of h), hx, hs, q⟩
theorem nin_l {p : Addr} {xs : List V} (h : H p = some (.lst xs)) (hx : flatV x = true) (hs : xs.all flatV = true) (q : Q (.bl (!inV x xs)) H) : rNin K x (.ref p) H Q := .inr ⟨p, xs, rfl, .inl (SqL.of h), hx, hs, q⟩
theorem in_t {p : Addr} {xs : List V} (h : H p = some (.tup xs)) (hx : flatV x = true) (hs : xs.all flatV = true) (q : Q (.bl (inV x xs)) H) : rInn K x (.ref p) H Q := .inr ⟨p, xs, rfl, .inr (SqT.of h), hx, hs, q⟩
theorem nin_t {p : Addr} {xs : List V} (h : H p = some (.tup xs)) (hx : flatV x = true) (hs : xs.all flatV = true) (q : Q (.bl (!inV x xs)) H) : rNin K x (.ref p) H Q := .inr ⟨p, xs, rfl, .inr (SqT.of h), hx, hs, q⟩
/-- subscripts -/
theorem ix_l {p : Addr} {xs : List V} {j : Nat} {v : V} (h : H p = some (.lst xs)) (e : xs[j]? = some v) (q : Q v H) : rIx K (.ref p) (.int (j : Int)) H Q := .inl ⟨p, xs, j, v, rfl, rfl, SqL.of h, atI_nat e, q⟩
theorem ix_li {p : Addr} {xs : List V} {i : Int} {v : V} (h : H p = some (.lst xs)) (e : atI xs i = some v) (q : Q v H) : rIx K (.ref p) (.int i) H Q := .inl ⟨p, xs, i, v, rfl, rfl, SqL.of h, e, q⟩
theorem ix_t {p : Addr} {xs : List V} {j : Nat} {v : V} (h : H p = some (.tup xs)) (e : xs[j]? = some v) (q : Q v H) : rIx K (.ref p) (.int (j : Int)) H Q := .inr (.inl ⟨p, xs, j, v, rfl, rfl, SqT.of h, atI_nat e, q⟩)
theorem ix_ti {p : Addr} {xs : List V} {i : Int} {v : V} (h : H p = some (.tup xs)) (e : atI xs i = some v) (q : Q v H) : rIx K (.ref p) (.int i) H Q := .inr (.inl ⟨p, xs, i, v, rfl, rfl, SqT.of h, e, q⟩)
theorem ix_s {z : Str} {j c : Nat} (h : z.length ≤ sizeLine) (e : z.cps.toList[j]? = some c) (q : Q (.str ⟨#[c]⟩) H) : rIx K (.str z) (.int (j : Int)) H Q := .inr (.inr ⟨z, j, c, rfl, rfl, h, atI_nat e, q⟩)
theorem ix_si {z : Str} {i : Int} {c : Nat} (h : z.length ≤ sizeLine) (e : atI z.cps.toList i = some c) (q : Q (.str ⟨#[c]⟩) H) : rIx K (.str z) (.int i) H Q := .inr (.inr ⟨z, i, c, rfl, rfl, h, e, q⟩)
/-- slices -/
theorem sl_s {z : Str} {lo hi : Option Int} (h : z.length ≤ sizeLine) (q : Q (.str (cutS z lo hi)) H) : rSl K (.str z) lo hi H Q := .inr ⟨z, rfl, h, q⟩
end

/-! ### allocation, in CPS: the new object frozen -/
section
variable {b : Option Addr} {F H : Hp} {Q : VK} {xs : List V}
theorem lay_lst (hF : Ex F H) (B : BagI b F H) (hz : xs.length ≤ sizeLine) (q : ∀ p F' H', Ext b F H F' H' → BagI b F' H' → F' p = some (.lst xs) → Q (.ref p) H') : xs.length ≤ sizeLine ∧ ∀ p, H p = none → Q (.ref p) (upd H p (.lst xs)) :=
  ⟨hz, fun p hp => q p _ _ (Ext.lay hF hp) (B.step (Ext.lay hF hp)) upd_same⟩
theorem lay_tup (hF : Ex F H) (B : BagI b F H) (hz : xs.length ≤ sizeLine) (q : ∀ p F' H', Ext b F H F' H' → BagI b F' H' → F' p = some (.tup xs) → Q (.ref p) H') : xs.length ≤ sizeLine ∧ ∀ p, H p = none → Q (.ref p) (upd H p (.tup xs)) :=
  ⟨hz, fun p hp => q p _ _ (Ext.lay hF hp) (B.step (Ext.lay hF hp)) upd_same⟩
theorem small {n : Nat} (h : n ≤ 100000) : n ≤ sizeLine := Nat.le_trans h (by decide)
theorem sz {n : Nat} (h : Nat.ble n 100000 = true) : n ≤ sizeLine := small (Nat.le_of_ble_eq_true h)
theorem smallL {n : Nat} (h : n < 100000) : n < sizeLine := Nat.lt_of_lt_of_le h (by decide)
variable {K : PySem.W.Frag} {p : Addr}
theorem sl_l {lo hi : Option Int} (hF : Ex F H) (B : BagI b F H) (h : H p = some (.lst xs)) (q : ∀ p F' H', Ext b F H F' H' → BagI b F' H' → F' p = some (.lst (cutV xs lo hi)) → Q (.ref p) H') : rSl K (.ref p) lo hi H Q :=
  .inl ⟨p, xs, rfl, SqL.of h, fun p hp => q p _ _ (Ext.lay hF hp) (B.step (Ext.lay hF hp)) upd_same⟩
theorem sl_lq {lo hi : Option Int} (hF : Ex F H) (B : BagI b F H) (h : SqL K H p xs) (q : ∀ p F' H', Ext b F H F' H' → BagI b F' H' → F' p = some (.lst (cutV xs lo hi)) → Q (.ref p) H') : rSl K (.ref p) lo hi H Q :=
  .inl ⟨p, xs, rfl, h, fun p hp => q p _ _ (Ext.lay hF hp) (B.step (Ext.lay hF hp)) upd_same⟩
theorem add_l {l : Addr} {ys : List V} (hF : Ex F H) (B : BagI b F H) (h : H p = some (.lst xs)) (k : H l = some (.lst ys)) (hz : xs.length + ys.length ≤ sizeLine) (q : ∀ p F' H', Ext b F H F' H' → BagI b F' H' → F' p = some (.lst (xs ++ ys)) → Q (.ref p) H') : rAdd K (.ref p) (.ref l) H Q :=
  .inr (.inr (.inl ⟨p, l, xs, ys, rfl, rfl, h, k, hz, fun p hp => q p _ _ (Ext.lay hF hp) (B.step (Ext.lay hF hp)) upd_same⟩))
theorem rep_l {k : Nat} (hF : Ex F H) (B : BagI b F H) (h : H p = some (.lst xs)) (hk : k < 2 ^ 63) (hz : xs.length * k ≤ sizeLine) (q : ∀ p F' H', Ext b F H F' H' → BagI b F' H' → F' p = some (.lst (List.replicate k xs).flatten) → Q (.ref p) H') : rMul (.ref p) (.int (k : Int)) H Q :=
  .inr ⟨p, k, xs, rfl, rfl, h, by omega, by omega, by rw [Int.toNat_natCast]; exact hz, fun p hp => q p _ _ (Ext.lay hF hp) (B.step (Ext.lay hF hp)) (by rw [Int.toNat_natCast]; exact upd_same)⟩
theorem add_t {l : Addr} {ys : List V} (hF : Ex F H) (B : BagI b F H) (h : F p = some (.tup xs)) (k : F l = some (.tup ys)) (hx : xs ≠ []) (hz : xs.length + ys.length ≤ sizeLine) (q : ∀ p F' H', Ext b F H F' H' → BagI b F' H' → F' p = some (.tup (xs ++ ys)) → Q (.ref p) H') : rAdd K (.ref p) (.ref l) H Q :=
  .inr (.inr (.inr ⟨p, l, xs, ys, rfl, rfl, SqT.of (hF _ _ h), SqT.of (hF _ _ k), hx, hz, fun e => by
    subst e
    exact q p F H (Ext.refl hF) B (by rw [List.append_nil]; exact h), fun _ p hp => q p _ _ (Ext.lay hF hp) (B.step (Ext.lay hF hp)) upd_same⟩))
end
end PX

/-! comprehensions and loops over what stands still -/
namespace PX
open PySem PySem.Spec PyProof.Rows L2 RZ

/-- what is walked: n turns; as long as F is frozen it goes; the item of turn i at (F', H') behind its making is told by It -/
structure Wk (b : Option Addr) (F H : Hp) (J : It) (n : Nat) (It : Nat → V → Hp → Prop) : Prop where
  goes : ∀ i F1 H1, i < n → Ext b F H F1 H1 → J.go i H1
  stops : ∀ F1 H1, Ext b F H F1 H1 → J.stop n H1
  yields : ∀ i F1 H1 v H2, i < n → Ext b F H F1 H1 → J.yld i H1 v H2 → ∃ F2, Ext none F1 H1 F2 H2 ∧ It i v F2
section
variable {b : Option Addr} {F H : Hp} {K : PySem.W.Frag} {a c : Addr} {vs ws : List V}
theorem Wk.mono {J : It} {n : Nat} {It : Nat → V → Hp → Prop} {F' H' : Hp} (w : Wk b F H J n It) (x : Ext b F H F' H') : Wk b F' H' J n It :=
  ⟨fun i F1 H1 hi y => w.goes i F1 H1 hi (x.trans y), fun F1 H1 y => w.stops F1 H1 (x.trans y), fun i F1 H1 v H2 hi y => w.yields i F1 H1 v H2 hi (x.trans y)⟩
theorem wk_list (h : F a = some (.lst vs)) : Wk b F H (Itl K a) vs.length (fun i v _ => vs[i]? = some v) :=
  ⟨fun i F1 H1 hi x => ⟨vs, vs[i], SqL.of (x.fh _ _ (x.ff _ _ h)), by simp [hi]⟩, fun F1 H1 x => ⟨vs, SqL.of (x.fh _ _ (x.ff _ _ h)), Nat.le_refl _⟩,
    fun i F1 H1 v H2 hi x y => by
      obtain ⟨e, y⟩ := y
      subst e
      exact ⟨F1, Ext.refl x.fh, y vs (SqL.of (x.fh _ _ (x.ff _ _ h)))⟩⟩
theorem wk_tup (h : F a = some (.tup vs)) : Wk b F H (Itt K a) vs.length (fun i v _ => vs[i]? = some v) :=
  ⟨fun i F1 H1 hi x => ⟨vs, vs[i], SqT.of (x.fh _ _ (x.ff _ _ h)), by simp [hi]⟩, fun F1 H1 x => ⟨vs, SqT.of (x.fh _ _ (x.ff _ _ h)), Nat.le_refl _⟩,
    fun i F1 H1 v H2 hi x y => by
      obtain ⟨e, y⟩ := y
      subst e
      exact ⟨F1, Ext.refl x.fh, y vs (SqT.of (x.fh _ _ (x.ff _ _ h)))⟩⟩
theorem wk_range {lo : Int} {n : Nat} : Wk b F H (Itr lo n) n (fun i v _ => v = .int (lo + i)) :=
  ⟨fun i F1 H1 hi _ => hi, fun _ _ _ => Nat.le_refl _, fun i F1 H1 v H2 hi x y => by
    obtain ⟨e, y⟩ := y
    subst e
    exact ⟨F1, Ext.refl x.fh, y⟩⟩
theorem wk_str {z : Str} : Wk b F H (Its z) z.cps.toList.length (fun i v _ => ∃ c, z.cps.toList[i]? = some c ∧ v = .str ⟨#[c]⟩) :=
  ⟨fun i F1 H1 hi _ => by show i < z.cps.size; simpa using hi, fun _ _ _ => by show z.cps.size ≤ _; simp, fun i F1 H1 v H2 hi x y => by
    obtain ⟨e, c, y1, y2⟩ := y
    subst e
    exact ⟨F1, Ext.refl x.fh, c, by simpa using y1, y2⟩⟩
theorem wk_enum (h : F a = some (.lst vs)) : Wk b F H (Ite K a) vs.length (fun i v F2 => ∃ T x, v = .ref T ∧ F2 T = some (.tup [.int (i : Nat), x]) ∧ vs[i]? = some x) :=
  ⟨fun i F1 H1 hi x => ⟨vs, vs[i], SqL.of (x.fh _ _ (x.ff _ _ h)), by simp [hi]⟩, fun F1 H1 x => ⟨vs, SqL.of (x.fh _ _ (x.ff _ _ h)), Nat.le_refl _⟩,
    fun i F1 H1 v H2 hi x y => by
      obtain ⟨T, z, h1, h2, h3, h4⟩ := y
      subst h1 h3
      exact ⟨_, Ext.lay x.fh h2, T, z, rfl, upd_same, h4 vs (SqL.of (x.fh _ _ (x.ff _ _ h)))⟩⟩
theorem wk_zip {n : Nat} (h : SqL K F a vs) (k : SqL K F c ws) (hn : n = min vs.length ws.length) : Wk b F H (Itz K a c) n (fun i v F2 => ∃ T x y, v = .ref T ∧ F2 T = some (.tup [x, y]) ∧ vs[i]? = some x ∧ ws[i]? = some y) := by
  subst hn
  refine ⟨fun i F1 H1 hi x => ?_, fun F1 H1 x => ⟨vs, ws, Ex.sqL (x.ff.trans x.fh) h, Ex.sqL (x.ff.trans x.fh) k, by omega⟩, fun i F1 H1 v H2 hi x y => ?_⟩
  · have h1 : i < vs.length := by omega
    have h2 : i < ws.length := by omega
    exact ⟨vs, ws, vs[i], ws[i], Ex.sqL (x.ff.trans x.fh) h, Ex.sqL (x.ff.trans x.fh) k, by simp [h1], by simp [h2]⟩
  · obtain ⟨T, z, w, h1, h2, h3, h4, h5⟩ := y
    subst h1 h3
    exact ⟨_, Ext.lay x.fh h2, T, z, w, rfl, upd_same, h4 vs (Ex.sqL (x.ff.trans x.fh) h), h5 ws (Ex.sqL (x.ff.trans x.fh) k)⟩
theorem wk_zipT {n : Nat} (h : SqT K F a vs) (k : SqT K F c ws) (hn : n = min vs.length ws.length) : Wk b F H (ItzT K a c) n (fun i v F2 => ∃ T x y, v = .ref T ∧ F2 T = some (.tup [x, y]) ∧ vs[i]? = some x ∧ ws[i]? = some y) := by
  subst hn
  refine ⟨fun i F1 H1 hi x => ?_, fun F1 H1 x => ⟨vs, ws, Ex.sqT (x.ff.trans x.fh) h, Ex.sqT (x.ff.trans x.fh) k, by omega⟩, fun i F1 H1 v H2 hi x y => ?_⟩
  · have h1 : i < vs.length := by omega
    have h2 : i < ws.length := by omega
    exact ⟨vs, ws, vs[i], ws[i], Ex.sqT (x.ff.trans x.fh) h, Ex.sqT (x.ff.trans x.fh) k, by simp [h1], by simp [h2]⟩
  · obtain ⟨T, z, w, h1, h2, h3, h4, h5⟩ := y
    subst h1 h3
    exact ⟨_, Ext.lay x.fh h2, T, z, w, rfl, upd_same, h4 vs (Ex.sqT (x.ff.trans x.fh) h), h5 ws (Ex.sqT (x.ff.trans x.fh) k)⟩
end

/-! ### comprehensions -/
/-- what stands behind the colon of tLc, once the walk J is known -/
abbrev LcG (J : It) (g : TG) (tt : TT) (te : TE) (vs : List Nat) (σ : L2.St) (Q : VK) (H1 : Hp) : Prop := ∀ D, H1 D = none → ∃ W : Nat → Nat → Hp → Prop, (∃ m, W 0 m (upd H1 D (.lst []))) ∧ ∀ i m H, W i m H →
  (J.stop i H ∧ Q (.ref D) H) ∨ (J.go i H ∧ ∃ Nx : Hp → Prop, (∀ H', Nx H' → ∃ m', m' < m ∧ W (i + 1) m' H') ∧ ∀ x H', J.yld i H x H' → g x (wipe σ vs) H' fun σ2 H2 => wipe σ2 vs = wipe σ vs ∧ tt σ2 H2 fun b H3 =>
    if b = true then te σ2 H3 fun y H4 => ∃ acc, H4 D = some (.lst acc) ∧ acc.length < sizeLine ∧ Nx (upd H4 D (.lst (acc ++ [y]))) else Nx H3)
section
variable {b : Option Addr} {F H : Hp} {α β : Type} {R : Rp α} {S : Rp β}
/-- the general comprehension: the items xs (one a turn), the test c, the element f; Sy: what the new list's items are -/
theorem lc_walk [MonoR S] {J : It} {It : Nat → V → Hp → Prop} {g : TG} {tt : TT} {te : TE} {vs : List Nat} {σ : L2.St} {Q : VK} {xs : List α} (c : α → Bool) (f : α → β) (hF : Ex F H) (B : BagI b F H) (w : Wk b F H J xs.length It) (hz : xs.length < 100000)
    (body : ∀ i x v F1 H1, xs[i]? = some x → It i v F1 → Ext b F H F1 H1 → BagI b F1 H1 → ∀ Nx : Hp → Prop, ∀ Qy : VK,
      (c x = false → ∀ F2 H2, Ext b F1 H1 F2 H2 → BagI b F2 H2 → Nx H2) → (c x = true → ∀ u F2 H2, Ext b F1 H1 F2 H2 → BagI b F2 H2 → S (f x) u F2 → Qy u H2) →
      g v (wipe σ vs) H1 fun σ2 H2 => wipe σ2 vs = wipe σ vs ∧ tt σ2 H2 fun k H3 => if k = true then te σ2 H3 Qy else Nx H3)
    (cont : ∀ p F1 H1 us, Ext b F H F1 H1 → BagI b F1 H1 → F1 p = some (.lst us) → AllR S ((xs.filter c).map f) us F1 → Q (.ref p) H1) : LcG J g tt te vs σ Q H := by
  intro D hD
  let Pv : Nat → Hp → Prop := fun i Hi => ∃ Fi us, Ext b F H Fi Hi ∧ BagI b Fi Hi ∧ Own b H Fi Hi D (.lst us) ∧ AllR S (((xs.take i).filter c).map f) us Fi
  refine ⟨fun i m Hi => m = xs.length - i ∧ i ≤ xs.length ∧ Pv i Hi, ⟨xs.length, by omega, Nat.zero_le _, F, [], Ext.own hF hD, B.lay hD, Own.new (Ext.refl hF) B hD, by simp; exact True.intro⟩, ?_⟩
  rintro i m Hi ⟨rfl, hi, Fi, us, X, Bi, O, A⟩
  by_cases hlt : i < xs.length
  · have gx : xs[i]? = some xs[i] := List.getElem?_eq_getElem hlt
    have ul : us.length ≤ i := by
      rw [← A.length, List.length_map]
      exact Nat.le_trans (List.length_filter_le _ _) (by rw [List.length_take]; omega)
    refine .inr ⟨w.goes i Fi Hi hlt X, fun H' => Pv (i + 1) H', fun H' p => ⟨xs.length - (i + 1), by omega, rfl, hlt, p⟩, fun v H' y => ?_⟩
    obtain ⟨F1, x1, it⟩ := w.yields i Fi Hi v H' hlt X y
    have x1' : Ext b Fi Hi F1 H' := x1.any
    have O1 := O.step x1'
    refine body i _ v F1 H' gx it (X.trans x1') (Bi.step x1) _ _ (fun hc F2 H2 x2 B2 => ?_) (fun hc u F2 H2 x2 B2 hu => ?_)
    · have O2 := O1.step x2
      refine ⟨F2, us, (X.trans x1').trans x2, B2, O2, ?_⟩
      rw [List.take_add_one, gx, List.filter_append, show List.filter c (some xs[i]).toList = [] by simp [hc], List.append_nil]
      exact A.up (x1.ff.trans x2.ff)
    · have O2 := O1.step x2
      refine ⟨us, O2.at_, smallL (by omega), F2, us ++ [u], O2.ext ((X.trans x1').trans x2), O2.bag B2, O2.set, ?_⟩
      rw [List.take_add_one, gx, List.filter_append, show List.filter c (some xs[i]).toList = [xs[i]] by simp [hc], List.map_append]
      exact AllR.append (A.up (x1.ff.trans x2.ff)) (AllR.one hu)
  · have e : i = xs.length := by omega
    subst e
    rw [List.take_length] at A
    exact .inl ⟨w.stops Fi Hi X, cont D _ Hi us (O.freeze X) (O.bagF Bi) upd_same (A.up (Ex.new O.nF))⟩
/-- without a test; a map -/
theorem lc_map [MonoR S] {J : It} {It : Nat → V → Hp → Prop} {g : TG} {te : TE} {vs : List Nat} {σ : L2.St} {Q : VK} {xs : List α} (f : α → β) (hF : Ex F H) (B : BagI b F H) (w : Wk b F H J xs.length It) (hz : xs.length < 100000)
    (body : ∀ i x v F1 H1, xs[i]? = some x → It i v F1 → Ext b F H F1 H1 → BagI b F1 H1 → ∀ Qy : VK, (∀ u F2 H2, Ext b F1 H1 F2 H2 → BagI b F2 H2 → S (f x) u F2 → Qy u H2) →
      g v (wipe σ vs) H1 fun σ2 H2 => wipe σ2 vs = wipe σ vs ∧ te σ2 H2 Qy)
    (cont : ∀ p F1 H1 us, Ext b F H F1 H1 → BagI b F1 H1 → F1 p = some (.lst us) → AllR S (xs.map f) us F1 → Q (.ref p) H1) : LcG J g tYes te vs σ Q H :=
  lc_walk (fun _ => true) f hF B w hz (fun i x v F1 H1 hx it X1 B1 Nx Qy _ h2 => body i x v F1 H1 hx it X1 B1 Qy (h2 rfl)) fun p F1 H1 us X1 B1 h A => cont p F1 H1 us X1 B1 h (by
    have e : xs.filter (fun _ => true) = xs := List.filter_eq_self.mpr fun _ _ => rfl
    rw [e] at A
    exact A)
end

/-! ### for -/
abbrev ForG (J : It) (g : TG) (tb : TS) (D : Ends) (σ : L2.St) (H1 : Hp) : Prop := ∃ W : Nat → Nat → L2.St → Hp → Prop, (∃ m, W 0 m σ H1) ∧ ∀ i m σ H, W i m σ H →
  (J.stop i H ∧ D.nx σ H) ∨ (J.go i H ∧ ∃ N : L2.St → Hp → Prop, (∀ σ' H', N σ' H' → ∃ m', m' < m ∧ W (i + 1) m' σ' H') ∧ ∀ x H', J.yld i H x H' → g x σ H' fun σ2 H2 => tb { D with nx := N, ct := N, bk := D.nx } σ2 H2)
section
variable {b : Option Addr} {F H : Hp}
/-- W: the word of the loop: the turn, the slots, F, H -/
theorem for_walk {J : It} {It : Nat → V → Hp → Prop} {g : TG} {tb : TS} {nx bk ct : L2.St → Hp → Prop} {rt : VK} {σ : L2.St} {n : Nat} (W : Nat → L2.St → Hp → Hp → Prop) (w : Wk b F H J n It) (h0 : W 0 σ F H) (hX : ∀ i σ1 F1 H1, W i σ1 F1 H1 → Ext b F H F1 H1)
    (turn : ∀ i v σ1 F1 H1 F2 H2, i < n → W i σ1 F1 H1 → Ext none F1 H1 F2 H2 → It i v F2 → ∀ N : L2.St → Hp → Prop, (∀ σ2 F3 H3, W (i + 1) σ2 F3 H3 → N σ2 H3) → g v σ1 H2 fun σ2 H2 => tb ⟨N, rt, nx, N⟩ σ2 H2)
    (done : ∀ σ1 F1 H1, W n σ1 F1 H1 → nx σ1 H1) : ForG J g tb ⟨nx, rt, bk, ct⟩ σ H := by
  refine ⟨fun i m σ1 H1 => m = n - i ∧ i ≤ n ∧ ∃ F1, W i σ1 F1 H1, ⟨n, by omega, Nat.zero_le _, F, h0⟩, ?_⟩
  rintro i m σ1 H1 ⟨rfl, hi, F1, p⟩
  by_cases hlt : i < n
  · refine .inr ⟨w.goes i F1 H1 hlt (hX _ _ _ _ p), fun σ' H' => ∃ F', W (i + 1) σ' F' H', fun σ' H' ⟨F', q⟩ => ⟨n - (i + 1), by omega, rfl, hlt, F', q⟩, fun v H' y => ?_⟩
    obtain ⟨F2, x2, it⟩ := w.yields i F1 H1 v H' hlt (hX _ _ _ _ p) y
    exact turn i v σ1 F1 H1 F2 H' hlt p x2 it _ fun σ2 F3 H3 q => ⟨F3, q⟩
  · have e : i = n := by omega
    subst e
    exact .inl ⟨w.stops F1 H1 (hX _ _ _ _ p), done σ1 F1 H1 p⟩
end
end PX

/-! defs and their promises, calls -/
namespace PX
open PySem PySem.Spec PyProof.Rows L2

/-- the def x of the top, whose text is st, keeps the promise sp -/
structure Has (P : Program) (w : World) (K : PySem.W.Frag) (mg : Str → Option Value) (base : Heap) (x : Str) (st : Stmt) (k : Nat) (ps : List Str) (sp : Sp) : Prop where
  ex : ∃ f fd, FunD K x x (defArgs st) (defBody st) (defScope st) [] [] f fd ∧ mg x = some (.ref f) ∧ FnOk P w K mg base CX0 k f fd ps sp ∧ Binds K fd ps []
/-- a def as it stands behind the top -/
structure Stood (K : PySem.W.Frag) (mg : Str → Option Value) (x : Str) (st : Stmt) : Prop where
  ex : ∃ f fd, FunD K x x (defArgs st) (defBody st) (defScope st) [] [] f fd ∧ mg x = some (.ref f)
section
variable {P : Program} {w : World} {K : PySem.W.Frag} {mg : Str → Option Value} {base : Heap} {x : Str} {st : Stmt} {k j : Nat} {N ps : List Str} {sp : Sp}
theorem Has.mono (h : Has P w K mg base x st j ps sp) (hk : j ≤ k) : Has P w K mg base x st k ps sp := by
  obtain ⟨f, fd, F, g, G, b⟩ := h.ex
  exact ⟨f, fd, F, g, G.mono hk, b⟩
theorem funD_uniq {args : Arguments} {body : List Stmt} {sc : Scope} {f : Addr} {fd fd' : FuncData} (F : FunD K x x args body sc [] [] f fd) (F' : FunD K x x args body sc [] [] f fd') : fd = fd' := by
  obtain ⟨_, _, _, _, _, _, _, _, _, _, _, l1, _⟩ := F.ex
  obtain ⟨_, _, _, _, _, _, _, _, _, _, _, l2, _⟩ := F'.ex
  have e := l1.symm.trans l2
  simp only [Option.some.injEq, Obj.mk.injEq, Data.func.injEq] at e
  exact e.2.2.1
theorem Has.fnOk (h : Has P w K mg base x st k ps sp) {fd : FuncData} {f : Addr} (F : FunD K x x (defArgs st) (defBody st) (defScope st) [] [] f fd) (g : mg x = some (.ref f)) : FnOk P w K mg base CX0 k f fd ps sp := by
  obtain ⟨f', fd', F', g', G, _⟩ := h.ex
  have e := g.symm.trans g'
  cases e
  rw [funD_uniq F F']
  exact G
/-- THE RULE for a def of the top without defaults -/
theorem Stood.ok (S : Stood K mg x st) (sc : FnScope N ps (defScope st)) (len : ∀ vs H Q E, sp vs H Q E → vs.length = ps.length)
    (hb : ∀ (kV doc pm : Value) (an : Option Addr) (cdv ct : Value) (us : List Value), us.length = ps.length → bindArgs (PySem.W.fnOf x x (defArgs st) (defBody st) (defScope st) .none kV doc pm an cdv ct) ⟨us, []⟩ = pure (ps.zip us))
    (hbody : ∀ (f : Addr) (cdv : Value) (A : Around) (outer : List Env) (s : Shared) (H : Hp) (vs : List V) (Q : VK) (E : XK), Room k (A.deeper (envOfC x (defScope st) s.heap.objs.size f cdv)) → sp vs H Q E →
      ∃ t, PSs (cxOf CX0 P w K mg base N x (defScope st) f cdv A outer s H E).nox (defBody st) t ∧ t { nx := fun _ H' => Q .non H', rt := Q } (start N vs) H) : Has P w K mg base x st (k + 1) ps sp := by
  obtain ⟨f, fd, F, g⟩ := S.ex
  refine ⟨f, fd, F, g, F.ok sc len fun cdv A outer s H vs Q E hr hsp => ?_, F.bindsN hb⟩
  obtain ⟨t, h, q⟩ := hbody f cdv A outer s H vs Q E hr hsp
  exact ⟨t, h.nox, q⟩
end
section
variable {X : Cx} {k : Nat} {ps : List Str} {sp : Sp} {x : Str} {st : Stmt} {p pos : Pos} {e : Expr} {es : List Expr} {t tk : TA} {kws : List Keyword}
theorem pe_has (h : Has X.prog X.w X.K X.mg X.base x st k ps sp) (hr : Room k X.A) (hg : Gl X x) (ha : PA X (e :: es) t)
    (hdb : (x == ("__debug__" : Str)) = false := by decide) (he : starEach (e :: es) X.env = (false, eval e X.env) :: starEach es X.env := by rfl) (hpl : (backTo pos (starEach es X.env)).any (·.1) = false := by rfl) :
    PE X (.Call (.Name x p) (e :: es) [] pos) (tCall sp [] E0 t) := by
  obtain ⟨f, fd, F, g, G, b⟩ := h.ex
  exact pe_call G hr hg g F.kp b .nil pass0 ha hdb he hpl
theorem pe_has0 (h : Has X.prog X.w X.K X.mg X.base x st k ps sp) (hr : Room k X.A) (hg : Gl X x) (hdb : (x == ("__debug__" : Str)) = false := by decide) :
    PE X (.Call (.Name x p) [] [] pos) (tCall sp [] E0 tNil) := by
  obtain ⟨f, fd, F, g, G, b⟩ := h.ex
  exact pe_call0 G hr hg g F.kp b .nil pass0 hdb
/-- how n positional values and the keywords ks bind -/
def KB (x : Str) (st : Stmt) (ps : List Str) (n : Nat) (ks : List Str) (g : {α : Type} → List α → List α → List α) : Prop :=
  (∀ (kV doc pm : Value) (an : Option Addr) (cdv ct : Value) (us ws : List Value), us.length = n → ws.length = ks.length →
    bindArgs (PySem.W.fnOf x x (defArgs st) (defBody st) (defScope st) .none kV doc pm an cdv ct) ⟨us, ks.zip ws⟩ = pure (ps.zip (g us ws))) ∧
  ∀ {vs : List V} {us : List Value} {zs : List V} {ws : List Value}, Vals vs us → Vals zs ws → Vals (g vs zs) (g us ws)
theorem KB.bn {K : PySem.W.Frag} {fd : FuncData} {f : Addr} {n : Nat} {ks : List Str} {g : {α : Type} → List α → List α → List α} (b : KB x st ps n ks g) (F : FunD K x x (defArgs st) (defBody st) (defScope st) [] [] f fd) : KBn K fd ps n ks (fun us ws => g us ws) (fun vs zs => g vs zs) := by
  obtain ⟨oc, od, dV, kV, doc, pm, an, cdv, ct, osl, rfl, lk, hcd, hD, hK⟩ := F.ex
  rcases hD with ⟨_, rfl⟩ | ⟨e, _⟩
  · exact ⟨fun s us ws _ l1 l2 => .of_eq (b.1 kV doc pm an cdv ct us ws l1 l2), fun r1 r2 => b.2 r1 r2⟩
  · exact absurd rfl e
theorem pe_hasK0 {ks : List Str} {g : {α : Type} → List α → List α → List α} (h : Has X.prog X.w X.K X.mg X.base x st k ps sp) (hr : Room k X.A) (hg : Gl X x) (hkw : PK X kws tk) (kb : KB x st ps 0 ks g)
    (hall : (backToKw pos (keywordEach kws X.env)).all (·.1.isSome) = true := by rfl) (hks : (backToKw pos (keywordEach kws X.env)).filterMap (·.1) = ks := by rfl) (hdb : (x == ("__debug__" : Str)) = false := by decide)
    (hpl : ((backTo pos (starEach [] X.env)).any (·.1) || (backToKw pos (keywordEach kws X.env)).any (·.1.isNone)) = false := by rfl) :
    PE X (.Call (.Name x p) [] kws pos) (tCallN 0 ks.length sp (fun vs zs => g vs zs) E0 tNil tk) := by
  obtain ⟨f, fd, F, gm, G, b⟩ := h.ex
  refine ⟨fun pins s σ H Q I h => ?_⟩
  refine wpAny_Call_Name_kw (ld_glob I hg gm ?_ hdb)
  refine PySem.W.callWith_KW0 (h₀ := X.base) I.ok.mod.kin F.kp hall ?_ hpl
  refine thn (hkw.run pos pins s σ H _ I h) fun ws s2 ⟨zs, H2, I2, rz, l1, l2, q2⟩ => ⟨I2.kIn, ?_⟩
  rw [hks]
  exact run_fnN (us := []) (vs := []) G hr (kb.bn F) pass0 I2 .nil rz rfl l2 q2
theorem pe_hasK {n : Nat} {ks : List Str} {g : {α : Type} → List α → List α → List α} (h : Has X.prog X.w X.K X.mg X.base x st k ps sp) (hr : Room k X.A) (hg : Gl X x) (ha : PA X (e :: es) t) (hkw : PK X kws tk) (kb : KB x st ps n ks g)
    (hall : (backToKw pos (keywordEach kws X.env)).all (·.1.isSome) = true := by rfl) (hks : (backToKw pos (keywordEach kws X.env)).filterMap (·.1) = ks := by rfl)
    (hdb : (x == ("__debug__" : Str)) = false := by decide) (he : starEach (e :: es) X.env = (false, eval e X.env) :: starEach es X.env := by rfl)
    (hpl : ((backTo pos (starEach (e :: es) X.env)).any (·.1) || (backToKw pos (keywordEach kws X.env)).any (·.1.isNone)) = false := by rfl) :
    PE X (.Call (.Name x p) (e :: es) kws pos) (tCallN n ks.length sp (fun vs zs => g vs zs) E0 t tk) := by
  obtain ⟨f, fd, F, gm, G, b⟩ := h.ex
  exact pe_callN G hr hg gm F.kp (kb.bn F) pass0 ha hkw hall hks hdb he hpl
/-- a constant of the module; a thing that stands in the module -/
theorem pe_gc {v : V} (hg : Gl X x) (hm : ∃ u, X.mg x = some u ∧ RelV v u) (hd : (x == ("__debug__" : Str)) = false := by decide) : PE X (.Name x pos) (tC v) := by
  obtain ⟨u, h, r⟩ := hm
  exact pe_glob hg h r hd
theorem pe_gr {a : Addr} (hg : Gl X x) (hm : X.mg x = some (.ref a)) (hd : (x == ("__debug__" : Str)) = false := by decide) : PE X (.Name x pos) (tC (.ref a)) := pe_glob hg hm rfl hd
/-- what is walked, whatever it is -/
def iAny (K : PySem.W.Frag) (tl : TE) : TI := fun σ H R => iList K tl σ H R ∨ iTup K tl σ H R ∨ iStr tl σ H R
theorem pi_any (K : PySem.W.Frag) {tg l : Expr} {tl : TE} (hl : PE X l tl) (hK : X.K = K := by rfl) : PI X tg l (iAny K tl) := ⟨fun pins s σ H R I h => by
  subst hK
  rcases h with h | h | h
  · exact (pi_list hl).run pins s σ H R I h
  · exact (pi_tup hl).run pins s σ H R I h
  · exact (pi_str hl).run pins s σ H R I h⟩
end

/-! ### promises -/
/-- a pure def: A the arguments, pre what is asked of them, R the result -/
def sp {α : Type} (A : α → List V → Hp → Prop) (pre : α → Prop) (R : α → V → Hp → Prop) : Sp := fun vs H Q _ => ∃ F x, Ex F H ∧ A x vs F ∧ pre x ∧ ∀ v F' H', Ext none F H F' H' → R x v F' → Q v H'
/-- a def that gets the law's bag as its first argument -/
def spB {α : Type} (A : α → List V → Hp → Prop) (pre : α → Prop) (R : α → V → Hp → Prop) : Sp := fun vs H Q _ => ∃ F a ws x, vs = .ref a :: ws ∧ Ex F H ∧ BagI (some a) F H ∧ A x ws F ∧ pre x ∧ ∀ v F' H', Ext (some a) F H F' H' → BagI (some a) F' H' → R x v F' → Q v H'
def A0 : Unit → List V → Hp → Prop := fun _ vs _ => vs = []
def A1 {α : Type} (R : Rp α) : α → List V → Hp → Prop := fun x vs F => ∃ v, vs = [v] ∧ R x v F
def A2 {α β : Type} (R : Rp α) (S : Rp β) : α × β → List V → Hp → Prop := fun x vs F => ∃ v w, vs = [v, w] ∧ R x.1 v F ∧ S x.2 w F
def A3 {α β γ : Type} (R : Rp α) (S : Rp β) (T : Rp γ) : α × β × γ → List V → Hp → Prop := fun x vs F => ∃ v w u, vs = [v, w, u] ∧ R x.1 v F ∧ S x.2.1 w F ∧ T x.2.2 u F
theorem sp_len {α : Type} {A : α → List V → Hp → Prop} {pre : α → Prop} {R : α → V → Hp → Prop} {n : Nat} (h : ∀ x vs F, A x vs F → vs.length = n) : ∀ vs H Q E, sp A pre R vs H Q E → vs.length = n :=
  fun vs H Q E ⟨F, x, _, a, _⟩ => h x vs F a
theorem spB_len {α : Type} {A : α → List V → Hp → Prop} {pre : α → Prop} {R : α → V → Hp → Prop} {n : Nat} (h : ∀ x vs F, A x vs F → vs.length = n) : ∀ vs H Q E, spB A pre R vs H Q E → vs.length = n + 1 :=
  fun vs H Q E ⟨F, b, ws, x, e, _, _, a, _⟩ => by rw [e, List.length_cons, h x ws F a]
theorem A0_len : ∀ x vs F, A0 x vs F → vs.length = 0 := fun x vs F h => by rw [show vs = [] from h]; rfl
theorem A1_len {α : Type} {R : Rp α} : ∀ x vs F, A1 R x vs F → vs.length = 1 := fun x vs F ⟨v, h, _⟩ => by rw [h]; rfl
theorem A2_len {α β : Type} {R : Rp α} {S : Rp β} : ∀ x vs F, A2 R S x vs F → vs.length = 2 := fun x vs F ⟨v, w, h, _⟩ => by rw [h]; rfl
theorem A3_len {α β γ : Type} {R : Rp α} {S : Rp β} {T : Rp γ} : ∀ x vs F, A3 R S T x vs F → vs.length = 3 := fun x vs F ⟨v, w, u, h, _⟩ => by rw [h]; rfl
end PX

/-! any values: their kinds -/
namespace PX
open PySem PySem.Spec PyProof.Rows L2
/-- the kind of a plain value -/
def kindD : PyData → String
  | .none => "NoneType"
  | .bool _ => "bool"
  | .int _ => "int"
  | .str _ => "str"
  | .list _ => "list"
  | .tuple _ => "tuple"
  | .dict _ => "dict"
/-- isinstance(d, T) of a built-in class T -/
def isD (T : String) (d : PyData) : Bool := kindD d == T || (kindD d == "bool" && T == "int")
theorem dp_ty {K : PySem.W.Frag} {H : Hp} {v : V} {d : PyData} (h : Dp K H v d) : TyX K H v (.type (kindD d)) := by
  cases h with
  | non => exact .base .non
  | bl b => exact .base (.bl b)
  | int i => exact .base (.int i)
  | str x => exact .base (.str x)
  | lst h _ =>
    rcases h with (h | ⟨o, h⟩) | ⟨o, its, n, hk, hc, _⟩
    · exact .base (.lst h)
    · exact .base (.frz h)
    · exact .kList hk hc
  | tup h _ =>
    rcases h with (h | ⟨o, h⟩) | ⟨o, its, n, hk, hc, _⟩
    · exact .base (.tup h)
    · exact .fTuple h
    · exact .kTuple hk hc
theorem dp_kind {K : PySem.W.Frag} {H : Hp} {v : V} {d : PyData} (h : Dp K H v d) : kindD d = "NoneType" ∨ kindD d = "bool" ∨ kindD d = "int" ∨ kindD d = "str" ∨ kindD d = "list" ∨ kindD d = "tuple" := by
  cases h <;> simp [kindD]
theorem kit_d {K : PySem.W.Frag} {H : Hp} {v : V} {d : PyData} {T : String} (h : Dp K H v d) (hT : T = "bool" ∨ T = "int" ∨ T = "str" ∨ T = "list" ∨ T = "tuple") : PySem.W.kitOne K (.type (kindD d)) (.type T) = some (isD T d) := by
  unfold isD
  rcases dp_kind h with e | e | e | e | e | e <;> rw [e] <;> rcases hT with e2 | e2 | e2 | e2 | e2 <;> subst e2 <;> exact kit_ty (by decide +kernel)
section
variable {K : PySem.W.Frag} {H : Hp} {v : V} {d : PyData} {Q : VK}
theorem isi_d {T : String} (h : Dp K H v d) (q : Q (.bl (isD T d)) H) (hT : T = "bool" ∨ T = "int" ∨ T = "str" ∨ T = "list" ∨ T = "tuple" := by decide) : rIsi K [v, .ty T] H Q :=
  ⟨v, .ty T, _, _, _, rfl, .ty T, dp_ty h, kit_d h hT, q⟩
theorem kit_d2 {S T : String} (h : Dp K H v d) (hS : S = "bool" ∨ S = "int" ∨ S = "str" ∨ S = "list" ∨ S = "tuple") (hT : T = "bool" ∨ T = "int" ∨ T = "str" ∨ T = "list" ∨ T = "tuple") : PySem.W.kitAny K (.type (kindD d)) [.type S, .type T] = some (isD S d || isD T d) := by
  refine kitAny_cons (kit_d h hS) (fun e => ?_) (fun e => by rw [e]; rfl)
  rw [e, Bool.false_or]
  refine kitAny_cons (kit_d h hT) (fun e => ?_) (fun e => e)
  rw [e]
  rfl
/-- isinstance(x, (S, T)) -/
theorem isi_d2 {S T : String} {p : Addr} (h : Dp K H v d) (hp : H p = some (.tup [.ty S, .ty T])) (q : Q (.bl (isD S d || isD T d)) H) (hS : S = "bool" ∨ S = "int" ∨ S = "str" ∨ S = "list" ∨ S = "tuple" := by decide) (hT : T = "bool" ∨ T = "int" ∨ T = "str" ∨ T = "list" ∨ T = "tuple" := by decide) : rIsiT K [v, .ref p] H Q :=
  ⟨v, p, [.ty S, .ty T], _, [.type S, .type T], _, rfl, hp, .cons (.ty S) (.cons (.ty T) .nil), dp_ty h, kit_d2 h hS hT, q⟩
end
/-- a plain value is a text, or is none -/
theorem str_or {K : PySem.W.Frag} {H : Hp} {v : V} {d : PyData} (h : Dp K H v d) : (∃ z, d = .str z ∧ v = .str z) ∨ isD "str" d = false := by
  cases h with
  | str z => exact .inl ⟨z, rfl, rfl⟩
  | _ => exact .inr rfl
theorem list_or {K : PySem.W.Frag} {H : Hp} {v : V} {d : PyData} (h : Dp K H v d) : (∃ a xs ds, d = .list ds ∧ v = .ref a ∧ SqL K H a xs ∧ DpAll K H xs ds) ∨ isD "list" d = false := by
  cases h with
  | lst h1 h2 => exact .inl ⟨_, _, _, rfl, rfl, h1, h2⟩
  | _ => exact .inr rfl
theorem sl_eq (z : Str) : z.cps.toList.length = z.length := by simp [Str.length]
abbrev abcS : Str := "abcdefghijklmnopqrstuvwxyz"
def abcL : List Nat := abcS.cps.toList
def isLow (c : Nat) : Bool := decide (c ∈ abcL)
/-- a word: a text of lowercase letters -/
def wordS (z : Str) : Bool := z.cps.toList.all isLow
def wordD : PyData → Bool
  | .str z => wordS z
  | _ => false
def nameS (z : Str) : Bool := wordS z && (decide (1 ≤ z.length) && decide (z.length ≤ 8))
def nameD : PyData → Bool
  | .str z => nameS z
  | _ => false
def numD (d : PyData) : Bool := isD "int" d && !isD "bool" d
mutual
/-- how deep data are nested -/
def depD : PyData → Nat
  | .list xs => depDs xs + 1
  | .tuple xs => depDs xs + 1
  | _ => 0
def depDs : List PyData → Nat
  | [] => 0
  | x :: xs => max (depD x) (depDs xs)
end
mutual
/-- no list, no tuple of it is too long -/
def fitD : PyData → Bool
  | .list xs => decide (xs.length < 100000) && fitDs xs
  | .tuple xs => decide (xs.length < 100000) && fitDs xs
  | _ => true
def fitDs : List PyData → Bool
  | [] => true
  | x :: xs => fitD x && fitDs xs
end
theorem depDs_mem : ∀ {xs : List PyData} {x : PyData}, x ∈ xs → depD x ≤ depDs xs
  | y :: ys, x, h => by
    show depD x ≤ max (depD y) (depDs ys)
    rcases List.mem_cons.mp h with e | h
    · rw [e]; omega
    · have := depDs_mem h; omega
theorem fitDs_mem : ∀ {xs : List PyData} {x : PyData}, fitDs xs = true → x ∈ xs → fitD x = true
  | y :: ys, x, f, h => by
    have f' : (fitD y && fitDs ys) = true := f
    rw [Bool.and_eq_true] at f'
    rcases List.mem_cons.mp h with e | h
    · rw [e]; exact f'.1
    · exact fitDs_mem f'.2 h
theorem dpAll_len {K : PySem.W.Frag} {H : Hp} : ∀ {vs : List V} {ds : List PyData}, DpAll K H vs ds → vs.length = ds.length
  | _, _, .nil => rfl
  | _, _, .cons _ k => congrArg Nat.succ (dpAll_len k)
theorem dpAll_get {K : PySem.W.Frag} {H : Hp} : ∀ {vs : List V} {ds : List PyData} {i : Nat} {v : V} {d : PyData}, DpAll K H vs ds → vs[i]? = some v → ds[i]? = some d → Dp K H v d
  | _, _, 0, _, _, .cons h _, e1, e2 => by
    simp at e1 e2; subst e1; subst e2; exact h
  | _, _, i + 1, v, d, .cons _ k, e1, e2 => dpAll_get (i := i) k (by simpa using e1) (by simpa using e2)
end PX

/-! readings, a step each: the goal is always a reading at slots and heap -/
namespace PX
open PySem PySem.Spec PyProof.Rows L2 RZ
section
variable {σ : L2.St} {H F : Hp} {Q : VK} {ta tb tc te : TE} {v x y : V} {D : Ends} {K : PySem.W.Frag}
theorem var_go {i : Nat} (h : σ[i]? = some (some v)) (q : Q v H) : tVar i σ H Q := ⟨v, h, q⟩
theorem c_go (q : Q v H) : tC v σ H Q := q
def OpK (r : R2) (Q : VK) (x y : V) (H : Hp) : Prop := r x y H Q
def OpA (r : R2) (tb : TE) (σ : L2.St) (Q : VK) (x : V) (H : Hp) : Prop := tb σ H (OpK r Q x)
theorem opA {r : R2} (q : tb σ H (OpK r Q x)) : OpA r tb σ Q x H := q
theorem op_go {r : R2} (q : ta σ H (OpA r tb σ Q)) : tOp r ta tb σ H Q := q
theorem neg_go {i : Int} (q : ta σ H fun x H1 => ∃ i, x = .int i ∧ Q (.int (-i)) H1) : tUn (rU fun i => .int (-i)) ta σ H Q := q
abbrev RL := List V → Hp → VK → Prop
def CbK (r : RL) (Q : VK) (x : V) (H : Hp) : Prop := r [x] H Q
def CbK2 (r : RL) (Q : VK) (x y : V) (H : Hp) : Prop := r [x, y] H Q
def CbA (r : RL) (tb : TE) (σ : L2.St) (Q : VK) (x : V) (H : Hp) : Prop := tb σ H (CbK2 r Q x)
theorem cb1 {r : RL} (q : ta σ H (CbK r Q)) : tCB r (tCons ta tNil) σ H Q := q
theorem cb2 {r : RL} (q : ta σ H (CbA r tb σ Q)) : tCB r (tCons ta (tCons tb tNil)) σ H Q := q
theorem cb0 {r : List V → Hp → VK → Prop} (q : r [] H Q) : tCB r tNil σ H Q := q
theorem call0 {s : Sp} (q : s [] H Q E0) : tCall s [] E0 tNil σ H Q := q
def SpK (s : Sp) (Q : VK) (x : V) (H : Hp) : Prop := s [x] H Q E0
def SpK2 (s : Sp) (Q : VK) (x y : V) (H : Hp) : Prop := s [x, y] H Q E0
def SpK3 (s : Sp) (Q : VK) (x y z : V) (H : Hp) : Prop := s [x, y, z] H Q E0
def SpA2 (s : Sp) (tb : TE) (σ : L2.St) (Q : VK) (x : V) (H : Hp) : Prop := tb σ H (SpK2 s Q x)
def SpB3 (s : Sp) (tc : TE) (σ : L2.St) (Q : VK) (x y : V) (H : Hp) : Prop := tc σ H (SpK3 s Q x y)
def SpA3 (s : Sp) (tb tc : TE) (σ : L2.St) (Q : VK) (x : V) (H : Hp) : Prop := tb σ H (SpB3 s tc σ Q x)
theorem call1 {s : Sp} (q : ta σ H (SpK s Q)) : tCall s [] E0 (tCons ta tNil) σ H Q := q
theorem call2 {s : Sp} (q : ta σ H (SpA2 s tb σ Q)) : tCall s [] E0 (tCons ta (tCons tb tNil)) σ H Q := q
theorem call3 {s : Sp} (q : ta σ H (SpA3 s tb tc σ Q)) : tCall s [] E0 (tCons ta (tCons tb (tCons tc tNil))) σ H Q := q
/-- a keyword call of no positional argument and one keyword (the reading of the argument told) -/
theorem callK1 {s : Sp} {gV : List V → List V → List V} (q : ta σ H fun x H1 => (0 = 0 ∧ 1 = 1 ∧ s (gV [] [x]) H1 Q E0)) : tCallN 0 1 s gV E0 tNil (tCons ta tNil) σ H Q := q
/-! ### promises used -/
theorem sp_go {α : Type} {A : α → List V → Hp → Prop} {pre : α → Prop} {R : α → V → Hp → Prop} {vs : List V} {z : α} (hF : Ex F H) (hA : A z vs F) (hp : pre z) (k : ∀ v F' H', Ext none F H F' H' → R z v F' → Q v H') : sp A pre R vs H Q E0 := ⟨F, z, hF, hA, hp, k⟩
theorem spB_go {α : Type} {A : α → List V → Hp → Prop} {pre : α → Prop} {R : α → V → Hp → Prop} {a : Addr} {ws : List V} {z : α} (hF : Ex F H) (B : BagI (some a) F H) (hA : A z ws F) (hp : pre z)
    (k : ∀ v F' H', Ext (some a) F H F' H' → BagI (some a) F' H' → R z v F' → Q v H') : spB A pre R (.ref a :: ws) H Q E0 := ⟨F, a, ws, z, rfl, hF, B, hA, hp, k⟩
/-! ### truth -/
def AndK (tb : TE) (σ : L2.St) (Q : VK) (x : V) (H : Hp) : Prop := ∃ c, x = .bl c ∧ if c = true then tb σ H Q else Q (.bl false) H
theorem and_go (q : ta σ H (AndK tb σ Q)) : tAndV ta tb σ H Q := q
theorem and_b {c : Bool} (h1 : c = true → tb σ H Q) (h2 : c = false → Q (.bl false) H) : AndK tb σ Q (.bl c) H := ⟨c, rfl, by
  cases c with
  | true => exact h1 rfl
  | false => exact h2 rfl⟩
theorem and_t (q : tb σ H Q) : AndK tb σ Q (.bl true) H := ⟨true, rfl, q⟩
theorem and_f (q : Q (.bl false) H) : AndK tb σ Q (.bl false) H := ⟨false, rfl, q⟩
def OrK (tb : TE) (σ : L2.St) (Q : VK) (x : V) (H : Hp) : Prop := ∃ c, x = .bl c ∧ if c = true then Q (.bl true) H else tb σ H Q
theorem or_go (q : ta σ H (OrK tb σ Q)) : tOrV ta tb σ H Q := q
theorem or_b {c : Bool} (h1 : c = true → Q (.bl true) H) (h2 : c = false → tb σ H Q) : OrK tb σ Q (.bl c) H := ⟨c, rfl, by
  cases c with
  | true => exact h1 rfl
  | false => exact h2 rfl⟩
theorem not_go (q : ta σ H fun x H1 => ∃ c, x = .bl c ∧ Q (.bl (!c)) H1) : tNotV ta σ H Q := q
theorem bl_go {c : Bool} {R : Bool → Prop} (q : R c) : ∃ d, V.bl c = .bl d ∧ R d := ⟨c, rfl, q⟩
theorem int_go {c : Int} {R : Int → Prop} (q : R c) : ∃ d, V.int c = .int d ∧ R d := ⟨c, rfl, q⟩
def AndTK (K : PySem.W.Frag) (tb : TE) (σ : L2.St) (Q : VK) (x : V) (H : Hp) : Prop := ∃ k, TruV K x H k ∧ if k = true then tb σ H Q else Q x H
theorem andT_go (q : ta σ H (AndTK K tb σ Q)) : tAndT K ta tb σ H Q := q
theorem andT_b {c : Bool} (h1 : c = true → tb σ H Q) (h2 : c = false → Q (.bl false) H) : AndTK K tb σ Q (.bl c) H := ⟨c, rfl, by
  cases c with
  | true => exact h1 rfl
  | false => exact h2 rfl⟩
def OrTK (K : PySem.W.Frag) (tb : TE) (σ : L2.St) (Q : VK) (x : V) (H : Hp) : Prop := ∃ k, TruV K x H k ∧ if k = true then Q x H else tb σ H Q
theorem orT_go (q : ta σ H (OrTK K tb σ Q)) : tOrT K ta tb σ H Q := q
theorem notT_b {c : Bool} (q : ta σ H fun x H1 => ∃ k, TruV K x H1 k ∧ Q (.bl (!k)) H1) : tNotT K ta σ H Q := q
/-! ### tests -/
variable {QT : Bool → Hp → Prop} {t u : TT}
theorem test_go (q : te σ H fun x H' => ∃ k, x = .bl k ∧ QT k H') : tTest te σ H QT := q
theorem tB_go (q : te σ H fun x H' => ∃ k, x = .bl k ∧ QT k H') : tB te σ H QT := q
theorem tru_go (q : te σ H fun x H' => ∃ k, TruV K x H' k ∧ QT k H') : tTru K te σ H QT := q
theorem tru_b {c : Bool} {R : Bool → Prop} (q : R c) : ∃ k, TruV K (.bl c) H k ∧ R k := ⟨c, rfl, q⟩
theorem tnot_go (q : t σ H fun c H1 => QT (!c) H1) : tNot t σ H QT := q
def TAndK (u : TT) (σ : L2.St) (QT : Bool → Hp → Prop) (c : Bool) (H : Hp) : Prop := if c = true then u σ H QT else QT false H
theorem tand_go (q : t σ H (TAndK u σ QT)) : tAnd t u σ H QT := q
theorem tand_b {c : Bool} (h1 : c = true → u σ H QT) (h2 : c = false → QT false H) : TAndK u σ QT c H := by
  cases c with
  | true => exact h1 rfl
  | false => exact h2 rfl
def TOrK (u : TT) (σ : L2.St) (QT : Bool → Hp → Prop) (c : Bool) (H : Hp) : Prop := if c = true then QT true H else u σ H QT
theorem tor_go (q : t σ H (TOrK u σ QT)) : tOr t u σ H QT := q
theorem tor_b {c : Bool} (h1 : c = true → QT true H) (h2 : c = false → u σ H QT) : TOrK u σ QT c H := by
  cases c with
  | true => exact h1 rfl
  | false => exact h2 rfl
def IfEK (ta tb : TE) (σ : L2.St) (Q : VK) (c : Bool) (H : Hp) : Prop := if c = true then ta σ H Q else tb σ H Q
theorem ife_go (q : t σ H (IfEK ta tb σ Q)) : tIf t ta tb σ H Q := q
theorem ife_b {c : Bool} (h1 : c = true → ta σ H Q) (h2 : c = false → tb σ H Q) : IfEK ta tb σ Q c H := by
  cases c with
  | true => exact h1 rfl
  | false => exact h2 rfl
/-! ### statements -/
variable {s1 s2 : TS} {g : TG} {wi : TI} {tt : TT} {nx bk ct : L2.St → Hp → Prop} {rt : VK}
theorem seq_go (q : s1 ⟨s2 ⟨nx, rt, bk, ct⟩, rt, bk, ct⟩ σ H) : tSeq s1 s2 ⟨nx, rt, bk, ct⟩ σ H := q
theorem ret_go (q : te σ H rt) : tRet te ⟨nx, rt, bk, ct⟩ σ H := q
theorem retN_go (q : rt .non H) : tRetN ⟨nx, rt, bk, ct⟩ σ H := q
theorem drop_go (q : te σ H fun _ H1 => nx σ H1) : tDrop te ⟨nx, rt, bk, ct⟩ σ H := q
def AsgK (g : TG) (σ : L2.St) (nx : L2.St → Hp → Prop) (x : V) (H : Hp) : Prop := g x σ H nx
theorem asg_go (q : te σ H (AsgK g σ nx)) : tAsg te g ⟨nx, rt, bk, ct⟩ σ H := q
theorem name_go {i : Nat} {σ' : L2.St} {QS : L2.St → Hp → Prop} (e : σ.set i (some v) = σ') (q : QS σ' H) : gName i v σ H QS := by subst e; exact q
theorem next_go (q : nx σ H) : tNext ⟨nx, rt, bk, ct⟩ σ H := q
theorem brk_go (q : bk σ H) : tBreak ⟨nx, rt, bk, ct⟩ σ H := q
theorem cont_go (q : ct σ H) : tCont ⟨nx, rt, bk, ct⟩ σ H := q
def IfK (s1 s2 : TS) (D : Ends) (σ : L2.St) (c : Bool) (H : Hp) : Prop := if c = true then s1 D σ H else s2 D σ H
theorem if_go (q : t σ H (IfK s1 s2 D σ)) : tIfS t s1 s2 D σ H := q
theorem if_b {c : Bool} (h1 : c = true → s1 D σ H) (h2 : c = false → s2 D σ H) : IfK s1 s2 D σ c H := by
  cases c with
  | true => exact h1 rfl
  | false => exact h2 rfl
theorem for_go (q : wi σ H fun J H1 => ForG J g s1 D σ H1) : tFor wi g s1 D σ H := q
theorem lc_go {vs : List Nat} (q : wi σ H fun J H1 => LcG J g tt te vs σ Q H1) : tLc wi g tt te vs σ H Q := q
/-! ### what is walked -/
variable {R : It → Hp → Prop} {a : Addr} {xs : List V}
def WL (K : PySem.W.Frag) (R : It → Hp → Prop) (x : V) (H : Hp) : Prop := ∃ a, x = .ref a ∧ (∃ xs, SqL K H a xs) ∧ R (Itl K a) H
def WT (K : PySem.W.Frag) (R : It → Hp → Prop) (x : V) (H : Hp) : Prop := ∃ a, x = .ref a ∧ (∃ xs, SqT K H a xs) ∧ R (Itt K a) H
def WS (R : It → Hp → Prop) (x : V) (H : Hp) : Prop := ∃ z, x = .str z ∧ R (Its z) H
theorem any_l (q : ta σ H (WL K R)) : iAny K ta σ H R := .inl q
theorem any_t (q : ta σ H (WT K R)) : iAny K ta σ H R := .inr (.inl q)
theorem any_s (q : ta σ H (WS R)) : iAny K ta σ H R := .inr (.inr q)
theorem wl (h : SqL K H a xs) (q : R (Itl K a) H) : WL K R (.ref a) H := ⟨a, rfl, ⟨xs, h⟩, q⟩
theorem wt (h : SqT K H a xs) (q : R (Itt K a) H) : WT K R (.ref a) H := ⟨a, rfl, ⟨xs, h⟩, q⟩
theorem ws {z : Str} (q : R (Its z) H) : WS R (.str z) H := ⟨z, rfl, q⟩
def RngK (R : It → Hp → Prop) (x : V) (H : Hp) : Prop := ∃ j : Int, [x] = [.int j] ∧ -(2 ^ 62) ≤ j ∧ j < 2 ^ 62 ∧ R (Itr 0 j.toNat) H
theorem rng1 {n : Nat} (hn : n < 100000) (q : R (Itr 0 n) H) : RngK R (.int (n : Int)) H := ⟨n, rfl, by omega, by omega, by rw [Int.toNat_natCast]; exact q⟩
theorem rng1_go (q : ta σ H (RngK R)) : iRng1 (tCons ta tNil) σ H R := q
def R2K (R : It → Hp → Prop) (x y : V) (H : Hp) : Prop := ∃ i j : Int, [x, y] = [.int i, .int j] ∧ (-(2 ^ 62) ≤ i ∧ i < 2 ^ 62 ∧ -(2 ^ 62) ≤ j ∧ j < 2 ^ 62) ∧ R (Itr i (j - i).toNat) H
theorem rng2_go (q : ta σ H fun x H1 => tb σ H1 fun y H2 => R2K R x y H2) : iRng2 (tCons ta (tCons tb tNil)) σ H R := q
theorem rng2 {i j : Int} (h1 : -100000 ≤ i) (h2 : i ≤ 100000) (h3 : -100000 ≤ j) (h4 : j ≤ 100000) (q : R (Itr i (j - i).toNat) H) : R2K R (.int i) (.int j) H := ⟨i, j, rfl, by omega, q⟩
def ZK (K : PySem.W.Frag) (R : It → Hp → Prop) (x y : V) (H : Hp) : Prop := ∃ a b xs ys, [x, y] = [.ref a, .ref b] ∧ ((SqL K H a xs ∧ SqL K H b ys ∧ R (Itz K a b) H) ∨ (SqT K H a xs ∧ SqT K H b ys ∧ R (ItzT K a b) H))
theorem zip_go (q : ta σ H fun x H1 => tb σ H1 fun y H2 => ZK K R x y H2) : iZipB K (tCons ta (tCons tb tNil)) σ H R := q
theorem zip_l {c : Addr} {ys : List V} (h : SqL K H a xs) (k : SqL K H c ys) (q : R (Itz K a c) H) : ZK K R (.ref a) (.ref c) H := ⟨a, c, xs, ys, rfl, .inl ⟨h, k, q⟩⟩
theorem zip_t {c : Addr} {ys : List V} (h : SqT K H a xs) (k : SqT K H c ys) (q : R (ItzT K a c) H) : ZK K R (.ref a) (.ref c) H := ⟨a, c, xs, ys, rfl, .inr ⟨h, k, q⟩⟩
def EnK (K : PySem.W.Frag) (R : It → Hp → Prop) (x : V) (H : Hp) : Prop := ∃ a xs, [x] = [.ref a] ∧ SqL K H a xs ∧ R (Ite K a) H
theorem enum_go (q : ta σ H (EnK K R)) : iEnum K (tCons ta tNil) σ H R := q
theorem enum1 (h : SqL K H a xs) (q : R (Ite K a) H) : EnK K R (.ref a) H := ⟨a, xs, rfl, h, q⟩
/-! ### targets -/
theorem tup_go {n : Nat} {ts : TGs} {QS : L2.St → Hp → Prop} (h : H a = some (.tup xs)) (e : xs.length = n) (q : ts xs σ H QS) : gTup K n ts (.ref a) σ H QS := ⟨a, xs, rfl, SqT.of h, e, q⟩
theorem cons_go {ts : TGs} {r : List V} {QS : L2.St → Hp → Prop} (q : g v σ H fun σ' H' => ts r σ' H' QS) : gCons g ts (v :: r) σ H QS := ⟨v, r, rfl, q⟩
theorem nil_go {QS : L2.St → Hp → Prop} (q : QS σ H) : gNil [] σ H QS := ⟨rfl, q⟩
theorem sub_go {r : TSet} {QS : L2.St → Hp → Prop} (q : ta σ H fun o H1 => tb σ H1 fun i H2 => r o i v H2 fun H3 => QS σ H3) : gSub ta tb r v σ H QS := q
theorem setl {j : Nat} {R : Hp → Prop} (h : H a = some (.lst xs)) (hj : j < xs.length) (q : R (upd H a (.lst (xs.set j v)))) : rSetL (.ref a) (.int (j : Int)) v H R :=
  ⟨a, xs, j, j, rfl, rfl, h, by unfold ixN; rw [if_pos (by omega), if_pos (by omega)]; simp, q⟩
/-! ### displays, slices, parts -/
theorem tup1 (q : ta σ H fun x H1 => [x].length ≤ sizeLine ∧ ∀ p, H1 p = none → Q (.ref p) (upd H1 p (.tup [x]))) : tTup (tCons ta tNil) σ H Q := q
theorem tup2 (q : ta σ H fun x H1 => tb σ H1 fun y H2 => [x, y].length ≤ sizeLine ∧ ∀ p, H2 p = none → Q (.ref p) (upd H2 p (.tup [x, y]))) : tTup (tCons ta (tCons tb tNil)) σ H Q := q
theorem tup3 (q : ta σ H fun x H1 => tb σ H1 fun y H2 => tc σ H2 fun z H3 => [x, y, z].length ≤ sizeLine ∧ ∀ p, H3 p = none → Q (.ref p) (upd H3 p (.tup [x, y, z]))) : tTup (tCons ta (tCons tb (tCons tc tNil))) σ H Q := q
theorem lst_go {tas : TA} (q : tas σ H fun xs H1 => xs.length ≤ sizeLine ∧ ∀ p, H1 p = none → Q (.ref p) (upd H1 p (.lst xs))) : tLst tas σ H Q := q
theorem tupn_go {tas : TA} (q : tas σ H fun xs H1 => xs.length ≤ sizeLine ∧ ∀ p, H1 p = none → Q (.ref p) (upd H1 p (.tup xs))) : tTup tas σ H Q := q
variable {QA : List V → Hp → Prop} {tas : TA}
def AcQ (QA : List V → Hp → Prop) (x : V) (xs : List V) (H : Hp) : Prop := QA (x :: xs) H
def AcK (tas : TA) (σ : L2.St) (QA : List V → Hp → Prop) (x : V) (H : Hp) : Prop := tas σ H (AcQ QA x)
theorem acons (q : ta σ H (AcK tas σ QA)) : tCons ta tas σ H QA := q
theorem anil (q : QA [] H) : tNil σ H QA := q
theorem slice_go {r : V → Option Int → Option Int → Hp → VK → Prop} {tl th : TO} (q : te σ H fun x H1 => tl σ H1 fun l H2 => th σ H2 fun u H3 => r x l u H3 Q) : tSl r te tl th σ H Q := q
theorem nopart {QO : Option Int → Hp → Prop} (q : QO none H) : tNoPart σ H QO := q
theorem part {QO : Option Int → Hp → Prop} (q : ta σ H fun x H1 => ∃ i, x = .int i ∧ QO (some i) H1) : tPart ta σ H QO := q
/-! ### built-ins -/
theorem len_s {z : Str} (h : z.length ≤ sizeLine) (q : Q (.int (z.length : Int)) H) : rLen K [.str z] H Q := ⟨.str z, z.length, rfl, ⟨h, rfl⟩, q⟩
theorem len_l (h : H a = some (.lst xs)) (q : Q (.int (xs.length : Int)) H) : rLen K [.ref a] H Q := ⟨.ref a, xs.length, rfl, .inl ⟨xs, SqL.of h, rfl⟩, q⟩
theorem len_lq (h : SqL K H a xs) (q : Q (.int (xs.length : Int)) H) : rLen K [.ref a] H Q := ⟨.ref a, xs.length, rfl, .inl ⟨xs, h, rfl⟩, q⟩
theorem len_t (h : H a = some (.tup xs)) (q : Q (.int (xs.length : Int)) H) : rLen K [.ref a] H Q := ⟨.ref a, xs.length, rfl, .inr ⟨xs, SqT.of h, rfl⟩, q⟩
theorem len_tq (h : SqT K H a xs) (q : Q (.int (xs.length : Int)) H) : rLen K [.ref a] H Q := ⟨.ref a, xs.length, rfl, .inr ⟨xs, h, rfl⟩, q⟩
theorem int_i {i : Int} (q : Q (.int i) H) : rInt1 [.int i] H Q := .inl ⟨i, rfl, q⟩
theorem all_go {bs : List Bool} (h : H a = some (.lst (bs.map V.bl))) (q : Q (.bl (bs.all id)) H) : rAll K [.ref a] H Q := ⟨a, bs, rfl, SqL.of h, q⟩
theorem any_go {bs : List Bool} (h : H a = some (.lst (bs.map V.bl))) (q : Q (.bl (bs.any id)) H) : rAny K [.ref a] H Q := ⟨a, bs, rfl, SqL.of h, q⟩
theorem bm1 {T : String} {r : V → List V → Hp → VK → Prop} (q : ta σ H fun x H1 => tyV K T x H1 ∧ tb σ H1 fun y H2 => r x [y] H2 Q) : tBM K T r ta (tCons tb tNil) σ H Q := q
theorem bm0 {T : String} {r : V → List V → Hp → VK → Prop} (q : ta σ H fun x H1 => tyV K T x H1 ∧ r x [] H1 Q) : tBM0 K T r ta σ H Q := q
theorem ty_l (h : H a = some (.lst xs)) : tyV K "list" (.ref a) H := .inl ⟨rfl, xs, SqL.of h⟩
theorem join_go (q : ta σ H fun x H1 => (∃ a, x = .str a) ∧ tb σ H1 fun y H2 => rJoin K x [y] H2 Q) : tM1 (rJoin K) ta tb σ H Q := q
theorem join_l {z : Str} {ys : List Str} (h : H a = some (.lst (ys.map V.str))) (hz : (ys.map (·.length)).sum + ys.length * z.length ≤ 16777216) (q : Q (.str (Txt.join z ys)) H) : rJoin K (.str z) [.ref a] H Q := ⟨z, a, ys, rfl, rfl, .inl (SqL.of h), hz, q⟩
/-- the law's bag, one cell stored -/
theorem setb {j : Nat} {R : Hp → Prop} (h : H a = some (.lst xs)) (n : F a = none) (e : Ex F H) (hj : j < xs.length) (q : ∀ H', Ext (some a) F H F H' → H' a = some (.lst (xs.set j v)) → R H') : rSetL (.ref a) (.int (j : Int)) v H R := by
  refine setl h hj (q _ ⟨fun _ _ h => h, fun b u k => ?_, fun b u nb k => ?_, fun b _ k => ?_, fun b k _ => k⟩ upd_same)
  · rw [upd_ne (ne_of_none k n)]; exact e b u k
  · rw [upd_ne (fun z => nb (by rw [z]))]; exact k
  · by_cases hb : b = a
    · rw [hb, upd_same]; rfl
    · rw [upd_ne hb]; exact k
def ChK (tc : TE) (r' : R2) (σ : L2.St) (Q : VK) (y z : V) (H : Hp) : Prop := ∃ k, z = .bl k ∧ (if k = true then tc σ H fun w' H4 => r' y w' H4 Q else Q (.bl false) H)
theorem chain_go {r r' : R2} (q : ta σ H fun x H1 => tb σ H1 fun y H2 => r x y H2 (ChK tc r' σ Q y)) : tChain r r' ta tb tc σ H Q := q
theorem ch_b {r' : R2} {c : Bool} (h1 : c = true → tc σ H fun w' H4 => r' y w' H4 Q) (h2 : c = false → Q (.bl false) H) : ChK tc r' σ Q y (.bl c) H := ⟨c, rfl, by
  cases c with
  | true => exact h1 rfl
  | false => exact h2 rfl⟩
theorem cut_go {M : L2.St → Hp → Prop} (q : s1 ⟨M, rt, bk, ct⟩ σ H) (k : ∀ σ' H', M σ' H' → s2 ⟨nx, rt, bk, ct⟩ σ' H') : Evl.tCut s1 s2 ⟨nx, rt, bk, ct⟩ σ H := ⟨M, q, k⟩
theorem isN (q : Q (.bl (decide (x = .non))) H) : rIsN x .non H Q := ⟨rfl, q⟩
theorem notN (q : Q (.bl (!decide (x = .non))) H) : rNotN x .non H Q := ⟨rfl, q⟩
end
/-! ### slices -/
theorem cut_to (xs : List V) (n : Nat) : cutV xs none (some (n : Int)) = xs.take n := by
  unfold cutV
  rw [HT.sIx_none, show HT.sIx xs.length xs.length (some (n : Int)) = min n xs.length from HT.sIx_nat xs.length _ n]
  show (xs.drop 0).take (min n xs.length - 0) = xs.take n
  rw [List.drop_zero, Nat.sub_zero]
  by_cases h : n ≤ xs.length
  · rw [Nat.min_eq_left h]
  · rw [Nat.min_eq_right (by omega), List.take_length, List.take_of_length_le (by omega)]
theorem cut_from (xs : List V) (n : Nat) : cutV xs (some (n : Int)) none = xs.drop n := by
  unfold cutV
  rw [HT.sIx_none, show HT.sIx xs.length 0 (some (n : Int)) = min n xs.length from HT.sIx_nat xs.length 0 n]
  by_cases h : n ≤ xs.length
  · rw [Nat.min_eq_left h, List.take_of_length_le]
    rw [List.length_drop]; omega
  · rw [Nat.min_eq_right (by omega), List.drop_length, List.drop_eq_nil_of_le (by omega)]; simp
end PX

/-! texts as lists of signs -/
namespace PX
open PySem PySem.Spec PyProof.Rows L2 RZ
/-- a text of these signs -/
def qT : Rp (List Nat) := fun cs v _ => v = .str (SX.S cs)
instance : MonoR qT := ⟨fun _ h => h⟩
instance {K : PySem.W.Frag} : Dat K qT (fun cs => PyData.str (SX.S cs)) := ⟨fun h => by cases h; exact .str _⟩
/-- a text of one sign -/
def qC : Rp Nat := fun c v _ => v = .str (SX.S [c])
instance : MonoR qC := ⟨fun _ h => h⟩
instance {K : PySem.W.Frag} : Dat K qC (fun c => PyData.str (SX.S [c])) := ⟨fun h => by cases h; exact .str _⟩
/-- some y of the kind P, told by S -/
def qEx {α β : Type} (P : β → Prop) (S : Rp β) : Rp α := fun _ v F => ∃ y, P y ∧ S y v F
instance {α β : Type} {P : β → Prop} {S : Rp β} [MonoR S] : MonoR (qEx P S : Rp α) := ⟨fun e ⟨y, h, k⟩ => ⟨y, h, up e k⟩⟩
theorem AllR.ex {α β : Type} {P : β → Prop} {S : Rp β} {F : Hp} : ∀ {xs : List α} {us : List V}, AllR (qEx P S) xs us F → ∃ ys : List β, ys.length = xs.length ∧ (∀ y ∈ ys, P y) ∧ AllR S ys us F
  | [], [], _ => ⟨[], rfl, fun _ h => (List.not_mem_nil h).elim, True.intro⟩
  | [], _ :: _, h => h.elim
  | _ :: _, [], h => h.elim
  | x :: xs, u :: us, ⟨⟨y, hy, k⟩, h⟩ => by
    obtain ⟨ys, l, p, a⟩ := AllR.ex h
    exact ⟨y :: ys, congrArg Nat.succ l, fun z hz => by
      rcases List.mem_cons.mp hz with e | e
      · rw [e]; exact hy
      · exact p z e, k, a⟩
theorem AllR.txt {F : Hp} : ∀ {xs : List (List Nat)} {vs : List V}, AllR qT xs vs F → vs = (xs.map SX.S).map V.str
  | [], [], _ => rfl
  | [], _ :: _, h => h.elim
  | _ :: _, [], h => h.elim
  | x :: xs, v :: vs, ⟨h, k⟩ => by
    rw [show v = _ from h, AllR.txt k] <;> rfl
theorem AllR.ch {F : Hp} : ∀ {cs : List Nat} {vs : List V}, AllR qC cs vs F → vs = ((cs.map fun c => [c]).map SX.S).map V.str
  | [], [], _ => rfl
  | [], _ :: _, h => h.elim
  | _ :: _, [], h => h.elim
  | x :: xs, v :: vs, ⟨h, k⟩ => by
    rw [show v = _ from h, AllR.ch k] <;> rfl
theorem flat_ch : ∀ cs : List Nat, (cs.map fun c => [c]).flatten = cs
  | [] => rfl
  | c :: cs => by rw [List.map_cons, List.flatten_cons, flat_ch cs] <;> rfl
theorem len_ch (cs : List Nat) : ((cs.map fun c => [c]).map (·.length)).sum = cs.length := by
  induction cs with
  | nil => rfl
  | cons c cs ih => rw [List.map_cons, List.map_cons, List.sum_cons, ih, List.length_cons]; simp; omega
theorem AllR.mem {α : Type} {R : Rp α} {F : Hp} {v : V} : ∀ {xs : List α} {vs : List V}, AllR R xs vs F → v ∈ vs → ∃ x, x ∈ xs ∧ R x v F
  | [], [], _, m => by cases m
  | [], _ :: _, h, _ => h.elim
  | _ :: _, [], h, _ => h.elim
  | x :: xs, u :: us, ⟨h, k⟩, m => by
    rcases List.mem_cons.mp m with e | e
    · exact ⟨x, List.mem_cons_self .., by rw [e]; exact h⟩
    · obtain ⟨z, hz, q⟩ := AllR.mem k e
      exact ⟨z, List.mem_cons_of_mem _ hz, q⟩
section
variable {H : Hp} {Q : VK} {K : PySem.W.Frag} {a b : List Nat}
theorem add_t2 (h : a.length + b.length ≤ 100000) (q : Q (.str (SX.S (a ++ b))) H) : rAdd K (.str (SX.S a)) (.str (SX.S b)) H Q :=
  add_s (small (by rw [SX.S_len, SX.S_len]; exact h)) (by rw [SX.S_cat]; exact q)
theorem len_S (h : a.length ≤ 100000) (q : Q (.int (a.length : Int)) H) : rLen K [.str (SX.S a)] H Q := len_s (small (by rw [SX.S_len]; exact h)) (by rw [SX.S_len]; exact q)
theorem cut_toS {i : Int} (h : 0 ≤ i) : cutS (SX.S a) none (some i) = SX.S (a.take i.toNat) := by rw [C8.cutS_slice, SX.slice_to h]
theorem cut_fromS {i : Int} (h : 0 ≤ i) : cutS (SX.S a) (some i) none = SX.S (a.drop i.toNat) := by
  have e : i = ((i.toNat : Nat) : Int) := by omega
  rw [e]
  unfold cutS
  rw [HT.sIx_none, show HT.sIx (SX.S a).length 0 (some ((i.toNat : Nat) : Int)) = min i.toNat (SX.S a).length from HT.sIx_nat _ 0 _, SX.S_len]
  show SX.S _ = SX.S _
  congr 1
  show (a.drop (min i.toNat a.length)).take (a.length - min i.toNat a.length) = a.drop ((i.toNat : Nat) : Int).toNat
  rw [Int.toNat_natCast]
  by_cases h : i.toNat ≤ a.length
  · rw [Nat.min_eq_left h, List.take_of_length_le]
    rw [List.length_drop]; omega
  · rw [Nat.min_eq_right (by omega), List.drop_length, List.drop_eq_nil_of_le (by omega)]; simp
theorem sl_to {i : Int} (hs : a.length ≤ 100000) (h : 0 ≤ i) (q : Q (.str (SX.S (a.take i.toNat))) H) : rSl K (.str (SX.S a)) none (some i) H Q :=
  sl_s (small (by rw [SX.S_len]; exact hs)) (by rw [cut_toS h]; exact q)
theorem sl_from {i : Int} (hs : a.length ≤ 100000) (h : 0 ≤ i) (q : Q (.str (SX.S (a.drop i.toNat))) H) : rSl K (.str (SX.S a)) (some i) none H Q :=
  sl_s (small (by rw [SX.S_len]; exact hs)) (by rw [cut_fromS h]; exact q)
theorem joinL_nil : ∀ l : List (List Nat), TL.joinL [] l = l.flatten
  | [] => rfl
  | [p] => by simp [TL.joinL]
  | p :: q :: r => by
    show p ++ ([] ++ TL.joinL [] (q :: r)) = _
    rw [joinL_nil (q :: r), List.nil_append] <;> rfl
theorem join_0 {p : Addr} {ys : List (List Nat)} (h : H p = some (.lst ((ys.map SX.S).map V.str))) (hz : (ys.map (·.length)).sum ≤ 100000) (q : Q (.str (SX.S ys.flatten)) H) : rJoin K (.str (SX.S [])) [.ref p] H Q :=
  join_l h (by rw [SX.lens, SX.S_len]; simp only [List.length_nil, Nat.mul_zero]; omega) (by rw [SX.join_S, joinL_nil]; exact q)
end
/-! ### words -/
def lowL (cs : List Nat) : Bool := cs.all isLow
theorem wordS_S {cs : List Nat} : wordS (SX.S cs) = lowL cs := rfl
theorem abc_at : ∀ j : Nat, j < 52 → atI abcL ((j : Int) - 26) = some (97 + j % 26) := by decide +kernel
theorem abc_low : ∀ j : Nat, j < 26 → isLow (97 + j) = true := by decide +kernel
theorem lowL_app {a b : List Nat} : lowL (a ++ b) = (lowL a && lowL b) := List.all_append
theorem lowL_take {a : List Nat} {n : Nat} (h : lowL a = true) : lowL (a.take n) = true := List.all_eq_true.mpr fun c hc => List.all_eq_true.mp h c (List.mem_of_mem_take hc)
theorem lowL_drop {a : List Nat} {n : Nat} (h : lowL a = true) : lowL (a.drop n) = true := List.all_eq_true.mpr fun c hc => List.all_eq_true.mp h c (List.mem_of_mem_drop hc)
/-- the law's names -/
def nameK (l r : List Nat) (f k : Nat) : List Nat := l ++ (97 + (f + k) % 26) :: r
def namesK (l r : List Nat) (f n : Nat) : List (List Nat) := (List.range n).map (nameK l r f)
def nameL (cs : List Nat) : Bool := lowL cs && (decide (1 ≤ cs.length) && decide (cs.length ≤ 8))
theorem nameL_K {l r : List Nat} {f k : Nat} (h1 : lowL l = true) (h2 : lowL r = true) (h3 : l.length + r.length ≤ 7) : nameL (nameK l r f k) = true := by
  unfold nameL nameK
  have e : lowL (l ++ (97 + (f + k) % 26) :: r) = true := by
    rw [lowL_app, h1, Bool.true_and]
    show (isLow _ && lowL r) = true
    rw [h2, Bool.and_true]
    exact abc_low _ (Nat.mod_lt _ (by decide))
  rw [e, Bool.true_and, List.length_append, List.length_cons, decide_eq_true (by omega), decide_eq_true (by omega)]
  rfl
theorem nameS_S {cs : List Nat} : nameS (SX.S cs) = nameL cs := by unfold nameS nameL; rw [SX.S_len, wordS_S]
end PX

namespace K02
open PySem PySem.Spec PyProof.Rows L2 RZ PX
def topS (i : Nat) : Stmt := PySem.Challenge.pw_partjoins_k02_names_words_and_numbers.main.body.getD i (.Pass ⟨0, 0, 0, 0⟩)
section
variable {P : Program} {w : World} {K : PySem.W.Frag} {mg : Str → Option Value} {base : Heap}

/-! ### is_word -/
abbrev st_is_word : Stmt := topS 3
abbrev N_is_word : List Str := ["value", "sign"]
theorem sc_is_word : FnScope N_is_word ["value"] (defScope st_is_word) := ⟨rfl, rfl, rfl, by decide +kernel, rfl, by decide +kernel, by decide +kernel⟩
def sp_is_word (K : PySem.W.Frag) : Sp := sp (A1 (qD K)) (fun d => ∀ z, d = .str z → z.length ≤ 50000) (fun d => qB (wordD d))
theorem ok_is_word (S : Stood K mg "is_word" st_is_word) (z_isinstance : mg "isinstance" = none) (z_all : mg "all" = none) (z_str : mg "str" = none) (g_ALPHABET : ∃ u, mg "ALPHABET" = some u ∧ RelV (.str abcS) u) : Has P w K mg base "is_word" st_is_word 1 ["value"] (sp_is_word K) := by
  refine S.ok sc_is_word (sp_len A1_len) (fun _ _ _ _ _ _ us hl => match us, hl with | [_], _ => rfl) (fun f cdv A outer s H vs Q E hr h => ?_)
  obtain ⟨F, d, hF, ⟨v, rfl, hv⟩, hz, q⟩ := h
  refine ⟨_, (pss_one (ps_ret (pe_and (pe_callB (k_isi K) (by rfl) z_isinstance (by decide +kernel) (pa_cons (pv 0) (pa_cons (pe_bltn (v := .ty "str") (by rfl) z_str (by decide +kernel) rfl) pa_nil))) (pe_one (pe_callB (k_all K rfl) (by rfl) z_all (by decide +kernel) (pa_cons (pe_lc (own := [("sign", 1)]) rfl sc_is_word.nd (pi_any K (pv 0)) (blkOk_by (N := N_is_word) (sc := defScope st_is_word) (by decide +kernel)) (fun _ _ _ _ _ => (pg_name (i := 1) sc_is_word.nd rfl (Or.inl rfl))) (fun _ _ _ _ _ => pts_nil) (fun _ _ _ _ _ => (pe_cmpR (o_in K) (pv 1) (pe_gc (by rfl) g_ALPHABET) (by rfl)))) pa_nil)))))), ?_⟩
  refine ret_go (and_go (cb2 (var_go rfl (c_go (isi_d (dp_up hF hv) ?_)))))
  rcases str_or hv with ⟨z, rfl, rfl⟩ | e
  · refine and_t (cb1 (lc_go (any_s (var_go rfl (ws ?_)))))
    refine lc_map (b := none) (xs := z.cps.toList) (S := qB) isLow hF bagI_none wk_str (by have := hz z rfl; rw [sl_eq]; omega) (fun i x v F1 H1 hx it X1 B1 Qy k => ?_) (fun p F1 H1 us X1 B1 hp A => ?_)
    · obtain ⟨c, hc, rfl⟩ := it
      rw [hx] at hc
      cases hc
      exact ⟨rfl, op_go (var_go rfl (c_go (in_c (k _ _ _ (Ext.refl X1.fh) B1 rfl))))⟩
    · rw [AllR.bl A] at hp
      exact all_go (X1.fh _ _ hp) (q _ _ _ X1 (by show _ = _; rw [List.all_map]; rfl))
  · rw [e]
    refine and_f (q _ _ _ (Ext.refl hF) ?_)
    cases hv <;> first | rfl | cases e

/-! ### is_name -/
abbrev st_is_name : Stmt := topS 4
abbrev N_is_name : List Str := ["value"]
theorem sc_is_name : FnScope N_is_name ["value"] (defScope st_is_name) := ⟨rfl, rfl, rfl, by decide +kernel, rfl, by decide +kernel, by decide +kernel⟩
def sp_is_name (K : PySem.W.Frag) : Sp := sp (A1 (qD K)) (fun d => ∀ z, d = .str z → z.length ≤ 50000) (fun d => qB (nameD d))
theorem ok_is_name (S : Stood K mg "is_name" st_is_name) (z_len : mg "len" = none) (g_MOST_NAME : ∃ u, mg "MOST_NAME" = some u ∧ RelV (.int 8) u) (G_is_word : Has P w K mg base "is_word" st_is_word 1 ["value"] (sp_is_word K)) : Has P w K mg base "is_name" st_is_name 2 ["value"] (sp_is_name K) := by
  refine S.ok sc_is_name (sp_len A1_len) (fun _ _ _ _ _ _ us hl => match us, hl with | [_], _ => rfl) (fun f cdv A outer s H vs Q E hr h => ?_)
  obtain ⟨F, d, hF, ⟨v, rfl, hv⟩, hz, q⟩ := h
  refine ⟨_, (pss_one (ps_ret (pe_and (pe_has G_is_word (hr.mono (by decide)) (by rfl) (pa_cons (pv 0) pa_nil)) (pe_one (pe_chain o_le o_le pe_int (pe_callB (k_len K) (by rfl) z_len (by decide +kernel) (pa_cons (pv 0) pa_nil)) (pe_gc (by rfl) g_MOST_NAME)))))), ?_⟩
  refine ret_go (and_go (call1 (var_go rfl (sp_go hF ⟨v, rfl, hv⟩ hz fun v1 F1 H1 x1 h1 => ?_))))
  subst h1
  refine and_b (fun e => ?_) (fun e => ?_)
  · rcases str_or hv with ⟨z, rfl, rfl⟩ | e2
    · have hz := hz z rfl
      refine chain_go (c_go (cb1 (var_go rfl (len_s (small (by omega)) (le_i (ch_b (fun e1 => c_go (le_i (q _ _ _ x1 ?_))) (fun e1 => q _ _ _ x1 ?_)))))))
      · show V.bl _ = V.bl (nameS z)
        have e3 : (1 : Int) ≤ z.length := of_decide_eq_true e1
        unfold nameS
        rw [show wordS z = true from e, Bool.true_and, show decide (1 ≤ z.length) = true from decide_eq_true (by omega), Bool.true_and]
        congr 1
        exact decide_eq_decide.mpr (by omega)
      · show V.bl _ = V.bl (nameS z)
        have e3 : ¬ (1 : Int) ≤ z.length := of_decide_eq_false e1
        unfold nameS
        rw [show wordS z = true from e, Bool.true_and, show decide (1 ≤ z.length) = false from decide_eq_false (by omega)] <;> rfl
    · exfalso
      cases hv <;> first | cases e | cases e2
  · refine q _ _ _ x1 ?_
    show V.bl _ = V.bl (nameD d)
    cases hv <;> first
      | rfl
      | (show V.bl false = V.bl (nameS _)
         unfold nameS
         rw [show wordS _ = false from e] <;> rfl)

/-! ### is_number -/
abbrev st_is_number : Stmt := topS 5
abbrev N_is_number : List Str := ["value"]
theorem sc_is_number : FnScope N_is_number ["value"] (defScope st_is_number) := ⟨rfl, rfl, rfl, by decide +kernel, rfl, by decide +kernel, by decide +kernel⟩
def sp_is_number (K : PySem.W.Frag) : Sp := sp (A1 (qD K)) (fun _ => True) (fun d => qB (numD d))
theorem ok_is_number (S : Stood K mg "is_number" st_is_number) (z_isinstance : mg "isinstance" = none) (z_int : mg "int" = none) (z_bool : mg "bool" = none) : Has P w K mg base "is_number" st_is_number 1 ["value"] (sp_is_number K) := by
  refine S.ok sc_is_number (sp_len A1_len) (fun _ _ _ _ _ _ us hl => match us, hl with | [_], _ => rfl) (fun f cdv A outer s H vs Q E hr h => ?_)
  obtain ⟨F, d, hF, ⟨v, rfl, hv⟩, _, q⟩ := h
  refine ⟨_, (pss_one (ps_ret (pe_and (pe_callB (k_isi K) (by rfl) z_isinstance (by decide +kernel) (pa_cons (pv 0) (pa_cons (pe_bltn (v := .ty "int") (by rfl) z_int (by decide +kernel) rfl) pa_nil))) (pe_one (pe_not (pe_callB (k_isi K) (by rfl) z_isinstance (by decide +kernel) (pa_cons (pv 0) (pa_cons (pe_bltn (v := .ty "bool") (by rfl) z_bool (by decide +kernel) rfl) pa_nil)))))))), ?_⟩
  refine ret_go (and_go (cb2 (var_go rfl (c_go (isi_d (dp_up hF hv) (and_b (fun e => ?_) (fun e => ?_)))))))
  · refine not_go (cb2 (var_go rfl (c_go (isi_d (dp_up hF hv) (bl_go (q _ _ _ (Ext.refl hF) ?_))))))
    show V.bl _ = V.bl (numD d)
    unfold numD
    rw [e, Bool.true_and]
  · refine q _ _ _ (Ext.refl hF) ?_
    show V.bl _ = V.bl (numD d)
    unfold numD
    rw [e, Bool.false_and]

/-! ### law_draws -/
abbrev st_law_draws : Stmt := topS 7
abbrev N_law_draws : List Str := ["_law_script", "_law_seed", "_law_cell"]
theorem sc_law_draws : FnScope N_law_draws ["_law_script"] (defScope st_law_draws) := ⟨rfl, rfl, rfl, by decide +kernel, rfl, by decide +kernel, by decide +kernel⟩
/-- the script's bag, made -/
def sp_law_draws (K : PySem.W.Frag) : Sp := fun vs H Q _ => ∃ (F : Hp) (a : Addr) (ns : List Int), Ex F H ∧ vs = [.ref a] ∧ SqL K F a (ns.map V.int) ∧ ns.length ≤ 63 ∧
  ∀ b F' H', Ext none F H F' H' → H b = none → BagI (some b) F' H' → Q (.ref b) H'
theorem ok_law_draws (S : Stood K mg "_law_draws" st_law_draws) (z_list : mg "list" = none) (z_int : mg "int" = none) : Has P w K mg base "_law_draws" st_law_draws 1 ["_law_script"] (sp_law_draws K) := by
  refine S.ok sc_law_draws (fun vs H Q E ⟨F, a, ns, _, e, _⟩ => by rw [e]; rfl) (fun _ _ _ _ _ _ us hl => match us, hl with | [_], _ => rfl) (fun f cdv A outer s H vs Q E hr h => ?_)
  obtain ⟨F, a, ns, hF, rfl, hS, hn, q⟩ := h
  refine ⟨_, (pss_cons (ps_set (i := 1) sc_law_draws.nd rfl (.inl rfl) pe_int)
    (pss_cons (ps_for PassesOwn.never rfl (pi_any K (pe_slice (o_slice K) (pv 0) po_none (po_some pe_int))) (pg_name (i := 2) sc_law_draws.nd rfl (Or.inl rfl)) (pss_one (ps_set (i := 1) sc_law_draws.nd rfl (.inl rfl) (pe_op o_mod (pe_callTy k_int (by rfl) z_int (by decide +kernel) (pa_cons (pe_op (o_add K) (pe_op (o_add K) (pe_op o_mul (pv 1) pe_int) (pe_op o_mod (pe_callTy k_int (by rfl) z_int (by decide +kernel) (pa_cons (pv 2) pa_nil)) pe_int)) pe_int) pa_nil)) pe_int))))
    (pss_one (ps_ret (pe_lst (pa_cons (pe_callTy (k_list K) (by rfl) z_list (by decide +kernel) (pa_cons (pe_slice (o_slice K) (pv 0) po_none (po_some pe_int)) pa_nil)) (pa_cons pe_int (pa_cons pe_int (pa_cons (pv 1) (pa_cons pe_int pa_nil)))))))))), ?_⟩
  have ec : cutV (ns.map V.int) none (some 63) = ns.map V.int := by
    rw [show (63 : Int) = ((63 : Nat) : Int) from rfl, cut_to, List.take_of_length_le (by simpa using hn)]
  refine seq_go (asg_go (c_go (name_go (σ' := [some (.ref a), some (.int 5798), none]) rfl ?_)))
  refine seq_go (for_go (any_l (slice_go (var_go rfl (nopart (part (c_go (int_go (sl_lq (b := none) hF bagI_none (hF.sqL hS) fun p F1 H1 x1 _ hp => ?_)))))))))
  rw [ec] at hp
  refine wl (SqL.of (x1.fh _ _ hp)) ?_
  refine for_walk (b := none) (F := F1) (H := H1) (n := (ns.map V.int).length) (fun i σ F2 H2 => ∃ s y, σ = [some (.ref a), some (.int s), y] ∧ 0 ≤ s ∧ s < 2147483549 ∧ Ext none F1 H1 F2 H2) (wk_list hp) ⟨5798, none, rfl, by decide, by decide, Ext.refl x1.fh⟩ (fun i σ F2 H2 ⟨_, _, _, _, _, x⟩ => x) (fun i v σ F2 H2 F3 H3 hi hW x3 it N hN => ?_) (fun σ F2 H2 hW => ?_)
  · obtain ⟨s, y, rfl, s0, s1, x2⟩ := hW
    rw [List.getElem?_map] at it
    obtain ⟨z, _, rfl⟩ := Option.map_eq_some_iff.mp it
    refine name_go (σ' := [some (.ref a), some (.int s), some (.int z)]) rfl ?_
    refine asg_go (op_go (cb1 (op_go (op_go (op_go (var_go rfl (c_go (mul_r (by decide) (by decide) (op_go (cb1 (var_go rfl (int_i (c_go (mod_i (by first | decide | omega) (add_i (c_go (add_i (int_i (c_go (mod_i (by first | decide | omega) (name_go rfl (hN _ _ _ ⟨_, _, rfl, ?_, ?_, x2.trans x3⟩))))))))))))))))))))))
    · exact Int.emod_nonneg _ (by decide)
    · exact Int.emod_lt_of_pos _ (by decide)
  · obtain ⟨s, y, rfl, s0, s1, x2⟩ := hW
    have X2 := x1.trans x2
    refine ret_go (lst_go (acons (cb1 (slice_go (var_go rfl (nopart (part (c_go (int_go (sl_lq (b := none) X2.fh bagI_none (Ex.sqL (X2.ff.trans X2.fh) hS) fun p4 F4 H4 x4 _ hp4 => ?_))))))))))
    rw [ec] at hp4
    refine ⟨p4, _, rfl, .inl (SqL.of (x4.fh _ _ hp4)), fun l hl => ?_⟩
    refine acons (c_go (acons (c_go (acons (var_go rfl (acons (c_go (anil ⟨sz rfl, fun b hb => ?_⟩))))))))
    have x5 : Ext none F4 H4 (upd F4 l (.lst (ns.map V.int))) (upd H4 l (.lst (ns.map V.int))) := Ext.lay x4.fh hl
    have X5 := (X2.trans x4).trans x5
    have hb4 : H4 b = none := Same.free (Ex.new hl) hb
    refine q b _ _ (X5.trans (Ext.own X5.fh hb)) (X5.back hb) (fun a' e => ?_)
    cases e
    exact ⟨Same.free X5.fh hb, l, ns, 0, 0, s, 0, upd_same, upd_same, by decide, hn, by decide, s0, s1⟩

/-! ### law_pull -/
abbrev st_law_pull : Stmt := topS 8
abbrev N_law_pull : List Str := ["_law_bag", "_law_sides", "_law_seed", "_law_cell", "_law_digit"]
theorem sc_law_pull : FnScope N_law_pull ["_law_bag", "_law_sides"] (defScope st_law_pull) := ⟨rfl, rfl, rfl, by decide +kernel, rfl, by decide +kernel, by decide +kernel⟩
/-- a draw: any number below the sides -/
def sp_law_pull (K : PySem.W.Frag) : Sp := spB (A1 qI) (fun n => 1 ≤ n ∧ n < 1073741824) (fun n v _ => ∃ d : Int, 0 ≤ d ∧ d < n ∧ v = .int d)
theorem ok_law_pull (S : Stood K mg "_law_pull" st_law_pull) (z_len : mg "len" = none) (z_int : mg "int" = none) : Has P w K mg base "_law_pull" st_law_pull 1 ["_law_bag", "_law_sides"] (sp_law_pull K) := by
  refine S.ok sc_law_pull (spB_len A1_len) (fun _ _ _ _ _ _ us hl => match us, hl with | [_, _], _ => rfl) (fun f cdv A outer s H vs Q E hr h => ?_)
  obtain ⟨F, b, ws, n, rfl, hF, B, ⟨_, rfl, rfl⟩, ⟨n1, n2⟩, q⟩ := h
  refine ⟨_, (pss_cons (ps_asg (pe_op (o_add K) (pe_ix (k_ix K) (pv 0) pe_int (fun _ _ => rfl)) pe_int) (pg_sub (pv 0) pe_int set_list))
    (Evl.pss_cut (ps_if (PW.pt (pw_and (pt_cmpR (o_eq K hr.units) (pe_ix (k_ix K) (pv 0) pe_int (fun _ _ => rfl)) pe_int (nomark _)) (pw_and1 (pt_cmpR o_lt (pe_ix (k_ix K) (pv 0) pe_int (fun _ _ => rfl)) (pe_callB (k_len K) (by rfl) z_len (by decide +kernel) (pa_cons (pe_ix (k_ix K) (pv 0) pe_int (fun _ _ => rfl)) pa_nil)) (nomark _))))) (pss_cons (ps_asg (pe_tup (pa_cons (pe_ix (k_ix K) (pe_ix (k_ix K) (pv 0) pe_int (fun _ _ => rfl)) (pe_ix (k_ix K) (pv 0) pe_int (fun _ _ => rfl)) (fun _ _ => rfl)) (pa_cons (pe_op (o_add K) (pe_ix (k_ix K) (pv 0) pe_int (fun _ _ => rfl)) pe_int) pa_nil))) (k_tup K (n := 2) rfl (pgs_cons (pg_name (i := 3) sc_law_pull.nd rfl (Or.inl rfl)) (pgs_cons (pg_sub (pv 0) pe_int set_list) pgs_nil))))
    (pss_cons (ps_if (pt_cmpR o_ge (pv 3) (pe_op o_pow pe_int pe_int) (nomark _)) (pss_one (ps_asg (pv 3) (pg_sub (pv 0) pe_int set_list))) pss_nil)
    (pss_one (ps_asg (pe_op o_mod (pe_callTy k_int (by rfl) z_int (by decide +kernel) (pa_cons (pe_op (o_add K) (pe_op (o_add K) (pe_op o_mul (pe_ix (k_ix K) (pv 0) pe_int (fun _ _ => rfl)) pe_int) (pe_op o_mul (pe_op o_mod (pe_callTy k_int (by rfl) z_int (by decide +kernel) (pa_cons (pv 3) pa_nil)) pe_int) pe_int)) pe_int) pa_nil)) pe_int) (pg_sub (pv 0) pe_int set_list))))) pss_nil)
    (pss_cons (ps_if (pt_cmpR o_gt (pe_ix (k_ix K) (pv 0) pe_int (fun _ _ => rfl)) pe_int (nomark _)) (pss_cons (ps_asg (pe_tup (pa_cons (pe_op o_mod (pe_callTy k_int (by rfl) z_int (by decide +kernel) (pa_cons (pe_ix (k_ix K) (pv 0) pe_int (fun _ _ => rfl)) pa_nil)) (pv 1)) (pa_cons (pe_op o_fdiv (pe_ix (k_ix K) (pv 0) pe_int (fun _ _ => rfl)) (pv 1)) pa_nil))) (k_tup K (n := 2) rfl (pgs_cons (pg_name (i := 4) sc_law_pull.nd rfl (Or.inl rfl)) (pgs_cons (pg_sub (pv 0) pe_int set_list) pgs_nil))))
    (pss_one (ps_ret (pv 4)))) pss_nil)
    (pss_cons (ps_set (i := 2) sc_law_pull.nd rfl (.inl rfl) (pe_ix (k_ix K) (pv 0) pe_int (fun _ _ => rfl)))
    (pss_cons (ps_asg (pe_op o_mod (pe_callTy k_int (by rfl) z_int (by decide +kernel) (pa_cons (pe_op (o_add K) (pe_op (o_add K) (pe_op (o_add K) (pe_op o_pow (pv 2) pe_int) (pe_op o_mul (pv 2) pe_int)) (pe_op o_mul (pe_ix (k_ix K) (pv 0) pe_int (fun _ _ => rfl)) pe_int)) pe_int) pa_nil)) pe_int) (pg_sub (pv 0) pe_int set_list))
    (pss_one (ps_ret (pe_op o_mod (pe_callTy k_int (by rfl) z_int (by decide +kernel) (pa_cons (pe_op (o_add K) (pe_op o_fdiv (pe_ix (k_ix K) (pv 0) pe_int (fun _ _ => rfl)) pe_int) (pe_op o_mul (pe_op o_mod (pe_callTy k_int (by rfl) z_int (by decide +kernel) (pa_cons (pe_ix (k_ix K) (pv 0) pe_int (fun _ _ => rfl)) pa_nil)) pe_int) pe_int)) pa_nil)) (pv 1))))))))), ?_⟩
  obtain ⟨nF, l, ns, i, r, s, c, hb, hl, i0, hn, r0, s0, s1⟩ := B b rfl
  -- the counter
  refine seq_go <| asg_go (op_go (op_go (var_go rfl (c_go (ix_l (j := 4) hb rfl (c_go (add_i (sub_go <| var_go rfl <| c_go <| setb (j := 4) hb nF hF (by simp) fun H1 x1 hb1 => ?_))))))))
  have hl1 : H1 l = some (.lst (ns.map V.int)) := x1.fh _ _ hl
  have done : ∀ (d : Int) (r' s' c' i' : Int) (H' : Hp), Ext (some b) F H F H' → H' b = some (.lst [.ref l, .int i', .int r', .int s', .int c']) → 0 ≤ i' → 0 ≤ r' → 0 ≤ s' → s' < 2147483549 → 0 ≤ d → d < n → Q (.int d) H' := fun d r' s' c' i' H' x h z1 z2 z3 z4 d0 d1 =>
    q _ F H' x (fun a e => by cases e; exact ⟨nF, l, ns, i', r', s', c', h, hl, z1, hn, z2, z3, z4⟩) ⟨d, d0, d1, rfl⟩
  refine cut_go (M := fun σ' H' => ∃ y2 y3 y4 r' s' c' i', σ' = [some (.ref b), some (.int n), y2, y3, y4] ∧ Ext (some b) F H F H' ∧ H' b = some (.lst [.ref l, .int i', .int r', .int s', .int c']) ∧ 0 ≤ i' ∧ 0 ≤ r' ∧ 0 ≤ s' ∧ s' < 2147483549) ?_ ?_
  · refine if_go <| tand_go <| test_go (op_go (op_go (var_go rfl (c_go (ix_l (j := 2) hb1 rfl (c_go (eq_i (bl_go <| tand_b (fun e => ?_) fun e => if_b (fun e => by cases e) fun _ => next_go ⟨none, none, none, r, s, c + 1, i, rfl, x1, hb1, i0, r0, s0, s1⟩))))))))
    refine test_go <| op_go <| op_go <| var_go rfl <| c_go <| ix_l (j := 1) hb1 rfl <| cb1 <| op_go <| var_go rfl <| c_go <| ix_l (j := 0) hb1 rfl <| len_l hl1 <| lt_i <| bl_go <| if_b (fun e2 => ?_) fun _ => next_go ⟨none, none, none, r, s, c + 1, i, rfl, x1, hb1, i0, r0, s0, s1⟩
    have hi : i.toNat < ns.length := by have := of_decide_eq_true e2; rw [List.length_map] at this; omega
    have ei : i = ((i.toNat : Nat) : Int) := by omega
    -- the cell
    refine seq_go <| asg_go <| tup2 <| op_go <| op_go <| var_go rfl <| c_go <| ix_l (j := 0) hb1 rfl <| op_go <| var_go rfl <| c_go <| ix_l (j := 1) hb1 rfl ?_
    rw [show V.int i = V.int ((i.toNat : Nat) : Int) from congrArg V.int ei]
    refine ix_l (v := .int ns[i.toNat]) hl1 (by rw [List.getElem?_map, List.getElem?_eq_getElem hi] <;> rfl) <| op_go <| op_go <| var_go rfl <| c_go <| ix_l (j := 1) hb1 rfl <| c_go <| add_i ⟨sz rfl, fun t ht => ?_⟩
    have x2 : Ext (some b) F H1 F (upd H1 t (.tup [.int ns[i.toNat], .int (i + 1)])) := Ext.own x1.fh ht
    generalize hH2 : upd H1 t (.tup [.int ns[i.toNat], .int (i + 1)]) = H2 at *
    have ht2 : H2 t = some (.tup [.int ns[i.toNat], .int (i + 1)]) := by rw [← hH2]; exact upd_same
    have hb2 : H2 b = some (.lst [.ref l, .int i, .int r, .int s, .int (c + 1)]) := by rw [← hH2, upd_ne (ne_of_none hb1 ht)]; exact hb1
    refine tup_go ht2 rfl <| cons_go <| name_go (σ' := [some (.ref b), some (.int n), none, some (.int ns[i.toNat]), none]) rfl <| cons_go <| sub_go <| var_go rfl <| c_go <| setb (j := 1) hb2 nF x2.fh (by simp) fun H3 x3 hb3 => nil_go ?_
    have X3 := (x1.trans x2).trans x3
    refine seq_go <| if_go <| test_go (op_go (var_go rfl (op_go (c_go (c_go (pow_i (n := 18) (by decide) (by first | decide | omega) (ge_i (bl_go <| if_b (fun e3 => ?_) fun _ => next_go ?_))))))))
    · refine asg_go <| var_go rfl <| sub_go <| var_go rfl <| c_go <| setb (j := 2) hb3 nF x3.fh (by simp) fun H4 x4 hb4 => ?_
      have e4 := of_decide_eq_true e3
      refine asg_go (op_go (cb1 (op_go (op_go (op_go (op_go (var_go rfl (c_go (ix_l (j := 3) hb4 rfl (c_go (mul_r (by decide) (by decide) (op_go (op_go (cb1 (var_go rfl (int_i (c_go (mod_i (by first | decide | omega) (c_go (mul_r (by decide) (by decide) (add_i (c_go (add_i (int_i (c_go (mod_i (by first | decide | omega) (sub_go <| var_go rfl <| c_go <| setb (j := 3) hb4 nF x4.fh (by simp) fun H5 x5 hb5 => ?_)))))))))))))))))))))))))))
      exact ⟨none, _, none, ns[i.toNat], _, c + 1, i + 1, rfl, (X3.trans x4).trans x5, hb5, by omega, by omega, Int.emod_nonneg _ (by decide), Int.emod_lt_of_pos _ (by decide)⟩
    · refine asg_go (op_go (cb1 (op_go (op_go (op_go (op_go (var_go rfl (c_go (ix_l (j := 3) hb3 rfl (c_go (mul_r (by decide) (by decide) (op_go (op_go (cb1 (var_go rfl (int_i (c_go (mod_i (by first | decide | omega) (c_go (mul_r (by decide) (by decide) (add_i (c_go (add_i (int_i (c_go (mod_i (by first | decide | omega) (sub_go <| var_go rfl <| c_go <| setb (j := 3) hb3 nF x3.fh (by simp) fun H5 x5 hb5 => ?_)))))))))))))))))))))))))))
      exact ⟨none, _, none, r, _, c + 1, i + 1, rfl, X3.trans x5, hb5, by omega, r0, Int.emod_nonneg _ (by decide), Int.emod_lt_of_pos _ (by decide)⟩
  · rintro σ' H2 ⟨y2, y3, y4, r, s, c, i, rfl, x2, hb2, i0, r0, s0, s1⟩
    refine seq_go <| if_go <| test_go (op_go (op_go (var_go rfl (c_go (ix_l (j := 2) hb2 rfl (c_go (gt_i (bl_go <| if_b (fun e => ?_) fun _ => next_go ?_))))))))
    · refine seq_go <| asg_go <| tup2 (op_go (cb1 (op_go (var_go rfl (c_go (ix_l (j := 2) hb2 rfl (int_i (var_go rfl (mod_i (by first | decide | omega) (op_go (op_go (var_go rfl (c_go (ix_l (j := 2) hb2 rfl (var_go rfl (fdiv_i (by first | decide | omega) (by first | decide | omega) ⟨sz rfl, fun t ht => ?_⟩))))))))))))))))
      have x3 : Ext (some b) F H2 F (upd H2 t (.tup [.int (r % n), .int (r / n)])) := Ext.own x2.fh ht
      generalize hH3 : upd H2 t (.tup [.int (r % n), .int (r / n)]) = H3 at *
      have ht3 : H3 t = some (.tup [.int (r % n), .int (r / n)]) := by rw [← hH3]; exact upd_same
      have hb3 : H3 b = some (.lst [.ref l, .int i, .int r, .int s, .int c]) := by rw [← hH3, upd_ne (ne_of_none hb2 ht)]; exact hb2
      refine tup_go ht3 rfl <| cons_go <| name_go (σ' := [some (.ref b), some (.int n), y2, y3, some (.int (r % n))]) rfl <| cons_go <| sub_go <| var_go rfl <| c_go <| setb (j := 2) hb3 nF x3.fh (by simp) fun H4 x4 hb4 => nil_go ?_
      refine ret_go <| var_go rfl <| done _ _ s c i H4 ((x2.trans x3).trans x4) hb4 i0 (Int.ediv_nonneg r0 (by omega)) s0 s1 (Int.emod_nonneg _ (by omega)) (Int.emod_lt_of_pos _ (by omega))
    · refine seq_go <| asg_go (op_go (var_go rfl (c_go (ix_l (j := 3) hb2 rfl (name_go (σ' := [some (.ref b), some (.int n), some (.int s), y3, y4]) rfl ?_)))))
      refine seq_go <| asg_go (op_go (cb1 (op_go (op_go (op_go (op_go (var_go rfl (c_go (pow_i (n := 3) (by decide) (by first | decide | omega) (op_go (var_go rfl (c_go (mul_r (by decide) (by decide) (add_i (op_go (op_go (var_go rfl (c_go (ix_l (j := 4) hb2 rfl (c_go (mul_r (by decide) (by decide) (add_i (c_go (add_i (int_i (c_go (mod_i (by first | decide | omega) (sub_go <| var_go rfl <| c_go <| setb (j := 3) hb2 nF x2.fh (by simp) fun H3 x3 hb3 => ?_))))))))))))))))))))))))))))
      have hs : 0 ≤ (s ^ 3 + s * 39113 + c * 1299721 + 70003) % 2147483549 := Int.emod_nonneg _ (by decide)
      have hs' : (s ^ 3 + s * 39113 + c * 1299721 + 70003) % 2147483549 < 2147483549 := Int.emod_lt_of_pos _ (by decide)
      refine ret_go (op_go (cb1 (op_go (op_go (op_go (var_go rfl (c_go (ix_l (j := 3) hb3 rfl (c_go (fdiv_i (by first | decide | omega) (by first | decide | omega) (op_go (op_go (cb1 (op_go (var_go rfl (c_go (ix_l (j := 3) hb3 rfl (int_i (c_go (mod_i (by first | decide | omega) (c_go (mul_r (by decide) (by decide) (add_i (int_i (var_go rfl (mod_i (by first | decide | omega) (done _ r _ c i H3 (x2.trans x3) hb3 i0 r0 hs hs' (Int.emod_nonneg _ (by omega)) (Int.emod_lt_of_pos _ (by omega)))))))))))))))))))))))))))))

/-! ### law_any -/
abbrev st_law_any : Stmt := topS 9
abbrev N_law_any : List Str := ["_law_bag", "_law_rows"]
theorem sc_law_any : FnScope N_law_any ["_law_bag", "_law_rows"] (defScope st_law_any) := ⟨rfl, rfl, rfl, by decide +kernel, rfl, by decide +kernel, by decide +kernel⟩
/-- a drawn item of a list or of a text: one of its values -/
def sp_law_any (K : PySem.W.Frag) : Sp := fun vs H Q _ => ∃ (F : Hp) (b : Addr) (u : V), vs = [.ref b, u] ∧ Ex F H ∧ BagI (some b) F H ∧
  ((∃ (p : Addr) (xs : List V), u = .ref p ∧ F p = some (.lst xs) ∧ 0 < xs.length ∧ xs.length < 100000 ∧ ∀ v F' H', v ∈ xs → Ext (some b) F H F' H' → BagI (some b) F' H' → Q v H') ∨
   (∃ cs : List Nat, u = .str (SX.S cs) ∧ 0 < cs.length ∧ cs.length < 100000 ∧ ∀ c F' H', c ∈ cs → Ext (some b) F H F' H' → BagI (some b) F' H' → Q (.str (SX.S [c])) H'))
theorem any_go_l {K : PySem.W.Frag} {F H : Hp} {b p : Addr} {xs : List V} {Q : VK} (hF : Ex F H) (B : BagI (some b) F H) (hp : F p = some (.lst xs)) (h0 : 0 < xs.length) (h1 : xs.length < 100000)
    (q : ∀ v F' H', v ∈ xs → Ext (some b) F H F' H' → BagI (some b) F' H' → Q v H') : sp_law_any K [.ref b, .ref p] H Q E0 := ⟨F, b, _, rfl, hF, B, .inl ⟨p, xs, rfl, hp, h0, h1, q⟩⟩
theorem any_go_s {K : PySem.W.Frag} {F H : Hp} {b : Addr} {cs : List Nat} {Q : VK} (hF : Ex F H) (B : BagI (some b) F H) (h0 : 0 < cs.length) (h1 : cs.length < 100000)
    (q : ∀ c F' H', c ∈ cs → Ext (some b) F H F' H' → BagI (some b) F' H' → Q (.str (SX.S [c])) H') : sp_law_any K [.ref b, .str (SX.S cs)] H Q E0 := ⟨F, b, _, rfl, hF, B, .inr ⟨cs, rfl, h0, h1, q⟩⟩
theorem ok_law_any (S : Stood K mg "_law_any" st_law_any) (z_len : mg "len" = none) (G_law_pull : Has P w K mg base "_law_pull" st_law_pull 1 ["_law_bag", "_law_sides"] (sp_law_pull K)) : Has P w K mg base "_law_any" st_law_any 2 ["_law_bag", "_law_rows"] (sp_law_any K) := by
  refine S.ok sc_law_any (fun vs H Q E ⟨F, b, u, e, _⟩ => by rw [e]; rfl) (fun _ _ _ _ _ _ us hl => match us, hl with | [_, _], _ => rfl) (fun f cdv A outer s H vs Q E hr h => ?_)
  obtain ⟨F, b, u, rfl, hF, B, h⟩ := h
  refine ⟨_, (pss_one (ps_ret (pe_ix (k_ix K) (pv 1) (pe_has G_law_pull (hr.mono (by decide)) (by rfl) (pa_cons (pv 0) (pa_cons (pe_callB (k_len K) (by rfl) z_len (by decide +kernel) (pa_cons (pv 1) pa_nil)) pa_nil))) (fun _ _ => rfl)))), ?_⟩
  refine ret_go <| op_go <| var_go rfl <| call2 <| var_go rfl <| cb1 <| var_go rfl ?_
  rcases h with ⟨p, xs, rfl, hp, h0, h1, q⟩ | ⟨cs, rfl, h0, h1, q⟩
  · refine len_l (hF _ _ hp) <| spB_go hF B ⟨_, rfl, rfl⟩ ⟨by omega, by omega⟩ fun v F' H' x' B' hv => ?_
    obtain ⟨d, d0, d1, rfl⟩ := hv
    have hi : d.toNat < xs.length := by omega
    rw [show V.int d = V.int ((d.toNat : Nat) : Int) from congrArg V.int (by omega)]
    exact ix_l (x'.fh _ _ (x'.ff _ _ hp)) (List.getElem?_eq_getElem hi) (q _ _ _ (List.getElem_mem hi) x' B')
  · refine len_S (by omega) <| spB_go hF B ⟨_, rfl, rfl⟩ ⟨by omega, by omega⟩ fun v F' H' x' B' hv => ?_
    obtain ⟨d, d0, d1, rfl⟩ := hv
    have hi : d.toNat < cs.length := by omega
    rw [show V.int d = V.int ((d.toNat : Nat) : Int) from congrArg V.int (by omega)]
    exact ix_s (small (by rw [SX.S_len]; omega)) (List.getElem?_eq_getElem hi) (q _ _ _ (List.getElem_mem hi) x' B')

/-! ### law_like -/
abbrev st_law_like : Stmt := topS 10
abbrev N_law_like : List Str := ["_law_a", "_law_b", "_law_same", "_law_c", "_law_d"]
theorem sc_law_like : FnScope N_law_like ["_law_a", "_law_b"] (defScope st_law_like) := ⟨rfl, rfl, rfl, by decide +kernel, rfl, by decide +kernel, by decide +kernel⟩
/-- equal plain data, less deep than n -/
def sp_like (K : PySem.W.Frag) (n : Nat) : Sp := fun vs H Q _ => ∃ (F : Hp) (v u : V) (d : PyData), Ex F H ∧ vs = [v, u] ∧ Dp K F v d ∧ Dp K F u d ∧ depD d < n ∧ fitD d = true ∧ ∀ F' H', Ext none F H F' H' → Q (.bl true) H'
def sp_law_like (K : PySem.W.Frag) : Sp := sp_like K 9
theorem like_step (S : Stood K mg "_law_like" st_law_like) (z_isinstance : mg "isinstance" = none) (z_list : mg "list" = none) (z_tuple : mg "tuple" = none) (z_bool : mg "bool" = none) (z_int : mg "int" = none) (z_str : mg "str" = none) (z_len : mg "len" = none) (z_all : mg "all" = none) (z_zip : mg "zip" = none) (n : Nat) (G_law_like : Has P w K mg base "_law_like" st_law_like n ["_law_a", "_law_b"] (sp_like K n)) : Has P w K mg base "_law_like" st_law_like (n + 1) ["_law_a", "_law_b"] (sp_like K (n + 1)) := by
  refine S.ok sc_law_like (fun vs H Q E ⟨F, v, u, d, _, e, _⟩ => by rw [e]; rfl) (fun _ _ _ _ _ _ us hl => match us, hl with | [_, _], _ => rfl) (fun f cdv A outer s H vs Q E hr h => ?_)
  obtain ⟨F, v, u, d, hF, rfl, hv, hu, hn, hf, q⟩ := h
  refine ⟨_, (pss_cons (ps_if (pt_val (pe_callB (k_isiT K) (by rfl) z_isinstance (by decide +kernel) (pa_cons (pv 1) (pa_cons (pe_tup (pa_cons (pe_bltn (v := .ty "list") (by rfl) z_list (by decide +kernel) rfl) (pa_cons (pe_bltn (v := .ty "tuple") (by rfl) z_tuple (by decide +kernel) rfl) pa_nil))) pa_nil)))) (pss_cons (ps_set (i := 2) sc_law_like.nd rfl (.inl rfl) (pe_and (pe_cmpR (o_eq K hr.units) (pe_callB (k_isi K) (by rfl) z_isinstance (by decide +kernel) (pa_cons (pv 0) (pa_cons (pe_bltn (v := .ty "list") (by rfl) z_list (by decide +kernel) rfl) pa_nil))) (pe_callB (k_isi K) (by rfl) z_isinstance (by decide +kernel) (pa_cons (pv 1) (pa_cons (pe_bltn (v := .ty "list") (by rfl) z_list (by decide +kernel) rfl) pa_nil))) (nomark _)) (pe_one (pe_cmpR (o_eq K hr.units) (pe_callB (k_isi K) (by rfl) z_isinstance (by decide +kernel) (pa_cons (pv 0) (pa_cons (pe_bltn (v := .ty "tuple") (by rfl) z_tuple (by decide +kernel) rfl) pa_nil))) (pe_callB (k_isi K) (by rfl) z_isinstance (by decide +kernel) (pa_cons (pv 1) (pa_cons (pe_bltn (v := .ty "tuple") (by rfl) z_tuple (by decide +kernel) rfl) pa_nil))) (nomark _)))))
    (pss_one (ps_ret (k_andT K (pv 2) (k_andT K (pe_cmpR (o_eq K hr.units) (pe_callB (k_len K) (by rfl) z_len (by decide +kernel) (pa_cons (pv 0) pa_nil)) (pe_callB (k_len K) (by rfl) z_len (by decide +kernel) (pa_cons (pv 1) pa_nil)) (nomark _)) (pe_one (pe_callB (k_all K rfl) (by rfl) z_all (by decide +kernel) (pa_cons (pe_lc (own := [("_law_c", 3), ("_law_d", 4)]) rfl sc_law_like.nd (i_zip K (by rfl) z_zip (pa_cons (pv 0) (pa_cons (pv 1) pa_nil))) (blkOk_by (N := N_law_like) (sc := defScope st_law_like) (by decide +kernel)) (fun _ _ _ _ _ => (k_tup K (n := 2) rfl (pgs_cons (pg_name (i := 3) sc_law_like.nd rfl (Or.inl rfl)) (pgs_cons (pg_name (i := 4) sc_law_like.nd rfl (Or.inl rfl)) pgs_nil)))) (fun _ _ _ _ _ => pts_nil) (fun _ _ _ _ _ => (pe_has G_law_like hr (by rfl) (pa_cons (pv 3) (pa_cons (pv 4) pa_nil))))) pa_nil)))))))) pss_nil)
    (pss_cons (ps_if (PW.pt (pw_or (pt_cmpR op_isN1 (pv 0) pe_non (nomark _)) (pw_or (pt_cmpR op_isN1 (pv 1) pe_non (nomark _)) (pw_or1 (pt_cmpR (o_ne K hr.units) (pe_callB (k_isi K) (by rfl) z_isinstance (by decide +kernel) (pa_cons (pv 0) (pa_cons (pe_bltn (v := .ty "bool") (by rfl) z_bool (by decide +kernel) rfl) pa_nil))) (pe_callB (k_isi K) (by rfl) z_isinstance (by decide +kernel) (pa_cons (pv 1) (pa_cons (pe_bltn (v := .ty "bool") (by rfl) z_bool (by decide +kernel) rfl) pa_nil))) (nomark _)))))) (pss_one (ps_ret (pe_and (pe_cmpR op_isN1 (pv 0) pe_non (nomark _)) (pe_one (pe_cmpR op_isN1 (pv 1) pe_non (nomark _)))))) pss_nil)
    (pss_one (ps_ret (pe_and (pe_cmpR (o_eq K hr.units) (pe_callB (k_isi K) (by rfl) z_isinstance (by decide +kernel) (pa_cons (pv 0) (pa_cons (pe_bltn (v := .ty "int") (by rfl) z_int (by decide +kernel) rfl) pa_nil))) (pe_callB (k_isi K) (by rfl) z_isinstance (by decide +kernel) (pa_cons (pv 1) (pa_cons (pe_bltn (v := .ty "int") (by rfl) z_int (by decide +kernel) rfl) pa_nil))) (nomark _)) (pe_and (pe_cmpR (o_eq K hr.units) (pe_callB (k_isi K) (by rfl) z_isinstance (by decide +kernel) (pa_cons (pv 0) (pa_cons (pe_bltn (v := .ty "str") (by rfl) z_str (by decide +kernel) rfl) pa_nil))) (pe_callB (k_isi K) (by rfl) z_isinstance (by decide +kernel) (pa_cons (pv 1) (pa_cons (pe_bltn (v := .ty "str") (by rfl) z_str (by decide +kernel) rfl) pa_nil))) (nomark _)) (pe_one (pe_cmpR (o_eq K hr.units) (pv 0) (pv 1) (nomark _))))))))), ?_⟩
  refine seq_go <| if_go <| tB_go <| cb2 <| var_go rfl <| tup2 <| c_go <| c_go ⟨sz rfl, fun p hp => isi_d2 (dp_up (hF.trans (Ex.new hp)) hu) upd_same <| bl_go <| if_b (fun e => ?_) fun e => ?_⟩
  · -- a list, a tuple
    have x0 : Ext none F H F (upd H p (.tup [.ty "list", .ty "tuple"])) := Ext.own hF hp
    generalize upd H p (.tup [.ty "list", .ty "tuple"]) = H0 at *
    have hF0 := x0.fh
    refine seq_go <| asg_go <| and_go <| op_go <| cb2 <| var_go rfl <| c_go <| isi_d (dp_up hF0 hv) <| cb2 <| var_go rfl <| c_go <| isi_d (dp_up hF0 hu) <| eq_b ?_
    rw [decide_eq_true rfl]
    refine and_t <| op_go <| cb2 <| var_go rfl <| c_go <| isi_d (dp_up hF0 hv) <| cb2 <| var_go rfl <| c_go <| isi_d (dp_up hF0 hu) <| eq_b ?_
    rw [decide_eq_true rfl]
    refine name_go (σ' := [some v, some u, some (.bl true), none, none]) rfl <| ret_go <| andT_go <| var_go rfl <| andT_b (fun _ => ?_) fun e => by cases e
    have fin : ∀ (xs ys : List V) (ds : List PyData) (J : It), depDs ds < n → fitDs ds = true → ds.length < 100000 → DpAll K F xs ds → DpAll K F ys ds →
        Wk none F H0 J ds.length (fun i v F2 => ∃ T x y, v = .ref T ∧ F2 T = some (.tup [x, y]) ∧ xs[i]? = some x ∧ ys[i]? = some y) →
        LcG J (gTup K 2 (gCons (gName 3) (gCons (gName 4) gNil))) tYes (tCall (sp_like K n) [] E0 (tCons (tVar 3) (tCons (tVar 4) tNil))) [3, 4] [some v, some u, some (.bl true), none, none] (fun x H1 => rAll K [x] H1 Q) H0 := by
      intro xs ys ds J hd hfs hz h1 h2 w
      refine lc_map (b := none) (S := qB) (xs := ds) (fun _ => true) hF0 bagI_none w hz (fun i d z F1 H1 hx it X1 B1 Qy k => ?_) (fun p F1 H1 us X1 B1 hp A => ?_)
      · obtain ⟨T, x, y, rfl, hT, gx, gy⟩ := it
        have dx : Dp K F x d := dpAll_get h1 gx hx
        have dy : Dp K F y d := dpAll_get h2 gy hx
        have hm : d ∈ ds := List.mem_of_getElem? hx
        refine tup_go (X1.fh _ _ hT) rfl <| cons_go <| name_go (σ' := [some v, some u, some (.bl true), some x, none]) rfl <| cons_go <| name_go (σ' := [some v, some u, some (.bl true), some x, some y]) rfl <| nil_go ⟨rfl, ?_⟩
        exact call2 <| var_go rfl <| var_go rfl ⟨F1, x, y, d, X1.fh, rfl, dp_up X1.ff dx, dp_up X1.ff dy, by have := depDs_mem hm; omega, fitDs_mem hfs hm, fun F2 H2 x2 => k _ _ _ x2 bagI_none rfl⟩
      · rw [AllR.bl A] at hp
        refine all_go (X1.fh _ _ hp) ?_
        rw [List.all_map, show (ds.all (id ∘ fun _ => true)) = true from List.all_eq_true.mpr fun _ _ => rfl]
        exact q _ _ (x0.trans X1)
    cases hv with
    | lst hv1 hv2 =>
      cases hu with
      | lst hu1 hu2 =>
        rename_i a1 xs ds a2 ys
        have hf2 : (decide (ds.length < 100000) && fitDs ds) = true := hf
        rw [Bool.and_eq_true] at hf2
        have hz := of_decide_eq_true hf2.1
        have hd : depDs ds + 1 < n + 1 := hn
        have l1 := dpAll_len hv2
        have l2 := dpAll_len hu2
        refine andT_go <| op_go <| cb1 <| var_go rfl <| len_lq (Ex.sqL hF0 hv1) <| cb1 <| var_go rfl <| len_lq (Ex.sqL hF0 hu1) <| eq_i ?_
        rw [l1, l2, decide_eq_true rfl]
        refine andT_b (fun _ => ?_) fun e => by cases e
        exact cb1 <| lc_go <| zip_go <| var_go rfl <| var_go rfl <| zip_l (Ex.sqL hF0 hv1) (Ex.sqL hF0 hu1) <| fin _ _ _ _ (by omega) hf2.2 hz hv2 hu2 (wk_zip hv1 hu1 (by omega))
    | tup hv1 hv2 =>
      cases hu with
      | tup hu1 hu2 =>
        rename_i a1 xs ds a2 ys
        have hf2 : (decide (ds.length < 100000) && fitDs ds) = true := hf
        rw [Bool.and_eq_true] at hf2
        have hz := of_decide_eq_true hf2.1
        have hd : depDs ds + 1 < n + 1 := hn
        have l1 := dpAll_len hv2
        have l2 := dpAll_len hu2
        refine andT_go <| op_go <| cb1 <| var_go rfl <| len_tq (Ex.sqT hF0 hv1) <| cb1 <| var_go rfl <| len_tq (Ex.sqT hF0 hu1) <| eq_i ?_
        rw [l1, l2, decide_eq_true rfl]
        refine andT_b (fun _ => ?_) fun e => by cases e
        exact cb1 <| lc_go <| zip_go <| var_go rfl <| var_go rfl <| zip_t (Ex.sqT hF0 hv1) (Ex.sqT hF0 hu1) <| fin _ _ _ _ (by omega) hf2.2 hz hv2 hu2 (wk_zipT hv1 hu1 (by omega))
    | _ => cases e
  · refine next_go ?_
    have x0 : Ext none F H F (upd H p (.tup [.ty "list", .ty "tuple"])) := Ext.own hF hp
    generalize upd H p (.tup [.ty "list", .ty "tuple"]) = H0 at *
    have hF0 := x0.fh
    have fin := q F H0 x0
    -- None
    refine seq_go <| if_go <| tor_go <| test_go <| op_go <| var_go rfl <| c_go <| isN <| bl_go <| tor_b (fun e1 => ?_) fun e1 => ?_
    · have ev : v = .non := of_decide_eq_true e1
      subst ev
      cases hv
      cases hu
      exact if_b (fun _ => ret_go <| and_go <| op_go <| var_go rfl <| c_go <| isN <| and_b (fun _ => op_go <| var_go rfl <| c_go <| isN fin) fun e => by cases e) fun e => by cases e
    · have nv : v ≠ .non := of_decide_eq_false e1
      refine tor_go <| test_go <| op_go <| var_go rfl <| c_go <| isN <| bl_go <| tor_b (fun e2 => ?_) fun e2 => ?_
      · have eu : u = .non := of_decide_eq_true e2
        subst eu
        cases hu
        cases hv
        exact absurd rfl nv
      · refine test_go <| op_go <| cb2 <| var_go rfl <| c_go <| isi_d (dp_up hF0 hv) <| cb2 <| var_go rfl <| c_go <| isi_d (dp_up hF0 hu) <| ne_b ?_
        rw [decide_eq_true rfl]
        refine bl_go <| if_b (fun e => by cases e) fun _ => next_go ?_
        refine ret_go <| and_go <| op_go <| cb2 <| var_go rfl <| c_go <| isi_d (dp_up hF0 hv) <| cb2 <| var_go rfl <| c_go <| isi_d (dp_up hF0 hu) <| eq_b ?_
        rw [decide_eq_true rfl]
        refine and_t <| and_go <| op_go <| cb2 <| var_go rfl <| c_go <| isi_d (dp_up hF0 hv) <| cb2 <| var_go rfl <| c_go <| isi_d (dp_up hF0 hu) <| eq_b ?_
        rw [decide_eq_true rfl]
        refine and_t <| op_go <| var_go rfl <| var_go rfl ?_
        cases hv with
        | bl c => cases hu; exact eq_v rfl (by rw [decide_eq_true rfl]; exact fin)
        | int c => cases hu; exact eq_v rfl (by rw [decide_eq_true rfl]; exact fin)
        | str c => cases hu; exact eq_v rfl (by rw [decide_eq_true rfl]; exact fin)
        | non => exact absurd rfl nv
        | _ => cases e
theorem like_zero (S : Stood K mg "_law_like" st_law_like) : Has P w K mg base "_law_like" st_law_like 0 ["_law_a", "_law_b"] (sp_like K 0) := by
  obtain ⟨f, fd, F, g⟩ := S.ex
  exact ⟨f, fd, F, g, ⟨fun vs H Q E ⟨F, v, u, d, _, e, _⟩ => by rw [e]; rfl, fun A outer s H args us vs Q E _ _ _ _ ⟨F, v, u, d, _, _, _, _, z, _⟩ => absurd z (Nat.not_lt_zero _)⟩, F.bindsN (fun _ _ _ _ _ _ us hl => match us, hl with | [_, _], _ => rfl)⟩
theorem like_all (S : Stood K mg "_law_like" st_law_like) (z_isinstance : mg "isinstance" = none) (z_list : mg "list" = none) (z_tuple : mg "tuple" = none) (z_bool : mg "bool" = none) (z_int : mg "int" = none) (z_str : mg "str" = none) (z_len : mg "len" = none) (z_all : mg "all" = none) (z_zip : mg "zip" = none) : ∀ n, Has P w K mg base "_law_like" st_law_like n ["_law_a", "_law_b"] (sp_like K n)
  | 0 => like_zero S
  | n + 1 => like_step S z_isinstance z_list z_tuple z_bool z_int z_str z_len z_all z_zip n (like_all S z_isinstance z_list z_tuple z_bool z_int z_str z_len z_all z_zip n)
theorem ok_law_like (S : Stood K mg "_law_like" st_law_like) (z_isinstance : mg "isinstance" = none) (z_list : mg "list" = none) (z_tuple : mg "tuple" = none) (z_bool : mg "bool" = none) (z_int : mg "int" = none) (z_str : mg "str" = none) (z_len : mg "len" = none) (z_all : mg "all" = none) (z_zip : mg "zip" = none) : Has P w K mg base "_law_like" st_law_like 9 ["_law_a", "_law_b"] (sp_law_like K) := like_all S z_isinstance z_list z_tuple z_bool z_int z_str z_len z_all z_zip 9

/-! ### law_new_names -/
abbrev st_law_new_names : Stmt := topS 11
abbrev N_law_new_names : List Str := ["_law_bag", "_law_many", "_law_abc", "_law_stem", "_law_at", "_law_first", "_law_k"]
theorem sc_law_new_names : FnScope N_law_new_names ["_law_bag", "_law_many"] (defScope st_law_new_names) := ⟨rfl, rfl, rfl, by decide +kernel, rfl, by decide +kernel, by decide +kernel⟩
/-- n names: one stem, n letters that differ -/
def sp_law_new_names (K : PySem.W.Frag) : Sp := spB (A1 qI) (fun n => 0 ≤ n ∧ n ≤ 26) (fun n v F => ∃ (l r : List Nat) (f : Nat), f < 26 ∧ lowL l = true ∧ lowL r = true ∧ l.length + r.length ≤ 7 ∧ qL qT (namesK l r f n.toNat) v F)
theorem ok_law_new_names (S : Stood K mg "_law_new_names" st_law_new_names) (z_range : mg "range" = none) (z_len : mg "len" = none) (G_law_pull : Has P w K mg base "_law_pull" st_law_pull 1 ["_law_bag", "_law_sides"] (sp_law_pull K)) (G_law_any : Has P w K mg base "_law_any" st_law_any 2 ["_law_bag", "_law_rows"] (sp_law_any K)) : Has P w K mg base "_law_new_names" st_law_new_names 3 ["_law_bag", "_law_many"] (sp_law_new_names K) := by
  refine S.ok sc_law_new_names (spB_len A1_len) (fun _ _ _ _ _ _ us hl => match us, hl with | [_, _], _ => rfl) (fun g cdv A outer s H vs Q E hr h => ?_)
  obtain ⟨F, b, ws, n, rfl, hF, B, ⟨_, rfl, rfl⟩, ⟨n0, n1⟩, q⟩ := h
  obtain ⟨n, rfl⟩ := Int.eq_ofNat_of_zero_le n0
  refine ⟨_, (pss_cons (ps_set (i := 2) sc_law_new_names.nd rfl (.inr rfl) pe_str)
    (pss_cons (ps_set (i := 3) sc_law_new_names.nd rfl (.inr rfl) (k_join1 K pe_str (pe_lc (own := [("_law_k", 6)]) rfl sc_law_new_names.nd (pi_range1 (by rfl) z_range (pa_cons (pe_has G_law_pull (hr.mono (by decide)) (by rfl) (pa_cons (pv 0) (pa_cons pe_int pa_nil))) pa_nil)) (blkOk_by (N := N_law_new_names) (sc := defScope st_law_new_names) (by decide +kernel)) (fun _ _ _ _ _ => (pg_name (i := 6) sc_law_new_names.nd rfl (Or.inl rfl))) (fun _ _ _ _ _ => pts_nil) (fun _ _ _ _ _ => (pe_has G_law_any (hr.mono (by decide)) (by rfl) (pa_cons (pv 0) (pa_cons (pv 2) pa_nil)))))))
    (pss_cons (ps_asg (pe_tup (pa_cons (pe_has G_law_pull (hr.mono (by decide)) (by rfl) (pa_cons (pv 0) (pa_cons (pe_op (o_add K) (pe_callB (k_len K) (by rfl) z_len (by decide +kernel) (pa_cons (pv 3) pa_nil)) pe_int) pa_nil))) (pa_cons (pe_has G_law_pull (hr.mono (by decide)) (by rfl) (pa_cons (pv 0) (pa_cons pe_int pa_nil))) pa_nil))) (k_tup K (n := 2) rfl (pgs_cons (pg_name (i := 4) sc_law_new_names.nd rfl (Or.inr rfl)) (pgs_cons (pg_name (i := 5) sc_law_new_names.nd rfl (Or.inr rfl)) pgs_nil))))
    (pss_one (ps_ret (pe_lc (own := [("_law_k", 6)]) rfl sc_law_new_names.nd (pi_range1 (by rfl) z_range (pa_cons (pv 1) pa_nil)) (blkOk_by (N := N_law_new_names) (sc := defScope st_law_new_names) (by decide +kernel)) (fun _ _ _ _ _ => (pg_name (i := 6) sc_law_new_names.nd rfl (Or.inl rfl))) (fun _ _ _ _ _ => pts_nil) (fun _ _ _ _ _ => (pe_op (o_add K) (pe_op (o_add K) (pe_slice (o_slice K) (pv 3) po_none (po_some (pv 4))) (pe_ix (k_ix K) (pv 2) (pe_op o_sub (pe_op (o_add K) (pv 5) (pv 6)) pe_int) (fun _ _ => rfl))) (pe_slice (o_slice K) (pv 3) (po_some (pv 4)) po_none))))))))), ?_⟩
  refine seq_go <| asg_go <| c_go <| name_go (σ' := [some (.ref b), some (.int n), some (.str abcS), none, none, none, none]) rfl ?_
  refine seq_go <| asg_go <| join_go <| c_go ⟨⟨_, rfl⟩, lc_go <| rng1_go <| call2 <| var_go rfl <| c_go <| spB_go hF B ⟨_, rfl, rfl⟩ ⟨by decide, by decide⟩ fun v F1 H1 x1 B1 hv => ?_⟩
  obtain ⟨d, d0, d1, rfl⟩ := hv
  rw [show V.int d = V.int ((d.toNat : Nat) : Int) from congrArg V.int (by omega)]
  refine rng1 (n := d.toNat) (by omega) ?_
  refine lc_map (b := some b) (xs := List.replicate d.toNat ()) (S := qEx (fun c => isLow c = true) qC) (fun x => x) x1.fh B1 (by rw [List.length_replicate]; exact wk_range) (by rw [List.length_replicate]; omega) (fun i x v F2 H2 hx it X2 B2 Qy k => ?_) (fun p F2 H2 us X2 B2 hp A => ?_)
  · cases it
    refine name_go (σ' := [some (.ref b), some (.int n), some (.str abcS), none, none, none, _]) rfl ⟨rfl, call2 <| var_go rfl <| var_go rfl <| any_go_s (cs := abcL) X2.fh B2 (by decide) (by decide) fun c F3 H3 hc x3 B3 => k _ _ _ x3 B3 ⟨c, decide_eq_true hc, rfl⟩⟩
  · obtain ⟨cs, hl, hlow, A⟩ := A.ex
    rw [List.map_id', List.length_replicate] at hl
    rw [A.ch] at hp
    have lcs : lowL cs = true := List.all_eq_true.mpr hlow
    refine join_0 (X2.fh _ _ hp) (by rw [len_ch]; omega) ?_
    rw [flat_ch]
    have X2' := x1.trans X2
    refine name_go (σ' := [some (.ref b), some (.int n), some (.str abcS), some (.str (SX.S cs)), none, none, none]) rfl ?_
    refine seq_go <| asg_go <| tup2 <| call2 <| var_go rfl <| op_go <| cb1 <| var_go rfl <| len_S (by omega) <| c_go <| add_i <| spB_go X2.fh B2 ⟨_, rfl, rfl⟩ ⟨by omega, by omega⟩ fun v3 F3 H3 x3 B3 hv3 => ?_
    obtain ⟨at_, a0, a1, rfl⟩ := hv3
    refine call2 <| var_go rfl <| c_go <| spB_go x3.fh B3 ⟨_, rfl, rfl⟩ ⟨by decide, by decide⟩ fun v4 F4 H4 x4 B4 hv4 => ⟨sz rfl, fun t ht => ?_⟩
    obtain ⟨fi, f0, f1, rfl⟩ := hv4
    have x5 : Ext (some b) F4 H4 F4 (upd H4 t (.tup [.int at_, .int fi])) := Ext.own x4.fh ht
    have X5 := ((X2'.trans x3).trans x4).trans x5
    have B5 := B4.lay (o := .tup [.int at_, .int fi]) ht
    refine tup_go upd_same rfl <| cons_go <| name_go (σ' := [some (.ref b), some (.int n), some (.str abcS), some (.str (SX.S cs)), some (.int at_), none, none]) rfl <| cons_go <| name_go (σ' := [some (.ref b), some (.int n), some (.str abcS), some (.str (SX.S cs)), some (.int at_), some (.int fi), none]) rfl <| nil_go ?_
    refine ret_go <| lc_go <| rng1_go <| var_go rfl ?_
    refine rng1 (n := n) (by omega) ?_
    have hl1 : (cs.take at_.toNat).length + (cs.drop at_.toNat).length ≤ 7 := by rw [List.length_take, List.length_drop]; omega
    refine lc_map (b := some b) (xs := List.range n) (S := qT) (nameK (cs.take at_.toNat) (cs.drop at_.toNat) fi.toNat) x5.fh B5 (by rw [List.length_range]; exact wk_range) (by rw [List.length_range]; omega) (fun i x v F6 H6 hx it X6 B6 Qy k => ?_) (fun p6 F6 H6 us6 X6 B6 hp6 A6 => ?_)
    · cases it
      have hx' : x = i ∧ i < n := by
        obtain ⟨h1, h2⟩ := List.getElem?_eq_some_iff.mp hx
        rw [List.length_range] at h1
        exact ⟨by rw [← h2]; simp, h1⟩
      obtain ⟨rfl, hi⟩ := hx'
      refine name_go (σ' := [some (.ref b), some (.int n), some (.str abcS), some (.str (SX.S cs)), some (.int at_), some (.int fi), some (.int (0 + x))]) rfl ⟨rfl, ?_⟩
      refine op_go <| op_go <| slice_go <| var_go rfl <| nopart <| part <| var_go rfl <| int_go <| sl_to (by omega) a0 <| op_go <| var_go rfl <| op_go <| op_go <| var_go rfl <| var_go rfl <| add_i <| c_go <| sub_i ?_
      refine ix_si (c := 97 + (fi.toNat + x) % 26) (sz rfl) ?_ ?_
      · have := abc_at (fi.toNat + x) (by omega)
        rw [show fi + (0 + (x : Int)) - 26 = (((fi.toNat + x : Nat)) : Int) - 26 by omega]
        exact this
      · refine add_t2 (a := cs.take at_.toNat) (b := [97 + (fi.toNat + x) % 26]) (by rw [List.length_take]; simp; omega) ?_
        refine slice_go <| var_go rfl <| part <| var_go rfl <| int_go <| nopart <| sl_from (by omega) a0 ?_
        refine add_t2 (by simp [List.length_take, List.length_drop]; omega) ?_
        refine k _ _ _ (Ext.refl X6.fh) B6 ?_
        show V.str _ = V.str (SX.S (nameK _ _ _ _))
        unfold nameK
        rw [List.append_assoc] <;> rfl
    · refine q _ _ _ (X5.trans X6) B6 ⟨cs.take at_.toNat, cs.drop at_.toNat, fi.toNat, by omega, lowL_take lcs, lowL_drop lcs, hl1, p6, us6, rfl, hp6, A6⟩

theorem depDs_bl : ∀ bs : List Bool, depDs (bs.map PyData.bool) = 0
  | [] => rfl
  | b :: bs => by show max 0 (depDs (bs.map PyData.bool)) = 0; rw [depDs_bl bs] <;> rfl
theorem fitDs_bl : ∀ bs : List Bool, fitDs (bs.map PyData.bool) = true
  | [] => rfl
  | b :: bs => by show (true && fitDs (bs.map PyData.bool)) = true; rw [fitDs_bl bs] <;> rfl
theorem like_bs {K : PySem.W.Frag} {F H : Hp} {p q : Addr} {bs : List Bool} {Q : VK} (hF : Ex F H) (h1 : F p = some (.lst (bs.map V.bl))) (h2 : F q = some (.lst (bs.map V.bl))) (hz : bs.length < 100000) (k : ∀ F' H', Ext none F H F' H' → Q (.bl true) H') : sp_law_like K [.ref p, .ref q] H Q E0 :=
  ⟨F, _, _, .list (bs.map PyData.bool), hF, rfl, dat (R := qL qB) (x := bs) ⟨p, _, rfl, h1, AllR.of_map (fun _ => rfl) bs⟩, dat (R := qL qB) (x := bs) ⟨q, _, rfl, h2, AllR.of_map (fun _ => rfl) bs⟩, by show depDs _ + 1 < 9; rw [depDs_bl]; decide, by show (decide _ && fitDs _) = true; rw [fitDs_bl, List.length_map, decide_eq_true hz] <;> rfl, k⟩
theorem isn_s {K : PySem.W.Frag} {F H : Hp} {b : Addr} {cs : List Nat} {Q : VK} (hF : Ex F H) (B : BagI (some b) F H) (hz : cs.length ≤ 100) (k : ∀ F' H', Ext (some b) F H F' H' → BagI (some b) F' H' → Q (.bl (nameL cs)) H') : sp_is_name K [.str (SX.S cs)] H Q E0 :=
  sp_go hF ⟨_, rfl, .str _⟩ (fun z e => by cases e; rw [SX.S_len]; omega) fun v F' H' x h => by
    rw [show v = _ from h]
    exact (show nameD (.str (SX.S cs)) = nameL cs from nameS_S) ▸ k F' H' x.any (B.step x.any)
theorem isw_s {K : PySem.W.Frag} {F H : Hp} {b : Addr} {cs : List Nat} {Q : VK} (hF : Ex F H) (B : BagI (some b) F H) (hz : cs.length ≤ 100) (k : ∀ F' H', Ext (some b) F H F' H' → BagI (some b) F' H' → Q (.bl (lowL cs)) H') : sp_is_word K [.str (SX.S cs)] H Q E0 :=
  sp_go hF ⟨_, rfl, .str _⟩ (fun z e => by cases e; rw [SX.S_len]; omega) fun v F' H' x h => by
    rw [show v = _ from h]
    exact k F' H' x.any (B.step x.any)
theorem isx {K : PySem.W.Frag} {F H : Hp} {b : Addr} {v : V} {d : PyData} {Q : VK} (hF : Ex F H) (B : BagI (some b) F H) (h : Dp K F v d) (k : ∀ F' H', Ext (some b) F H F' H' → BagI (some b) F' H' → Q (.bl (numD d)) H') : sp_is_number K [v] H Q E0 :=
  sp_go hF ⟨_, rfl, h⟩ trivial fun v F' H' x h => by
    rw [show v = _ from h]
    exact k F' H' x.any (B.step x.any)
theorem nameL_in {cs : List Nat} (h : nameL cs = true) : lowL cs = true ∧ 1 ≤ cs.length ∧ cs.length ≤ 8 := by
  unfold nameL at h
  rw [Bool.and_eq_true, Bool.and_eq_true] at h
  exact ⟨h.1, of_decide_eq_true h.2.1, of_decide_eq_true h.2.2⟩
theorem nameL_of {cs : List Nat} (h : lowL cs = true) (h1 : 1 ≤ cs.length) (h2 : cs.length ≤ 8) : nameL cs = true := by
  unfold nameL
  rw [h, decide_eq_true h1, decide_eq_true h2]
  rfl
theorem nameL_long {cs : List Nat} (h : 8 < cs.length) : nameL cs = false := by
  unfold nameL
  rw [show decide (cs.length ≤ 8) = false from decide_eq_false (by omega), Bool.and_false, Bool.and_false]
theorem lowL_bad {a b : List Nat} {c : Nat} (h : isLow c = false) : lowL (a ++ c :: b) = false := by
  rw [lowL_app]
  show (lowL a && (isLow c && lowL b)) = false
  rw [h, Bool.false_and, Bool.and_false]
theorem nameL_bad {cs : List Nat} (h : lowL cs = false) : nameL cs = false := by
  unfold nameL
  rw [h, Bool.false_and]
theorem kb_is_name : KB "is_name" st_is_name ["value"] 0 ["value"] (fun {α} (_ ws : List α) => ws) := ⟨fun kV doc pm an cdv ct us ws h1 h2 => match us, ws, h1, h2 with | [], [_], _, _ => rfl, fun _ r => r⟩
theorem kb_is_word : KB "is_word" st_is_word ["value"] 0 ["value"] (fun {α} (_ ws : List α) => ws) := ⟨fun kV doc pm an cdv ct us ws h1 h2 => match us, ws, h1, h2 with | [], [_], _, _ => rfl, fun _ r => r⟩
theorem kb_is_number : KB "is_number" st_is_number ["value"] 0 ["value"] (fun {α} (_ ws : List α) => ws) := ⟨fun kV doc pm an cdv ct us ws h1 h2 => match us, ws, h1, h2 with | [], [_], _, _ => rfl, fun _ r => r⟩

/-! ### law -/
abbrev st_law : Stmt := topS 12
abbrev N_law : List Str := ["_law_script", "_law_bag", "_law_names", "_law_at", "_law_bent", "_law_long", "_law_found", "_law_odd", "_law_near", "_law_value_z"]
theorem sc_law : FnScope N_law ["_law_script"] (defScope st_law) := ⟨rfl, rfl, rfl, by decide +kernel, rfl, by decide +kernel, by decide +kernel⟩
/-- the law: true -/
def sp_law (K : PySem.W.Frag) : Sp := fun vs H Q _ => ∃ (F : Hp) (a : Addr) (ns : List Int), Ex F H ∧ vs = [.ref a] ∧ SqL K F a (ns.map V.int) ∧ ns.length ≤ 63 ∧ ∀ H', Q (.bl true) H'
theorem ok_law (S : Stood K mg "law" st_law) (z_len : mg "len" = none) (G_law_draws : Has P w K mg base "_law_draws" st_law_draws 1 ["_law_script"] (sp_law_draws K)) (G_law_pull : Has P w K mg base "_law_pull" st_law_pull 1 ["_law_bag", "_law_sides"] (sp_law_pull K)) (G_law_any : Has P w K mg base "_law_any" st_law_any 2 ["_law_bag", "_law_rows"] (sp_law_any K)) (G_law_new_names : Has P w K mg base "_law_new_names" st_law_new_names 3 ["_law_bag", "_law_many"] (sp_law_new_names K)) (G_law_like : Has P w K mg base "_law_like" st_law_like 9 ["_law_a", "_law_b"] (sp_law_like K)) (G_is_name : Has P w K mg base "is_name" st_is_name 2 ["value"] (sp_is_name K)) (G_is_word : Has P w K mg base "is_word" st_is_word 1 ["value"] (sp_is_word K)) (G_is_number : Has P w K mg base "is_number" st_is_number 1 ["value"] (sp_is_number K)) : Has P w K mg base "law" st_law 10 ["_law_script"] (sp_law K) := by
  refine S.ok sc_law (fun vs H Q E ⟨F, a, ns, _, e, _⟩ => by rw [e]; rfl) (fun _ _ _ _ _ _ us hl => match us, hl with | [_], _ => rfl) (fun f cdv A outer s H vs Q E hr h => ?_)
  obtain ⟨F0, a, ns, hF0, rfl, hS, hn, q⟩ := h
  refine ⟨_, (pss_cons (ps_set (i := 1) sc_law.nd rfl (.inl rfl) (pe_has G_law_draws (hr.mono (by decide)) (by rfl) (pa_cons (pv 0) pa_nil)))
    (pss_cons (ps_set (i := 2) sc_law.nd rfl (.inl rfl) (pe_has G_law_new_names (hr.mono (by decide)) (by rfl) (pa_cons (pv 1) (pa_cons pe_int pa_nil))))
    (pss_cons (ps_set (i := 3) sc_law.nd rfl (.inl rfl) (pe_has G_law_pull (hr.mono (by decide)) (by rfl) (pa_cons (pv 1) (pa_cons (pe_op (o_add K) (pe_callB (k_len K) (by rfl) z_len (by decide +kernel) (pa_cons (pe_ix (k_ix K) (pv 2) pe_int (fun _ _ => rfl)) pa_nil)) pe_int) pa_nil))))
    (pss_cons (ps_set (i := 4) sc_law.nd rfl (.inl rfl) (pe_op (o_add K) (pe_op (o_add K) (pe_slice (o_slice K) (pe_ix (k_ix K) (pv 2) pe_int (fun _ _ => rfl)) po_none (po_some (pv 3))) (pe_has G_law_any (hr.mono (by decide)) (by rfl) (pa_cons (pv 1) (pa_cons (pe_lst (pa_cons pe_str (pa_cons pe_str (pa_cons pe_str (pa_cons pe_str (pa_cons pe_str (pa_cons pe_str (pa_cons pe_str (pa_cons pe_str pa_nil))))))))) pa_nil)))) (pe_slice (o_slice K) (pe_ix (k_ix K) (pv 2) pe_int (fun _ _ => rfl)) (po_some (pv 3)) po_none)))
    (pss_cons (ps_set (i := 5) sc_law.nd rfl (.inl rfl) (pe_op (o_add K) (pe_ix (k_ix K) (pv 2) pe_int (fun _ _ => rfl)) (pe_slice (o_slice K) pe_str (po_some (pe_callB (k_len K) (by rfl) z_len (by decide +kernel) (pa_cons (pe_ix (k_ix K) (pv 2) pe_int (fun _ _ => rfl)) pa_nil))) po_none)))
    (pss_cons (ps_set (i := 6) sc_law.nd rfl (.inl rfl) (pe_lst (pa_cons (pe_has G_is_name (hr.mono (by decide)) (by rfl) (pa_cons (pe_ix (k_ix K) (pv 2) pe_int (fun _ _ => rfl)) pa_nil)) (pa_cons (pe_hasK0 G_is_name (hr.mono (by decide)) (by rfl) (pk_cons (pe_ix (k_ix K) (pv 2) pe_int (fun _ _ => rfl)) pk_nil) kb_is_name) (pa_cons (pe_has G_is_name (hr.mono (by decide)) (by rfl) (pa_cons (pe_slice (o_slice K) (pv 5) po_none (po_some pe_int)) pa_nil)) (pa_cons (pe_has G_is_name (hr.mono (by decide)) (by rfl) (pa_cons (pv 5) pa_nil)) (pa_cons (pe_has G_is_word (hr.mono (by decide)) (by rfl) (pa_cons (pe_op (o_add K) (pv 5) (pe_ix (k_ix K) (pv 2) pe_int (fun _ _ => rfl))) pa_nil)) (pa_cons (pe_has G_is_word (hr.mono (by decide)) (by rfl) (pa_cons pe_str pa_nil)) (pa_cons (pe_has G_is_name (hr.mono (by decide)) (by rfl) (pa_cons pe_str pa_nil)) pa_nil)))))))))
    (pss_cons (ps_if (pt_not (k_truth K (pe_has G_law_like (hr.mono (by decide)) (by rfl) (pa_cons (pv 6) (pa_cons (pe_lst (pa_cons pe_bl (pa_cons pe_bl (pa_cons pe_bl (pa_cons pe_bl (pa_cons pe_bl (pa_cons pe_bl (pa_cons pe_bl pa_nil)))))))) pa_nil))) (by intro _; rfl))) (pss_one (ps_ret pe_bl)) pss_nil)
    (pss_cons (ps_set (i := 7) sc_law.nd rfl (.inl rfl) (pe_lst (pa_cons (pv 4) (pa_cons pe_non (pa_cons pe_int (pa_cons pe_bl (pa_cons (pe_tup (pa_cons pe_str pa_nil)) (pa_cons (pe_lst (pa_cons pe_str pa_nil)) (pa_cons (pe_op (o_add K) (pe_ix (k_ix K) (pv 2) pe_int (fun _ _ => rfl)) pe_str) pa_nil)))))))))
    (pss_cons (ps_if (pt_not (k_truth K (pe_has G_law_like (hr.mono (by decide)) (by rfl) (pa_cons (pe_op (o_add K) (pe_lc (own := [("_law_value_z", 9)]) rfl sc_law.nd (pi_any K (pv 7)) (blkOk_by (N := N_law) (sc := defScope st_law) (by decide +kernel)) (fun _ _ _ _ _ => (pg_name (i := 9) sc_law.nd rfl (Or.inl rfl))) (fun _ _ _ _ _ => pts_nil) (fun _ _ _ _ _ => (pe_has G_is_name (hr.mono (by decide)) (by rfl) (pa_cons (pv 9) pa_nil)))) (pe_lc (own := [("_law_value_z", 9)]) rfl sc_law.nd (pi_any K (pv 7)) (blkOk_by (N := N_law) (sc := defScope st_law) (by decide +kernel)) (fun _ _ _ _ _ => (pg_name (i := 9) sc_law.nd rfl (Or.inl rfl))) (fun _ _ _ _ _ => pts_nil) (fun _ _ _ _ _ => (pe_has G_is_word (hr.mono (by decide)) (by rfl) (pa_cons (pv 9) pa_nil))))) (pa_cons (pe_op o_mul (pe_lst (pa_cons pe_bl pa_nil)) pe_int) pa_nil))) (by intro _; rfl))) (pss_one (ps_ret pe_bl)) pss_nil)
    (pss_cons (ps_set (i := 8) sc_law.nd rfl (.inl rfl) (pe_has G_law_pull (hr.mono (by decide)) (by rfl) (pa_cons (pv 1) (pa_cons (pe_op o_pow pe_int pe_int) pa_nil))))
    (pss_cons (ps_setLc (i := 6) (own := [("_law_value_z", 9)]) rfl sc_law.nd rfl rfl (sw_true rfl rfl rfl (by decide +kernel)) (pi_any K (pe_lst (pa_cons (pv 8) (pa_cons (pe_op o_sub pe_int (pv 8)) (pa_cons pe_int (pa_cons (pe_op o_pow pe_int pe_int) (pa_cons pe_bl (pa_cons pe_bl (pa_cons pe_non (pa_cons pe_str (pa_cons (pe_tup (pa_cons pe_int pa_nil)) pa_nil))))))))))) (blkOk_by (N := N_law) (sc := defScope st_law) (by decide +kernel)) (fun _ _ _ _ _ => (pg_name (i := 9) sc_law.nd rfl (Or.inl rfl))) (fun _ _ _ _ _ => pts_nil) (fun _ _ _ _ _ => (pe_has G_is_number (hr.mono (by decide)) (by rfl) (pa_cons (pv 9) pa_nil))))
    (pss_cons (ps_set (i := 6) sc_law.nd rfl (.inl rfl) (pe_op (o_add K) (pv 6) (pe_lst (pa_cons (pe_hasK0 G_is_number (hr.mono (by decide)) (by rfl) (pk_cons (pv 8) pk_nil) kb_is_number) (pa_cons (pe_hasK0 G_is_word (hr.mono (by decide)) (by rfl) (pk_cons pe_str pk_nil) kb_is_word) (pa_cons (pe_has G_is_name (hr.mono (by decide)) (by rfl) (pa_cons pe_str pa_nil)) pa_nil))))))
    (pss_one (ps_ret (pe_has G_law_like (hr.mono (by decide)) (by rfl) (pa_cons (pv 6) (pa_cons (pe_op (o_add K) (pe_op (o_add K) (pe_op o_mul (pe_lst (pa_cons pe_bl pa_nil)) pe_int) (pe_op o_mul (pe_lst (pa_cons pe_bl pa_nil)) pe_int)) (pe_op o_mul (pe_lst (pa_cons pe_bl pa_nil)) pe_int)) pa_nil))))))))))))))))), ?_⟩
  refine seq_go <| asg_go <| call1 <| var_go rfl ⟨F0, a, ns, hF0, rfl, hS, hn, fun b F H x0 hb B => name_go (σ' := [some (.ref a), some (.ref b), none, none, none, none, none, none, none, none]) rfl ?_⟩
  have hF := x0.fh
  -- the names
  refine seq_go <| asg_go <| call2 <| var_go rfl <| c_go <| spB_go hF B ⟨_, rfl, rfl⟩ ⟨by decide, by decide⟩ fun v F1 H1 x1 B1 hv => ?_
  obtain ⟨l, r, f, hf, hl, hr', hlr, p, us, rfl, hp, A⟩ := hv
  have hN : ∀ k, nameL (nameK l r f k) = true := fun k => nameL_K hl hr' hlr
  rw [A.txt] at hp
  replace hp : F1 p = some (.lst [.str (SX.S (nameK l r f 0)), .str (SX.S (nameK l r f 1)), .str (SX.S (nameK l r f 2)), .str (SX.S (nameK l r f 3))]) := hp
  generalize nameK l r f 0 = n0, nameK l r f 1 = n1, nameK l r f 2 = n2, nameK l r f 3 = n3, hN 0 = N0, hN 1 = N1, hN 2 = N2, hN 3 = N3 at hp
  obtain ⟨L0, a0, b0⟩ := nameL_in N0
  obtain ⟨L1, a1, b1⟩ := nameL_in N1
  obtain ⟨L2, a2, b2⟩ := nameL_in N2
  have g1 := x1.fh _ _ hp
  refine name_go (σ' := [some (.ref a), some (.ref b), some (.ref p), none, none, none, none, none, none, none]) rfl ?_
  -- the bent name
  refine seq_go <| asg_go <| call2 <| var_go rfl <| op_go <| cb1 <| op_go <| var_go rfl <| c_go <| ix_l (j := 0) g1 rfl <| len_S (by omega) <| c_go <| add_i <| spB_go x1.fh B1 ⟨_, rfl, rfl⟩ ⟨by omega, by omega⟩ fun v F2 H2 x2 B2 hv => ?_
  obtain ⟨d, d0, d1, rfl⟩ := hv
  have hp2 := x2.ff _ _ hp
  have g2 := x2.fh _ _ hp2
  refine name_go (σ' := [some (.ref a), some (.ref b), some (.ref p), some (.int d), none, none, none, none, none, none]) rfl ?_
  refine seq_go <| asg_go <| op_go <| op_go <| slice_go <| op_go <| var_go rfl <| c_go <| ix_l (j := 0) g2 rfl <| nopart <| part <| var_go rfl <| int_go <| sl_to (by omega) d0 ?_
  refine call2 <| var_go rfl <| lst_go <| acons <| c_go <| acons <| c_go <| acons <| c_go <| acons <| c_go <| acons <| c_go <| acons <| c_go <| acons <| c_go <| acons <| c_go <| anil <| lay_lst x2.fh B2 (sz rfl) fun p3 F3 H3 x3 B3 hp3 => ?_
  refine any_go_l x3.fh B3 hp3 (by decide) (by decide) fun v F4 H4 hm x4 B4 => ?_
  have hv : ∃ c, v = .str (SX.S [c]) ∧ isLow c = false := by
    have key : ∀ c : Nat, isLow c = false → (∃ c', V.str (SX.S [c]) = .str (SX.S [c']) ∧ isLow c' = false) := fun c h => ⟨c, rfl, h⟩
    simp only [List.mem_cons, List.not_mem_nil, or_false] at hm
    rcases hm with rfl | rfl | rfl | rfl | rfl | rfl | rfl | rfl
    · exact key 65 (by decide +kernel)
    · exact key 49 (by decide +kernel)
    · exact key 32 (by decide +kernel)
    · exact key 45 (by decide +kernel)
    · exact key 95 (by decide +kernel)
    · exact key 43 (by decide +kernel)
    · exact key 90 (by decide +kernel)
    · exact key 10 (by decide +kernel)
  obtain ⟨c, rfl, hc⟩ := hv
  have X4 := x3.trans x4
  have hp4 := X4.ff _ _ hp2
  have g4 := x4.fh _ _ hp4
  refine add_t2 (by rw [List.length_take]; simp; omega) <| slice_go <| op_go <| var_go rfl <| c_go <| ix_l (j := 0) g4 rfl <| part <| var_go rfl <| int_go <| nopart <| sl_from (by omega) d0 <| add_t2 (by simp [List.length_take, List.length_drop]; omega) ?_
  have eb : lowL (n0.take d.toNat ++ [c] ++ n0.drop d.toNat) = false := by rw [List.append_assoc]; exact lowL_bad hc
  have lb : (n0.take d.toNat ++ [c] ++ n0.drop d.toNat).length ≤ 20 := by simp [List.length_take, List.length_drop]; omega
  generalize hbe : n0.take d.toNat ++ [c] ++ n0.drop d.toNat = be at eb lb
  have eb' := nameL_bad eb
  refine name_go (σ' := [some (.ref a), some (.ref b), some (.ref p), some (.int d), some (.str (SX.S be)), none, none, none, none, none]) rfl ?_
  -- the long name
  refine seq_go <| asg_go <| op_go <| op_go <| var_go rfl <| c_go <| ix_l (j := 1) g4 rfl <| slice_go <| c_go <| part <| cb1 <| op_go <| var_go rfl <| c_go <| ix_l (j := 1) g4 rfl <| len_S (by omega) <| int_go <| nopart <| sl_from (a := [97, 98, 99, 100, 101, 102, 103, 104, 105]) (by decide) (by omega) <| add_t2 (by rw [List.length_drop, Int.toNat_natCast]; simp; omega) ?_
  rw [Int.toNat_natCast]
  have ll : lowL (n1 ++ [97, 98, 99, 100, 101, 102, 103, 104, 105].drop n1.length) = true := by rw [lowL_app, L1, lowL_drop (by decide +kernel)]; rfl
  have le : (n1 ++ [97, 98, 99, 100, 101, 102, 103, 104, 105].drop n1.length).length = 9 := by rw [List.length_append, List.length_drop]; simp; omega
  generalize n1 ++ [97, 98, 99, 100, 101, 102, 103, 104, 105].drop n1.length = lo at ll le
  refine name_go (σ' := [some (.ref a), some (.ref b), some (.ref p), some (.int d), some (.str (SX.S be)), some (.str (SX.S lo)), none, none, none, none]) rfl ?_
  -- the first list
  refine seq_go <| asg_go <| lst_go <| acons <| call1 <| op_go <| var_go rfl <| c_go <| ix_l (j := 0) g4 rfl <| isn_s x4.fh B4 (by omega) fun F5 H5 x5 B5 => ?_
  have hp5 := x5.ff _ _ hp4
  have g5 := x5.fh _ _ hp5
  refine acons <| callK1 <| op_go <| var_go rfl <| c_go <| ix_l (j := 3) g5 rfl ⟨rfl, rfl, isn_s x5.fh B5 (by have := (nameL_in N3).2.2; omega) fun F6 H6 x6 B6 => ?_⟩
  refine acons <| call1 <| slice_go <| var_go rfl <| nopart <| part <| c_go <| int_go <| sl_to (by omega) (by decide) <| isn_s x6.fh B6 (by rw [List.length_take]; omega) fun F7 H7 x7 B7 => ?_
  refine acons <| call1 <| var_go rfl <| isn_s x7.fh B7 (by omega) fun F8 H8 x8 B8 => ?_
  have X8 := ((x5.trans x6).trans x7).trans x8
  have hp8 := X8.ff _ _ hp4
  have g8 := X8.fh _ _ hp8
  refine acons <| call1 <| op_go <| var_go rfl <| op_go <| var_go rfl <| c_go <| ix_l (j := 2) g8 rfl <| add_t2 (by omega) <| isw_s x8.fh B8 (by rw [List.length_append]; omega) fun F9 H9 x9 B9 => ?_
  refine acons <| call1 <| c_go <| isw_s (cs := []) x9.fh B9 (by decide) fun F10 H10 x10 B10 => ?_
  refine acons <| call1 <| c_go <| isn_s (cs := []) x10.fh B10 (by decide) fun F11 H11 x11 B11 => anil ?_
  rw [N0, N3, show nameL (lo.take (8 : Int).toNat) = true from nameL_of (lowL_take ll) (by rw [List.length_take]; omega) (by rw [List.length_take]; omega), nameL_long (cs := lo) (by omega), show lowL (lo ++ n2) = true by rw [lowL_app, ll, L2]; rfl]
  refine lay_lst x11.fh B11 (sz rfl) fun p12 F12 H12 x12 B12 hp12 => name_go (σ' := [some (.ref a), some (.ref b), some (.ref p), some (.int d), some (.str (SX.S be)), some (.str (SX.S lo)), some (.ref p12), none, none, none]) rfl ?_
  refine seq_go <| if_go <| tnot_go <| tru_go <| call2 <| var_go rfl <| lst_go <| acons <| c_go <| acons <| c_go <| acons <| c_go <| acons <| c_go <| acons <| c_go <| acons <| c_go <| acons <| c_go <| anil <| lay_lst x12.fh B12 (sz rfl) fun p13 F13 H13 x13 B13 hp13 => ?_
  refine like_bs (bs := [true, true, true, false, true, true, false]) x13.fh (x13.ff _ _ hp12) hp13 (by decide) fun F14 H14 x14 => tru_b <| if_b (fun e => by cases e) fun _ => next_go ?_
  have B14 := B13.step x14
  have X14 := (((((X8.trans x9).trans x10).trans x11).trans x12).trans x13).trans x14.any
  have hp14 := X14.ff _ _ hp4
  have g14 := X14.fh _ _ hp14
  -- odd values
  refine seq_go <| asg_go <| lst_go <| acons <| var_go rfl <| acons <| c_go <| acons <| c_go <| acons <| c_go <| acons <| tup1 <| c_go <| lay_tup x14.fh B14 (sz rfl) fun p15 F15 H15 x15 B15 hp15 => ?_
  refine acons <| lst_go <| acons <| c_go <| anil <| lay_lst x15.fh B15 (sz rfl) fun p16 F16 H16 x16 B16 hp16 => ?_
  have X16 := x15.trans x16
  have g16 := x16.fh _ _ (X16.ff _ _ hp14)
  refine acons <| op_go <| op_go <| var_go rfl <| c_go <| ix_l (j := 2) g16 rfl <| c_go <| add_t2 (b := [32]) (by simp; omega) <| anil <| lay_lst x16.fh B16 (sz rfl) fun p17 F17 H17 x17 B17 hp17 => ?_
  have AD : AllR (qD K) [.str (SX.S be), .none, .int 3, .bool true, .tuple [.str "a"], .list [.str "a"], .str (SX.S (n2 ++ [32]))] [.str (SX.S be), .non, .int 3, .bl true, .ref p15, .ref p16, .str (SX.S (n2 ++ [32]))] F17 :=
    ⟨.str _, .non, .int _, .bl _, .tup (SqT.of (x17.ff _ _ (x16.ff _ _ hp15))) (.cons (.str _) .nil), .lst (SqL.of (x17.ff _ _ hp16)) (.cons (.str _) .nil), .str _, True.intro⟩
  have oddN : ([.str (SX.S be), .none, .int 3, .bool true, .tuple [.str "a"], .list [.str "a"], .str (SX.S (n2 ++ [32]))] : List PyData).map nameD = List.replicate 7 false := by
    have e1 : nameD (.str (SX.S be)) = false := by show nameS _ = _; rw [nameS_S]; exact eb'
    have e2 : nameD (.str (SX.S (n2 ++ [32]))) = false := by show nameS _ = _; rw [nameS_S]; exact nameL_bad (lowL_bad (by decide +kernel))
    simp only [List.map_cons, List.map_nil, e1, e2]
    rfl
  have oddW : ([.str (SX.S be), .none, .int 3, .bool true, .tuple [.str "a"], .list [.str "a"], .str (SX.S (n2 ++ [32]))] : List PyData).map wordD = List.replicate 7 false := by
    have e1 : wordD (.str (SX.S be)) = false := eb
    have e2 : wordD (.str (SX.S (n2 ++ [32]))) = false := lowL_bad (by decide +kernel)
    simp only [List.map_cons, List.map_nil, e1, e2]
    rfl
  have oddZ : ∀ d ∈ ([.str (SX.S be), .none, .int 3, .bool true, .tuple [.str "a"], .list [.str "a"], .str (SX.S (n2 ++ [32]))] : List PyData), ∀ z, d = .str z → z.length ≤ 50000 := by
    intro d hd z e
    subst e
    simp only [List.mem_cons, List.not_mem_nil, or_false, PyData.str.injEq, reduceCtorEq, false_or] at hd
    rcases hd with e | e <;> rw [e, SX.S_len] <;> first | omega | (rw [List.length_append]; show _ + 1 ≤ _; omega)
  generalize ([.str (SX.S be), .none, .int 3, .bool true, .tuple [.str "a"], .list [.str "a"], .str (SX.S (n2 ++ [32]))] : List PyData) = odds at AD oddN oddW oddZ
  have oddL : odds.length = 7 := by have := congrArg List.length oddN; simpa using this
  refine name_go (σ' := [some (.ref a), some (.ref b), some (.ref p), some (.int d), some (.str (SX.S be)), some (.str (SX.S lo)), some (.ref p12), some (.ref p17), none, none]) rfl ?_
  generalize hvs : [V.str (SX.S be), .non, .int 3, .bl true, .ref p15, .ref p16, .str (SX.S (n2 ++ [32]))] = vs at hp17 AD
  have vl : vs.length = odds.length := AD.length.symm
  refine seq_go <| if_go <| tnot_go <| tru_go <| call2 <| op_go <| lc_go <| any_l <| var_go rfl <| wl (SqL.of (x17.fh _ _ hp17)) ?_
  refine lc_map (b := some b) (xs := odds) (S := qB) nameD x17.fh B17 (vl ▸ wk_list hp17) (by omega) (fun i x v F18 H18 hx it x18 B18 Qy k => ?_) fun p19 F19 H19 us19 x19 B19 hp19 A19 => ?_
  · refine name_go (σ' := [some (.ref a), some (.ref b), some (.ref p), some (.int d), some (.str (SX.S be)), some (.str (SX.S lo)), some (.ref p12), some (.ref p17), none, some v]) rfl ⟨rfl, call1 <| var_go rfl <| sp_go x18.fh ⟨_, rfl, ?_⟩ (oddZ x (List.mem_of_getElem? hx)) fun w F20 H20 x20 h => k _ _ _ x20.any (B18.step x20) h⟩
    obtain ⟨w, hw, hd⟩ := AD.get hx
    rw [it] at hw
    cases hw
    exact up x18.ff hd
  have hp19' := x19.ff _ _ hp17
  have AD19 := AD.up x19.ff
  refine lc_go <| any_l <| var_go rfl <| wl (SqL.of (x19.fh _ _ hp19')) ?_
  refine lc_map (b := some b) (xs := odds) (S := qB) wordD x19.fh B19 (vl ▸ wk_list hp19') (by omega) (fun i x v F20 H20 hx it x20 B20 Qy k => ?_) fun p21 F21 H21 us21 x21 B21 hp21 A21 => ?_
  · refine name_go (σ' := [some (.ref a), some (.ref b), some (.ref p), some (.int d), some (.str (SX.S be)), some (.str (SX.S lo)), some (.ref p12), some (.ref p17), none, some v]) rfl ⟨rfl, call1 <| var_go rfl <| sp_go x20.fh ⟨_, rfl, ?_⟩ (oddZ x (List.mem_of_getElem? hx)) fun w F22 H22 x22 h => k _ _ _ x22.any (B20.step x22) h⟩
    obtain ⟨w, hw, hd⟩ := AD19.get hx
    rw [it] at hw
    cases hw
    exact up x20.ff hd
  rw [A19.bl, oddN] at hp19
  rw [A21.bl, oddW] at hp21
  refine add_l x21.fh B21 (x21.fh _ _ (x21.ff _ _ hp19)) (x21.fh _ _ hp21) (sz rfl) fun p22 F22 H22 x22 B22 hp22 => ?_
  refine op_go <| lst_go <| acons <| c_go <| anil <| lay_lst x22.fh B22 (sz rfl) fun p23 F23 H23 x23 B23 hp23 => c_go <| rep_l (k := 14) x23.fh B23 (x23.fh _ _ hp23) (by decide) (sz rfl) fun p24 F24 H24 x24 B24 hp24 => ?_
  refine like_bs (bs := List.replicate 14 false) x24.fh (x24.ff _ _ (x23.ff _ _ hp22)) hp24 (by decide) fun F25 H25 x25 => tru_b <| if_b (fun e => by cases e) fun _ => next_go ?_
  have B25 := B24.step x25
  -- numbers
  refine seq_go <| asg_go <| call2 <| var_go rfl <| op_go <| c_go <| c_go <| pow_i (n := 9) (by decide) (by decide) <| spB_go x25.fh B25 ⟨_, rfl, rfl⟩ ⟨by decide, by decide⟩ fun v F26 H26 x26 B26 hv => ?_
  obtain ⟨e, e0, e1, rfl⟩ := hv
  refine name_go (σ' := [some (.ref a), some (.ref b), some (.ref p), some (.int d), some (.str (SX.S be)), some (.str (SX.S lo)), some (.ref p12), some (.ref p17), some (.int e), none]) rfl ?_
  refine seq_go <| asg_go <| lc_go <| any_l <| lst_go <| acons <| var_go rfl <| acons <| op_go <| c_go <| var_go rfl <| sub_i <| acons <| c_go <| acons <| op_go <| c_go <| c_go <| pow_i (n := 30) (by decide) (by decide) <| acons <| c_go <| acons <| c_go <| acons <| c_go <| acons <| c_go <| acons <| tup1 <| c_go <| lay_tup x26.fh B26 (sz rfl) fun p27 F27 H27 x27 B27 hp27 => ?_
  refine anil <| lay_lst x27.fh B27 (sz rfl) fun p28 F28 H28 x28 B28 hp28 => ?_
  have AN : AllR (qD K) [.int e, .int (0 - e), .int 0, .int (10 ^ 30), .bool true, .bool false, .none, .str "1", .tuple [.int 1]] [.int e, .int (0 - e), .int 0, .int (10 ^ 30), .bl true, .bl false, .non, .str "1", .ref p27] F28 :=
    ⟨.int _, .int _, .int _, .int _, .bl _, .bl _, .non, .str _, .tup (SqT.of (x28.ff _ _ hp27)) (.cons (.int _) .nil), True.intro⟩
  have numN : ([.int e, .int (0 - e), .int 0, .int (10 ^ 30), .bool true, .bool false, .none, .str "1", .tuple [.int 1]] : List PyData).map numD = [true, true, true, true, false, false, false, false, false] := rfl
  refine wl (SqL.of (x28.fh _ _ hp28)) ?_
  refine lc_map (b := some b) (xs := [.int e, .int (0 - e), .int 0, .int (10 ^ 30), .bool true, .bool false, .none, .str "1", .tuple [.int 1]]) (S := qB) numD x28.fh B28 (wk_list hp28) (show 9 < 100000 by decide) (fun i x v F29 H29 hx it x29 B29 Qy k => ?_) fun p30 F30 H30 us30 x30 B30 hp30 A30 => ?_
  · refine name_go (σ' := [some (.ref a), some (.ref b), some (.ref p), some (.int d), some (.str (SX.S be)), some (.str (SX.S lo)), some (.ref p12), some (.ref p17), some (.int e), some v]) rfl ⟨rfl, call1 <| var_go rfl <| sp_go x29.fh ⟨_, rfl, ?_⟩ trivial fun w F31 H31 x31 h => k _ _ _ x31.any (B29.step x31) h⟩
    obtain ⟨w, hw, hd⟩ := AN.get hx
    rw [it] at hw
    cases hw
    exact up x29.ff hd
  rw [A30.bl, numN] at hp30
  refine name_go (σ' := [some (.ref a), some (.ref b), some (.ref p), some (.int d), some (.str (SX.S be)), some (.str (SX.S lo)), some (.ref p30), some (.ref p17), some (.int e), none]) rfl ?_
  refine seq_go <| asg_go <| op_go <| var_go rfl <| lst_go <| acons <| callK1 <| var_go rfl ⟨rfl, rfl, isx x30.fh B30 (.int _) fun F31 H31 x31 B31 => ?_⟩
  refine acons <| callK1 <| c_go ⟨rfl, rfl, isw_s (cs := [97, 98, 99, 120, 121, 122]) x31.fh B31 (by decide) fun F32 H32 x32 B32 => ?_⟩
  refine acons <| call1 <| c_go <| isn_s (cs := [122]) x32.fh B32 (by decide) fun F33 H33 x33 B33 => anil <| lay_lst x33.fh B33 (sz rfl) fun p34 F34 H34 x34 B34 hp34 => ?_
  have X34 := ((x31.trans x32).trans x33).trans x34
  refine add_l x34.fh B34 (x34.fh _ _ (X34.ff _ _ hp30)) (x34.fh _ _ hp34) (sz rfl) fun p35 F35 H35 x35 B35 hp35 => ?_
  rw [show lowL [97, 98, 99, 120, 121, 122] = true by decide +kernel, show nameL [122] = true by decide +kernel] at hp35
  refine name_go (σ' := [some (.ref a), some (.ref b), some (.ref p), some (.int d), some (.str (SX.S be)), some (.str (SX.S lo)), some (.ref p35), some (.ref p17), some (.int e), none]) rfl ?_
  refine ret_go <| call2 <| var_go rfl <| op_go <| op_go <| op_go <| lst_go <| acons <| c_go <| anil <| lay_lst x35.fh B35 (sz rfl) fun p36 F36 H36 x36 B36 hp36 => c_go <| rep_l (k := 4) x36.fh B36 (x36.fh _ _ hp36) (by decide) (sz rfl) fun p37 F37 H37 x37 B37 hp37 => ?_
  refine op_go <| lst_go <| acons <| c_go <| anil <| lay_lst x37.fh B37 (sz rfl) fun p38 F38 H38 x38 B38 hp38 => c_go <| rep_l (k := 5) x38.fh B38 (x38.fh _ _ hp38) (by decide) (sz rfl) fun p39 F39 H39 x39 B39 hp39 => ?_
  refine add_l x39.fh B39 (x39.fh _ _ (x39.ff _ _ (x38.ff _ _ hp37))) (x39.fh _ _ hp39) (sz rfl) fun p40 F40 H40 x40 B40 hp40 => ?_
  refine op_go <| lst_go <| acons <| c_go <| anil <| lay_lst x40.fh B40 (sz rfl) fun p41 F41 H41 x41 B41 hp41 => c_go <| rep_l (k := 3) x41.fh B41 (x41.fh _ _ hp41) (by decide) (sz rfl) fun p42 F42 H42 x42 B42 hp42 => ?_
  refine add_l x42.fh B42 (x42.fh _ _ (x42.ff _ _ (x41.ff _ _ hp40))) (x42.fh _ _ hp42) (sz rfl) fun p43 F43 H43 x43 B43 hp43 => ?_
  have X43 := ((((((x36.trans x37).trans x38).trans x39).trans x40).trans x41).trans x42).trans x43
  exact like_bs (bs := [true, true, true, true, false, false, false, false, false, true, true, true]) x43.fh (X43.ff _ _ hp35) hp43 (by decide) fun F44 H44 x44 => q _

end
/-! ### the head -/
def d_is_word : He.DefD := ⟨("is_word", none), "is_word", "is_word", defArgs st_is_word, defBody st_is_word, defScope st_is_word, [], []⟩
def d_is_name : He.DefD := ⟨("is_name", none), "is_name", "is_name", defArgs st_is_name, defBody st_is_name, defScope st_is_name, [], []⟩
def d_is_number : He.DefD := ⟨("is_number", none), "is_number", "is_number", defArgs st_is_number, defBody st_is_number, defScope st_is_number, [], []⟩
def d_law_draws : He.DefD := ⟨("_law_draws", none), "_law_draws", "_law_draws", defArgs st_law_draws, defBody st_law_draws, defScope st_law_draws, [], []⟩
def d_law_pull : He.DefD := ⟨("_law_pull", none), "_law_pull", "_law_pull", defArgs st_law_pull, defBody st_law_pull, defScope st_law_pull, [], []⟩
def d_law_any : He.DefD := ⟨("_law_any", none), "_law_any", "_law_any", defArgs st_law_any, defBody st_law_any, defScope st_law_any, [], []⟩
def d_law_like : He.DefD := ⟨("_law_like", none), "_law_like", "_law_like", defArgs st_law_like, defBody st_law_like, defScope st_law_like, [], []⟩
def d_law_new_names : He.DefD := ⟨("_law_new_names", none), "_law_new_names", "_law_new_names", defArgs st_law_new_names, defBody st_law_new_names, defScope st_law_new_names, [], []⟩
def d_law : He.DefD := ⟨("law", none), "law", "law", defArgs st_law, defBody st_law, defScope st_law, [], []⟩
def fn : List He.DefD := [d_is_word, d_is_name, d_is_number, d_law_draws, d_law_pull, d_law_any, d_law_like, d_law_new_names, d_law]
def fa : List He.Fa := [.glo "is_word", .glo "is_name", .glo "is_number", .glo "_law_draws", .glo "_law_pull", .glo "_law_any", .glo "_law_like", .glo "_law_new_names", .glo "law", .free "isinstance", .free "all", .free "str", .str "ALPHABET" abcS, .free "len", .int "MOST_NAME" 8, .free "int", .free "bool", .free "list", .free "tuple", .free "zip", .free "range"]
def loose0 : List PySem.Str := [PySem.Str.ofString "ALPHABET", PySem.Str.ofString "MOST_NAME", PySem.Str.ofString "is_word", PySem.Str.ofString "is_name", PySem.Str.ofString "is_number", PySem.Str.ofString "_law_draws", PySem.Str.ofString "_law_pull", PySem.Str.ofString "_law_any", PySem.Str.ofString "_law_like", PySem.Str.ofString "_law_new_names"]
def loose : List PySem.Str := loose0
abbrev R : PySem.W.OpenRow := PySem.W.OpenLaw.row PySem.Challenge.rw_partjoins_k02_names_words_and_numbers
abbrev hk : PySem.W.Hook := He.hookD 6 fa fn
def ob (s : PySem.W.SharedT) : He.AlD := He.obsDG 6 fa fn (HandSHeadRun.getT s)
theorem ob_eq (s : PySem.W.SharedT) : ob s = hk.obs s.abs := He.obsDG_eq (HandSHeadRun.getT_eq s)
set_option maxHeartbeats 0 in
theorem run (w : World) : HandSHeadRun.RunEq R (PySem.W.view R.prog [12]) hk ob 4000 loose w := by
  intro os
  kernel_rfl
theorem facts {P : Program} {w : World} {K : PySem.W.Frag} {h : Heap} {mg : Str → Option Value} {f : Addr} (X : K.In h) (G : h.Ns mainGlobals mg) (hfa : mg ("law" : Str) = some (.ref f)) (c : He.SaysD fa fn K) :
    ∃ fd : FuncData, (∀ (s : Shared) (v : Value), BindsTo s fd ⟨[v], []⟩ [("_law_script", v)]) ∧ ∀ base : Heap, K.In base → base.Ns mainGlobals mg → FnOk P w K mg base CX0 10 f fd ["_law_script"] (sp_law K) := by
  obtain ⟨f_is_word, F_is_word⟩ := c.def_ 0 (d := d_is_word) rfl
  have S_is_word : Stood K mg "is_word" st_is_word := ⟨_, f_is_word, F_is_word, He.glo_ok X G (c.fact 0 (f := .glo "is_word") rfl)⟩
  obtain ⟨f_is_name, F_is_name⟩ := c.def_ 1 (d := d_is_name) rfl
  have S_is_name : Stood K mg "is_name" st_is_name := ⟨_, f_is_name, F_is_name, He.glo_ok X G (c.fact 1 (f := .glo "is_name") rfl)⟩
  obtain ⟨f_is_number, F_is_number⟩ := c.def_ 2 (d := d_is_number) rfl
  have S_is_number : Stood K mg "is_number" st_is_number := ⟨_, f_is_number, F_is_number, He.glo_ok X G (c.fact 2 (f := .glo "is_number") rfl)⟩
  obtain ⟨f_law_draws, F_law_draws⟩ := c.def_ 3 (d := d_law_draws) rfl
  have S_law_draws : Stood K mg "_law_draws" st_law_draws := ⟨_, f_law_draws, F_law_draws, He.glo_ok X G (c.fact 3 (f := .glo "_law_draws") rfl)⟩
  obtain ⟨f_law_pull, F_law_pull⟩ := c.def_ 4 (d := d_law_pull) rfl
  have S_law_pull : Stood K mg "_law_pull" st_law_pull := ⟨_, f_law_pull, F_law_pull, He.glo_ok X G (c.fact 4 (f := .glo "_law_pull") rfl)⟩
  obtain ⟨f_law_any, F_law_any⟩ := c.def_ 5 (d := d_law_any) rfl
  have S_law_any : Stood K mg "_law_any" st_law_any := ⟨_, f_law_any, F_law_any, He.glo_ok X G (c.fact 5 (f := .glo "_law_any") rfl)⟩
  obtain ⟨f_law_like, F_law_like⟩ := c.def_ 6 (d := d_law_like) rfl
  have S_law_like : Stood K mg "_law_like" st_law_like := ⟨_, f_law_like, F_law_like, He.glo_ok X G (c.fact 6 (f := .glo "_law_like") rfl)⟩
  obtain ⟨f_law_new_names, F_law_new_names⟩ := c.def_ 7 (d := d_law_new_names) rfl
  have S_law_new_names : Stood K mg "_law_new_names" st_law_new_names := ⟨_, f_law_new_names, F_law_new_names, He.glo_ok X G (c.fact 7 (f := .glo "_law_new_names") rfl)⟩
  obtain ⟨f_law, F_law⟩ := c.def_ 8 (d := d_law) rfl
  have S_law : Stood K mg "law" st_law := ⟨_, f_law, F_law, He.glo_ok X G (c.fact 8 (f := .glo "law") rfl)⟩
  have z_isinstance := He.free_ok X G (c.fact 9 (f := .free "isinstance") rfl)
  have z_all := He.free_ok X G (c.fact 10 (f := .free "all") rfl)
  have z_str := He.free_ok X G (c.fact 11 (f := .free "str") rfl)
  have g_ALPHABET : ∃ u, mg "ALPHABET" = some u ∧ RelV (.str abcS) u := by
    obtain ⟨t, e⟩ := He.str_ok X G (c.fact 12 (f := .str "ALPHABET" abcS) rfl)
    exact ⟨_, e, t, rfl⟩
  have z_len := He.free_ok X G (c.fact 13 (f := .free "len") rfl)
  have g_MOST_NAME : ∃ u, mg "MOST_NAME" = some u ∧ RelV (.int 8) u := by
    obtain ⟨t, e⟩ := He.int_ok X G (c.fact 14 (f := .int "MOST_NAME" 8) rfl)
    exact ⟨_, e, t, rfl⟩
  have z_int := He.free_ok X G (c.fact 15 (f := .free "int") rfl)
  have z_bool := He.free_ok X G (c.fact 16 (f := .free "bool") rfl)
  have z_list := He.free_ok X G (c.fact 17 (f := .free "list") rfl)
  have z_tuple := He.free_ok X G (c.fact 18 (f := .free "tuple") rfl)
  have z_zip := He.free_ok X G (c.fact 19 (f := .free "zip") rfl)
  have z_range := He.free_ok X G (c.fact 20 (f := .free "range") rfl)
  obtain ⟨fl, fdl, FL, gl⟩ := S_law.ex
  have e := hfa.symm.trans gl
  cases e
  have b := FunD.bindsA (ps := ["_law_script"]) FL fun _ _ _ _ _ _ us hl => match us, hl with | [_], _ => rfl
  refine ⟨fdl, fun s v => b s [v] rfl, fun base _ _ => ?_⟩
  have G0 : Has P w K mg base "law" st_law 10 ["_law_script"] (sp_law K) := by
    have G_is_word := ok_is_word (P := P) (w := w) (base := base) S_is_word z_isinstance z_all z_str g_ALPHABET
    have G_is_name := ok_is_name (P := P) (w := w) (base := base) S_is_name z_len g_MOST_NAME G_is_word
    have G_is_number := ok_is_number (P := P) (w := w) (base := base) S_is_number z_isinstance z_int z_bool
    have G_law_draws := ok_law_draws (P := P) (w := w) (base := base) S_law_draws z_list z_int
    have G_law_pull := ok_law_pull (P := P) (w := w) (base := base) S_law_pull z_len z_int
    have G_law_any := ok_law_any (P := P) (w := w) (base := base) S_law_any z_len G_law_pull
    have G_law_like := ok_law_like (P := P) (w := w) (base := base) S_law_like z_isinstance z_list z_tuple z_bool z_int z_str z_len z_all z_zip
    have G_law_new_names := ok_law_new_names (P := P) (w := w) (base := base) S_law_new_names z_range z_len G_law_pull G_law_any
    have G_law := ok_law (P := P) (w := w) (base := base) S_law z_len G_law_draws G_law_pull G_law_any G_law_new_names G_law_like G_is_name G_is_word G_is_number
    exact G_law
  exact G0.fnOk FL gl

end K02
open PySem PySem.W PySem.Calls PyProof.Rows
set_option maxHeartbeats 0 in
theorem PySem.Challenge.cw_partjoins_k02_names_words_and_numbers_holds : PySem.Challenge.rw_partjoins_k02_names_words_and_numbers.Holds := by
  w_on; o_law
  refine HandSHeadRun.head_any (r := OpenLaw.row PySem.Challenge.rw_partjoins_k02_names_words_and_numbers) (q := view (OpenLaw.row PySem.Challenge.rw_partjoins_k02_names_words_and_numbers).prog [12]) (H := K02.hk) (ob := K02.ob) (M := 4000) (loose := K02.loose) (d := HandSHeadRun.topDef (OpenLaw.row PySem.Challenge.rw_partjoins_k02_names_words_and_numbers).prog 12) (kwd := []) K02.ob_eq
    (by kernel_rfl) (fun s => by kernel_rfl) K02.run (by kernel_rfl) (by kernel_rfl) (by kernel_rfl) (by rfl) (by first | assumption | decide +kernel) (by decide +kernel) ⟨rfl, rfl, rfl, rfl, rfl, by decide +kernel⟩ ?hw ?hc
  case hw => w_witness2
  case hc =>
    refine L2.walk_ofE (l := PySem.Challenge.rw_partjoins_k02_names_words_and_numbers) (n := 63) (k := 10) (x := "_law_script") (CX := L2.CX0) rfl (by decide) (by kernel_rfl) ⟨rfl, by decide, by decide⟩ ?F (fun _ _ _ _ z => z)
    intro w mg fa h Y G hmg0
    obtain ⟨K, KX, c⟩ := Y
    have hmg : mg ("law" : PySem.Str) = some (.ref fa) := by
      have e : (HandSHeadRun.topDef (OpenLaw.row PySem.Challenge.rw_partjoins_k02_names_words_and_numbers).prog 12).name = ("law" : PySem.Str) := by kernel_rfl
      rw [← e]
      exact hmg0
    obtain ⟨fd, hb, hF⟩ := K02.facts (P := (PySem.Challenge.rw_partjoins_k02_names_words_and_numbers).prog) (w := w) KX G hmg c
    exact ⟨K, fd, K02.sp_law K, KX, hb, fun H a ns hl _ hS => ⟨H, a, ns, fun _ _ h => h, rfl, hS, hl, fun _ => rfl⟩, hF⟩

