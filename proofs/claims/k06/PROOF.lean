import PyProof.Rows.All
import Wide.All
import OpenK.AllK
import Wide.FinOn
import KE.KStateDown
import HandS.ForMost
import HandS.Flow
import HandS.Defaults
import HandS.IsInst
import HandS.Steps
import HandS.Zip
import HandS.MakeKwOnly
import HandS.Evl
import HandS.Codes
import HandS.Iter
import HandS.Zip0
import PyProof.EnumMake
import PyProof.Draws
import PyProof.EqAt
import PyProof.EqKinds
import PyProof.TupleCall
import PyProof.StrWalks
import PyProof.Rows.SetFrom
import HandS.Base
import HandS.Call
import HandS.List
import HandS.Set
import HandS.Strs
import HandS.Sort
import HandS.SetTxtIn
import HandS.More
import PyProof.CollectStr
import PyProof.ListStr
import HandS.HotCalls
import HandS.Lambda
import HandS.HeadHook1
import HandS.Style
import HandS.ExcInit
import HandS.CallSlots
import HandS.Property
import HandS.SetKeys
import HandS.ExcSuper
import HandS.ExcField
import HandS.ExcIs
import HandS.EndTab
import KE.KExcSuper
import KE.KSuper
import HandS.ExcCtx
import KE.KDflt
import HandS.EndOwn
import HandS.HeadHook4
import HandS.SlotsOwn
import HandS.ClsMeth
import HandS.Star
import HandS.Spec
import HandS.Replace
import HandS.Head0
import HandS.Head1
import HandS.Head2
import HandS.HeadEnd
import HandS.HeadHook2
import HandS.HeadHook3
import PySem.Challenge.RW_partjoins_k06_counters
set_option Elab.async false
set_option linter.all false
set_option maxRecDepth 100000
set_option maxHeartbeats 4000000
/-! what is frozen, what is owned, what is the bag -/
namespace PX
open PySem PySem.Spec PyProof.Rows L2

/-- what F knows, H knows -/
abbrev Ex (F H : Hp) : Prop := Same F H
theorem Ex.rd {F H : Hp} (e : Ex F H) {a : Addr} {u : HO} (h : Rd F a u) : Rd H a u := by
  rcases h with h | ⟨o, h⟩
  · exact Or.inl (e a _ h)
  · exact Or.inr ⟨o, e a _ h⟩
theorem Ex.sqL {F H : Hp} (e : Ex F H) {K : PySem.W.Frag} {a : Addr} {xs : List V} (h : SqL K F a xs) : SqL K H a xs := e.seq h
theorem Ex.sqT {F H : Hp} (e : Ex F H) {K : PySem.W.Frag} {a : Addr} {xs : List V} (h : SqT K F a xs) : SqT K H a xs := by
  rcases h with h | h
  · exact Or.inl (Ex.rd e h)
  · exact Or.inr h
theorem Ex.new {H : Hp} {p : Addr} {o : HO} (h : H p = none) : Ex H (upd H p o) := fun a u e => by
  rw [upd_ne (ne_of_none e h)]
  exact e

/-- the bag of a law at a: its cells (its list is frozen, the bag itself is not) -/
def Bag (F H : Hp) (a : Addr) : Prop := F a = none ∧ ∃ (l : Addr) (ns : List Int) (i r s c : Int), H a = some (.lst [.ref l, .int i, .int r, .int s, .int c]) ∧ F l = some (.lst (ns.map V.int)) ∧ 0 ≤ i ∧ ns.length ≤ 63 ∧ 0 ≤ r ∧ 0 ≤ s ∧ s < 2147483549
def BagI (b : Option Addr) (F H : Hp) : Prop := ∀ a, b = some a → Bag F H a

/-- a step: F to F', H to H'; what H tracked stays (but for the bag), what is new in F' is new in H' -/
structure Ext (b : Option Addr) (F H F' H' : Hp) : Prop where
  ff : Ex F F'
  fh : Ex F' H'
  hh : ∀ a o, some a ≠ b → H a = some o → H' a = some o
  bb : ∀ a, some a = b → (H a).isSome = true → (H' a).isSome = true
  nw : ∀ a, F a = none → (H a).isSome = true → F' a = none
theorem Ext.refl {b : Option Addr} {F H : Hp} (e : Ex F H) : Ext b F H F H := ⟨fun _ _ h => h, e, fun _ _ _ h => h, fun _ _ h => h, fun _ h _ => h⟩
theorem Ext.some_ {b : Option Addr} {F H F' H' : Hp} (x : Ext b F H F' H') {a : Addr} (h : (H a).isSome = true) : (H' a).isSome = true := by
  by_cases e : some a = b
  · exact x.bb a e h
  · obtain ⟨o, ho⟩ := Option.isSome_iff_exists.mp h
    rw [x.hh a o e ho]; rfl
theorem Ext.trans {b : Option Addr} {F H F1 H1 F2 H2 : Hp} (x : Ext b F H F1 H1) (y : Ext b F1 H1 F2 H2) : Ext b F H F2 H2 :=
  ⟨x.ff.trans y.ff, y.fh, fun a o n h => y.hh a o n (x.hh a o n h), fun a e h => y.bb a e (x.bb a e h), fun a n h => y.nw a (x.nw a n h) (x.some_ h)⟩
/-- a pure step is a step whatever the bag -/
theorem Ext.any {b : Option Addr} {F H F' H' : Hp} (x : Ext none F H F' H') : Ext b F H F' H' :=
  ⟨x.ff, x.fh, fun a o _ h => x.hh a o (by simp) h, fun a _ h => by
    obtain ⟨o, ho⟩ := Option.isSome_iff_exists.mp h
    rw [x.hh a o (by simp) ho]; rfl, x.nw⟩
theorem Ext.same {F H F' H' : Hp} (x : Ext none F H F' H') : Same H H' := fun a o h => x.hh a o (by simp) h
/-- a new object, frozen at once -/
theorem Ext.lay {b : Option Addr} {F H : Hp} (e : Ex F H) {p : Addr} {o : HO} (hp : H p = none) : Ext b F H (upd F p o) (upd H p o) := by
  have fp : F p = none := Same.free e hp
  refine ⟨Ex.new fp, fun a u h => ?_, fun a u _ h => ?_, fun a _ h => ?_, fun a n h => ?_⟩
  · by_cases ha : a = p
    · rw [ha, upd_same] at h ⊢; exact h
    · rw [upd_ne ha] at h ⊢; exact e a u h
  · rw [upd_ne (ne_of_none h hp)]; exact h
  · by_cases ha : a = p
    · rw [ha, upd_same]; rfl
    · rw [upd_ne ha]; exact h
  · rw [upd_ne]
    · exact n
    · rintro rfl
      rw [hp] at h; cases h
/-- a new object, not frozen -/
theorem Ext.own {b : Option Addr} {F H : Hp} (e : Ex F H) {p : Addr} {o : HO} (hp : H p = none) : Ext b F H F (upd H p o) := by
  refine ⟨fun _ _ h => h, e.trans (Ex.new hp), fun a u _ h => (Ex.new hp) a u h, fun a _ h => ?_, fun a n h => n⟩
  obtain ⟨u, hu⟩ := Option.isSome_iff_exists.mp h
  rw [(Ex.new hp) a u hu]; rfl
theorem Bag.isSome {F H : Hp} {b : Addr} (h : Bag F H b) : (H b).isSome = true := by
  obtain ⟨_, l, ns, i, r, s, c, h1, _⟩ := h
  rw [h1]; rfl
theorem BagI.step {b : Option Addr} {F H F' H' : Hp} (B : BagI b F H) (x : Ext none F H F' H') : BagI b F' H' := fun a e => by
  have h := B a e
  have n := x.nw a h.1 h.isSome
  obtain ⟨_, l, ns, i, r, s, c, h1, h2, h3⟩ := h
  exact ⟨n, l, ns, i, r, s, c, x.same _ _ h1, x.ff _ _ h2, h3⟩
theorem bagI_none {F H : Hp} : BagI none F H := fun a e => by cases e

/-! ### what is owned -/
structure Own (b : Option Addr) (H0 F H : Hp) (l : Addr) (o : HO) : Prop where
  n0 : H0 l = none
  nF : F l = none
  nb : some l ≠ b
  at_ : H l = some o
section
variable {b : Option Addr} {F0 H0 F H F' H' : Hp} {l p : Addr} {o u : HO}
theorem Own.step (w : Own b H0 F H l o) (x : Ext b F H F' H') : Own b H0 F' H' l o :=
  ⟨w.n0, x.nw l w.nF (by rw [w.at_]; rfl), w.nb, x.hh l o w.nb w.at_⟩
/-- an address that H does not have is new since the entry -/
theorem Ext.back (X : Ext b F0 H0 F H) (hp : H p = none) : H0 p = none := by
  cases e : H0 p with
  | none => rfl
  | some v =>
    have := X.some_ (a := p) (by rw [e]; rfl)
    rw [hp] at this; cases this
theorem Own.new (X : Ext b F0 H0 F H) (B : BagI b F H) (hp : H p = none) : Own b H0 F (upd H p o) p o :=
  ⟨X.back hp, Same.free X.fh hp, fun e => (by
    have := (B p e.symm).isSome
    rw [hp] at this
    cases this), upd_same⟩
/-- an owned object changes: the step from the entry -/
theorem Own.ext (w : Own b H0 F H l o) (X : Ext b F0 H0 F H) : Ext b F0 H0 F (upd H l u) := by
  refine ⟨X.ff, fun a v h => ?_, fun a v n h => ?_, fun a e h => ?_, X.nw⟩
  · rw [upd_ne (ne_of_none h w.nF)]; exact X.fh a v h
  · rw [upd_ne (ne_of_none h w.n0)]; exact X.hh a v n h
  · have := X.bb a e h
    by_cases ha : a = l
    · rw [ha, upd_same]; rfl
    · rw [upd_ne ha]; exact this
theorem Own.fh (w : Own b H0 F H l o) (e : Ex F H) : Ex F (upd H l u) := fun a v h => by
  rw [upd_ne (ne_of_none h w.nF)]; exact e a v h
theorem Own.set (w : Own b H0 F H l o) : Own b H0 F (upd H l u) l u := ⟨w.n0, w.nF, w.nb, upd_same⟩
theorem Own.other (w : Own b H0 F H l o) (h : l ≠ p) : Own b H0 F (upd H p u) l o := ⟨w.n0, w.nF, w.nb, by rw [upd_ne h]; exact w.at_⟩
theorem Own.new_other (w : Own b H0 F H l o) (hp : H p = none) : Own b H0 F (upd H p u) l o := w.other (ne_of_none w.at_ hp)
theorem Own.bag (w : Own b H0 F H l o) (B : BagI b F H) : BagI b F (upd H l u) := fun a e => by
  obtain ⟨n, l', ns, i, r, s, c, h1, h2, h3⟩ := B a e
  have na : a ≠ l := fun z => w.nb (by rw [← z, e])
  exact ⟨n, l', ns, i, r, s, c, by rw [upd_ne na]; exact h1, h2, h3⟩
theorem BagI.lay (B : BagI b F H) (hp : H p = none) : BagI b F (upd H p o) := fun a e => by
  obtain ⟨n, l', ns, i, r, s, c, h1, h2⟩ := B a e
  exact ⟨n, l', ns, i, r, s, c, by rw [upd_ne (ne_of_none h1 hp)]; exact h1, h2⟩
theorem Own.bagF (w : Own b H0 F H l o) (B : BagI b F H) : BagI b (upd F l u) H := fun a e => by
  obtain ⟨n, l', ns, i, r, s, c, h1, h2, h3⟩ := B a e
  have na : a ≠ l := fun z => w.nb (by rw [← z, e])
  exact ⟨by rw [upd_ne na]; exact n, l', ns, i, r, s, c, h1, by rw [upd_ne (ne_of_none h2 w.nF)]; exact h2, h3⟩
/-- an owned object is frozen -/
theorem Own.freeze (w : Own b H0 F H l o) (X : Ext b F0 H0 F H) : Ext b F0 H0 (upd F l o) H := by
  refine ⟨X.ff.trans (Ex.new w.nF), fun a v h => ?_, X.hh, X.bb, fun a n h => ?_⟩
  · by_cases ha : a = l
    · rw [ha, upd_same] at h
      cases h
      rw [ha]; exact w.at_
    · rw [upd_ne ha] at h; exact X.fh a v h
  · rw [upd_ne]
    · exact X.nw a n h
    · rintro rfl
      rw [w.n0] at h; cases h
end

/-! ### values and what they stand for -/
abbrev Rp (α : Type) := α → V → Hp → Prop
class MonoR {α : Type} (R : Rp α) : Prop where
  up : ∀ {x : α} {v : V} {F F' : Hp}, Ex F F' → R x v F → R x v F'
theorem up {α : Type} {R : Rp α} [MonoR R] {x : α} {v : V} {F F' : Hp} (e : Ex F F') (h : R x v F) : R x v F' := MonoR.up e h
def qI : Rp Int := fun i v _ => v = .int i
def qB : Rp Bool := fun b v _ => v = .bl b
def qS : Rp Str := fun z v _ => v = .str z
def qN : Rp Unit := fun _ v _ => v = .non
instance : MonoR qI := ⟨fun _ h => h⟩
instance : MonoR qB := ⟨fun _ h => h⟩
instance : MonoR qS := ⟨fun _ h => h⟩
instance : MonoR qN := ⟨fun _ h => h⟩
/-- item by item -/
def AllR {α : Type} (R : Rp α) : List α → List V → Hp → Prop
  | [], [], _ => True
  | x :: xs, v :: vs, F => R x v F ∧ AllR R xs vs F
  | _, _, _ => False
section
variable {α β : Type} {R : Rp α} {S : Rp β} {F F' : Hp}
theorem AllR.length : ∀ {xs : List α} {vs : List V}, AllR R xs vs F → xs.length = vs.length
  | [], [], _ => rfl
  | _ :: _, _ :: _, h => congrArg Nat.succ (AllR.length h.2)
  | [], _ :: _, h => h.elim
  | _ :: _, [], h => h.elim
theorem AllR.up [MonoR R] (e : Ex F F') : ∀ {xs : List α} {vs : List V}, AllR R xs vs F → AllR R xs vs F'
  | [], [], _ => True.intro
  | _ :: _, _ :: _, h => ⟨MonoR.up e h.1, AllR.up e h.2⟩
  | [], _ :: _, h => h.elim
  | _ :: _, [], h => h.elim
theorem AllR.get : ∀ {xs : List α} {vs : List V} {i : Nat} {x : α}, AllR R xs vs F → xs[i]? = some x → ∃ v, vs[i]? = some v ∧ R x v F
  | _ :: _, _ :: _, 0, _, h, e => by
    simp at e; subst e
    exact ⟨_, rfl, h.1⟩
  | _ :: _, _ :: _, i + 1, x, h, e => by
    obtain ⟨v, h1, h2⟩ := AllR.get (i := i) (x := x) h.2 (by simpa using e)
    exact ⟨v, by simpa using h1, h2⟩
  | [], [], _, _, _, e => by simp at e
  | [], _ :: _, _, _, h, _ => h.elim
  | _ :: _, [], _, _, h, _ => h.elim
theorem AllR.back : ∀ {xs : List α} {vs : List V} {i : Nat} {v : V}, AllR R xs vs F → vs[i]? = some v → ∃ x, xs[i]? = some x ∧ R x v F
  | _ :: _, _ :: _, 0, _, h, e => by
    simp at e; subst e
    exact ⟨_, rfl, h.1⟩
  | _ :: _, _ :: _, i + 1, x, h, e => by
    obtain ⟨v, h1, h2⟩ := AllR.back (i := i) (v := x) h.2 (by simpa using e)
    exact ⟨v, by simpa using h1, h2⟩
  | [], [], _, _, _, e => by simp at e
  | [], _ :: _, _, _, h, _ => h.elim
  | _ :: _, [], _, _, h, _ => h.elim
theorem AllR.append : ∀ {xs ys : List α} {vs ws : List V}, AllR R xs vs F → AllR R ys ws F → AllR R (xs ++ ys) (vs ++ ws) F
  | [], _, [], _, _, h => h
  | _ :: _, _, _ :: _, _, h, k => ⟨h.1, AllR.append h.2 k⟩
  | [], _, _ :: _, _, h, _ => h.elim
  | _ :: _, _, [], _, h, _ => h.elim
theorem AllR.one {x : α} {v : V} (h : R x v F) : AllR R [x] [v] F := ⟨h, True.intro⟩
theorem AllR.take (n : Nat) : ∀ {xs : List α} {vs : List V}, AllR R xs vs F → AllR R (xs.take n) (vs.take n) F := by
  induction n with
  | zero => intro xs vs _; simp; exact True.intro
  | succ n ih =>
    intro xs vs h
    match xs, vs, h with
    | [], [], _ => exact True.intro
    | _ :: _, _ :: _, h => exact ⟨h.1, ih h.2⟩
theorem AllR.drop (n : Nat) : ∀ {xs : List α} {vs : List V}, AllR R xs vs F → AllR R (xs.drop n) (vs.drop n) F := by
  induction n with
  | zero => intro xs vs h; exact h
  | succ n ih =>
    intro xs vs h
    match xs, vs, h with
    | [], [], _ => exact True.intro
    | _ :: _, _ :: _, h => exact ih h.2
theorem AllR.int {F : Hp} : ∀ {xs : List Int} {vs : List V}, AllR qI xs vs F → vs = xs.map V.int
  | [], [], _ => rfl
  | x :: xs, v :: vs, h => by
    rw [List.map_cons, ← AllR.int h.2, show v = V.int x from h.1]
  | [], _ :: _, h => h.elim
  | _ :: _, [], h => h.elim
theorem AllR.str {F : Hp} : ∀ {xs : List Str} {vs : List V}, AllR qS xs vs F → vs = xs.map V.str
  | [], [], _ => rfl
  | x :: xs, v :: vs, h => by
    rw [List.map_cons, ← AllR.str h.2, show v = V.str x from h.1]
  | [], _ :: _, h => h.elim
  | _ :: _, [], h => h.elim
theorem AllR.bl {F : Hp} : ∀ {xs : List Bool} {vs : List V}, AllR qB xs vs F → vs = xs.map V.bl
  | [], [], _ => rfl
  | x :: xs, v :: vs, h => by
    rw [List.map_cons, ← AllR.bl h.2, show v = V.bl x from h.1]
  | [], _ :: _, h => h.elim
  | _ :: _, [], h => h.elim
theorem AllR.of_map {f : α → V} (h : ∀ x, R x (f x) F) : ∀ xs : List α, AllR R xs (xs.map f) F
  | [] => True.intro
  | x :: xs => ⟨h x, AllR.of_map h xs⟩
end
/-- a list that stands still -/
def qL {α : Type} (R : Rp α) : Rp (List α) := fun xs v F => ∃ a vs, v = .ref a ∧ F a = some (.lst vs) ∧ AllR R xs vs F
/-- a tuple of any length -/
def qTs {α : Type} (R : Rp α) : Rp (List α) := fun xs v F => ∃ a vs, v = .ref a ∧ F a = some (.tup vs) ∧ AllR R xs vs F
def qT2 {α β : Type} (R : Rp α) (S : Rp β) : Rp (α × β) := fun p v F => ∃ a u w, v = .ref a ∧ F a = some (.tup [u, w]) ∧ R p.1 u F ∧ S p.2 w F
def qT3 {α β γ : Type} (R : Rp α) (S : Rp β) (T : Rp γ) : Rp (α × β × γ) := fun p v F => ∃ a u w x, v = .ref a ∧ F a = some (.tup [u, w, x]) ∧ R p.1 u F ∧ S p.2.1 w F ∧ T p.2.2 x F
def qO {α : Type} (R : Rp α) : Rp (Option α) := fun o v F => match o with
  | none => v = .non
  | some x => R x v F
def qD (K : PySem.W.Frag) : Rp PyData := fun d v F => Dp K F v d
instance {α : Type} {R : Rp α} [MonoR R] : MonoR (qL R) := ⟨fun e ⟨a, vs, h1, h2, h3⟩ => ⟨a, vs, h1, e _ _ h2, h3.up e⟩⟩
instance {α : Type} {R : Rp α} [MonoR R] : MonoR (qTs R) := ⟨fun e ⟨a, vs, h1, h2, h3⟩ => ⟨a, vs, h1, e _ _ h2, h3.up e⟩⟩
instance {α β : Type} {R : Rp α} {S : Rp β} [MonoR R] [MonoR S] : MonoR (qT2 R S) := ⟨fun e ⟨a, u, w, h1, h2, h3, h4⟩ => ⟨a, u, w, h1, e _ _ h2, up e h3, up e h4⟩⟩
instance {α β γ : Type} {R : Rp α} {S : Rp β} {T : Rp γ} [MonoR R] [MonoR S] [MonoR T] : MonoR (qT3 R S T) := ⟨fun e ⟨a, u, w, x, h1, h2, h3, h4, h5⟩ => ⟨a, u, w, x, h1, e _ _ h2, up e h3, up e h4, up e h5⟩⟩
instance {α : Type} {R : Rp α} [MonoR R] : MonoR (qO R) := ⟨fun {x v F F'} e h => by
  cases x with
  | none => exact h
  | some x => exact MonoR.up (R := R) e h⟩
mutual
theorem dp_up {K : PySem.W.Frag} {F F' : Hp} (e : Ex F F') : ∀ {v : V} {d : PyData}, Dp K F v d → Dp K F' v d
  | _, _, .non => .non
  | _, _, .bl b => .bl b
  | _, _, .int i => .int i
  | _, _, .str x => .str x
  | _, _, .lst h k => .lst (e.sqL h) (dpAll_up e k)
  | _, _, .tup h k => .tup (e.sqT h) (dpAll_up e k)
theorem dpAll_up {K : PySem.W.Frag} {F F' : Hp} (e : Ex F F') : ∀ {vs : List V} {ds : List PyData}, DpAll K F vs ds → DpAll K F' vs ds
  | _, _, .nil => .nil
  | _, _, .cons h k => .cons (dp_up e h) (dpAll_up e k)
end
instance {K : PySem.W.Frag} : MonoR (qD K) := ⟨fun e h => dp_up e h⟩
/-- the plain data that a thing is -/
class Dat {α : Type} (K : PySem.W.Frag) (R : Rp α) (f : outParam (α → PyData)) : Prop where
  to : ∀ {x : α} {v : V} {F : Hp}, R x v F → Dp K F v (f x)
theorem dat {α : Type} {K : PySem.W.Frag} {R : Rp α} {f : α → PyData} [Dat K R f] {x : α} {v : V} {F : Hp} (h : R x v F) : Dp K F v (f x) := Dat.to h
instance {K : PySem.W.Frag} : Dat K qI PyData.int := ⟨fun h => by cases h; exact .int _⟩
instance {K : PySem.W.Frag} : Dat K qB PyData.bool := ⟨fun h => by cases h; exact .bl _⟩
instance {K : PySem.W.Frag} : Dat K qS PyData.str := ⟨fun h => by cases h; exact .str _⟩
instance {K : PySem.W.Frag} : Dat K qN (fun _ => PyData.none) := ⟨fun h => by cases h; exact .non⟩
instance {K : PySem.W.Frag} : Dat K (qD K) id := ⟨fun h => h⟩
theorem dpAll_of {α : Type} {K : PySem.W.Frag} {R : Rp α} {f : α → PyData} [Dat K R f] {F : Hp} : ∀ {xs : List α} {vs : List V}, AllR R xs vs F → DpAll K F vs (xs.map f)
  | [], [], _ => .nil
  | _ :: _, _ :: _, h => .cons (Dat.to h.1) (dpAll_of h.2)
  | [], _ :: _, h => h.elim
  | _ :: _, [], h => h.elim
instance {α : Type} {K : PySem.W.Frag} {R : Rp α} {f : α → PyData} [Dat K R f] : Dat K (qL R) (fun xs => .list (xs.map f)) := ⟨fun ⟨a, vs, h1, h2, h3⟩ => by
  subst h1
  exact .lst (SqL.of h2) (dpAll_of h3)⟩
instance {α : Type} {K : PySem.W.Frag} {R : Rp α} {f : α → PyData} [Dat K R f] : Dat K (qTs R) (fun xs => .tuple (xs.map f)) := ⟨fun ⟨a, vs, h1, h2, h3⟩ => by
  subst h1
  exact .tup (SqT.of h2) (dpAll_of h3)⟩
instance {α β : Type} {K : PySem.W.Frag} {R : Rp α} {S : Rp β} {f : α → PyData} {g : β → PyData} [Dat K R f] [Dat K S g] : Dat K (qT2 R S) (fun p => .tuple [f p.1, g p.2]) := ⟨fun ⟨a, u, w, h1, h2, h3, h4⟩ => by
  subst h1
  exact .tup (SqT.of h2) (.cons (Dat.to h3) (.cons (Dat.to h4) .nil))⟩
end PX

/-! the operators, whatever the kinds; walks; comprehensions; loops -/
namespace PX
open PySem PySem.Spec PyProof.Rows L2 RZ

section
variable {X : Cx}
/-! ### operators -/
abbrev rAddS : R2 := fun x y H Q => ∃ i j, x = .str i ∧ y = .str j ∧ i.length + j.length ≤ sizeLine ∧ Q (.str (i ++ j)) H
def rAdd (K : PySem.W.Frag) : R2 := fun x y H Q => rI0 (fun i j => .int (i + j)) x y H Q ∨ (rAddS x y H Q ∨ (rCat x y H Q ∨ rCatT K x y H Q))
theorem o_add (K : PySem.W.Frag) (hK : X.K = K := by rfl) : OpR X (binaryOp .Add) (rAdd K) := by subst hK; exact op_add.or (op_add_str.or (op_cat.or op_catT))
def rSub : R2 := rI0 fun i j => .int (i - j)
theorem o_sub : OpR X (binaryOp .Sub) rSub := op_sub
def rMul : R2 := fun x y H Q => rI CMul (fun i j => .int (i * j)) x y H Q ∨ rRep x y H Q
theorem o_mul : OpR X (binaryOp .Mult) rMul := op_mul.or op_rep
def rFdiv : R2 := rI CDivN fun i j => .int (i.fdiv j)
theorem o_fdiv : OpR X (binaryOp .FloorDiv) rFdiv := op_fdivN
def rMod : R2 := rI (fun _ j => j ≠ 0) fun i j => .int (i.fmod j)
theorem o_mod : OpR X (binaryOp .Mod) rMod := op_modN
def rPow : R2 := rI CPow fun i j => .int (i ^ j.toNat)
theorem o_pow : OpR X (binaryOp .Pow) rPow := op_pow
abbrev rLtS : R2 := fun x y H Q => ∃ i j, x = .str i ∧ y = .str j ∧ Q (.bl (decide (i.cps.toList < j.cps.toList))) H
def rLt : R2 := fun x y H Q => rI0 (fun i j => .bl (decide (i < j))) x y H Q ∨ rLtS x y H Q
theorem o_lt : OpR X (compareOp .Lt) rLt := op_lt.or op_lt_str
def rLe : R2 := rI0 fun i j => .bl (decide (i ≤ j))
theorem o_le : OpR X (compareOp .LtE) rLe := op_le
def rGt : R2 := rI0 fun i j => .bl (decide (j < i))
theorem o_gt : OpR X (compareOp .Gt) rGt := op_gt
def rGe : R2 := rI0 fun i j => .bl (decide (j ≤ i))
theorem o_ge : OpR X (compareOp .GtE) rGe := op_ge
def rEqq (K : PySem.W.Frag) : R2 := fun x y H Q => rEq x y H Q ∨ rEqD K x y H Q
theorem o_eq (K : PySem.W.Frag) (hu : X.A.units + 64 < cLine) (hK : X.K = K := by rfl) : OpR X (compareOp .Eq) (rEqq K) := by subst hK; exact op_eq.or (op_eqD hu)
def rNee (K : PySem.W.Frag) : R2 := fun x y H Q => rNe x y H Q ∨ rNeD K x y H Q
theorem o_ne (K : PySem.W.Frag) (hu : X.A.units + 64 < cLine) (hK : X.K = K := by rfl) : OpR X (compareOp .NotEq) (rNee K) := by subst hK; exact op_ne.or (op_neD hu)
def rInn (K : PySem.W.Frag) : R2 := fun x y H Q => rInS x y H Q ∨ rIn K false x y H Q
theorem o_in (K : PySem.W.Frag) (hK : X.K = K := by rfl) : OpR X (compareOp .In) (rInn K) := by subst hK; exact op_inS.or op_in_seq
def rNin (K : PySem.W.Frag) : R2 := fun x y H Q => rNotInS x y H Q ∨ rIn K true x y H Q
theorem o_nin (K : PySem.W.Frag) (hK : X.K = K := by rfl) : OpR X (compareOp .NotIn) (rNin K) := by subst hK; exact op_notInS.or op_notIn_seq
def rSl (K : PySem.W.Frag) : V → Option Int → Option Int → Hp → VK → Prop := fun x lo hi H Q => rSlL K x lo hi H Q ∨ rSlS x lo hi H Q
theorem SlR.or {r r' : V → Option Int → Option Int → Hp → VK → Prop} (h : SlR X r) (h' : SlR X r') : SlR X (fun x lo hi H Q => r x lo hi H Q ∨ r' x lo hi H Q) := by
  intro pins s σ H x v vl vu lo hi sl Q I rx hs pl pu q
  rcases q with q | q
  · exact h pins s σ H x v vl vu lo hi sl Q I rx hs pl pu q
  · exact h' pins s σ H x v vl vu lo hi sl Q I rx hs pl pu q
theorem o_slice (K : PySem.W.Frag) (hK : X.K = K := by rfl) : SlR X (rSl K) := by subst hK; exact SlR.or sl_list sl_str
theorem k_ix (K : PySem.W.Frag) (hK : X.K = K := by rfl) : IxR X (rIx K) := by subst hK; exact ix_seq
def rLen (K : PySem.W.Frag) : List V → Hp → VK → Prop := fun xs H Q => ∃ x n, xs = [x] ∧ LenV K x H n ∧ Q (.int n) H
theorem k_len (K : PySem.W.Frag) (hK : X.K = K := by rfl) : CallR X (.builtin "len") (rLen K) := by subst hK; exact call_len
theorem k_isi (K : PySem.W.Frag) (hK : X.K = K := by rfl) : CallR X (.builtin "isinstance") (rIsi K) := by subst hK; exact call_isi
theorem k_isiT (K : PySem.W.Frag) (hK : X.K = K := by rfl) : CallR X (.builtin "isinstance") (rIsiT K) := by subst hK; exact call_isiT
def rInt1 : List V → Hp → VK → Prop := fun xs H Q => (∃ i, xs = [.int i] ∧ Q (.int i) H) ∨ ∃ k, xs = [.bl k] ∧ Q (.int (if k then 1 else 0)) H
theorem k_int : CallR X (.type "int") rInt1 := call_int1
theorem k_all (K : PySem.W.Frag) (hc : X.calm = true) (hK : X.K = K := by rfl) : CallR X (.builtin "all") (rAll K) := by subst hK; exact cr_all hc
theorem k_any (K : PySem.W.Frag) (hc : X.calm = true) (hK : X.K = K := by rfl) : CallR X (.builtin "any") (rAny K) := by subst hK; exact cr_any hc
theorem k_sum (K : PySem.W.Frag) (hc : X.calm = true) (hK : X.K = K := by rfl) : CallR X (.builtin "sum") (rSum K) := by subst hK; exact cr_sum hc
theorem k_max (K : PySem.W.Frag) (hc : X.calm = true) (hK : X.K = K := by rfl) : CallR X (.builtin "max") (rMax K) := by subst hK; exact cr_max hc
theorem k_min (K : PySem.W.Frag) (hc : X.calm = true) (hK : X.K = K := by rfl) : CallR X (.builtin "min") (rMin K) := by subst hK; exact cr_min hc
def rToL (K : PySem.W.Frag) : List V → Hp → VK → Prop := fun xs H Q => ∃ p ys, xs = [.ref p] ∧ (SqL K H p ys ∨ SqT K H p ys) ∧ ∀ l, H l = none → Q (.ref l) (upd H l (.lst ys))
theorem k_list (K : PySem.W.Frag) (hK : X.K = K := by rfl) : CallR X (.type "list") (rToL K) := by subst hK; exact call_list_of
def rToT (K : PySem.W.Frag) : List V → Hp → VK → Prop := fun xs H Q => ∃ p ys, xs = [.ref p] ∧ ((SqL K H p ys ∧ ∀ l, H l = none → Q (.ref l) (upd H l (.tup ys))) ∨ (SqT K H p ys ∧ Q (.ref p) H))
theorem k_tuple (K : PySem.W.Frag) (hK : X.K = K := by rfl) : CallR X (.type "tuple") (rToT K) := by subst hK; exact call_tuple_of
def rJoin (K : PySem.W.Frag) : V → List V → Hp → VK → Prop := fun x xs H Q => ∃ a p, ∃ ys : List Str, x = .str a ∧ xs = [.ref p] ∧ (SqL K H p (ys.map V.str) ∨ SqT K H p (ys.map V.str)) ∧ (ys.map (·.length)).sum + ys.length * a.length ≤ 16777216 ∧ Q (.str (Txt.join a ys)) H
theorem k_join (K : PySem.W.Frag) (hK : X.K = K := by rfl) : MtR X "str.join" (rJoin K) := by subst hK; exact mt_join
theorem k_tup (K : PySem.W.Frag) {es : List Expr} {pos : Pos} {k : Nat} {t : TGs} {n : Nat} (hc : X.calm = true) (h : PGs X es t) (hK : X.K = K := by rfl)
    (hn : (assignEach es X.env).length = n := by rfl) (hst : (assignEach es X.env).findIdx? (·.1) = none := by rfl) : PG X (.Tuple es k pos) (gTup K n t) := by subst hK; exact pg_tup hc h hn hst
theorem k_join1 (K : PySem.W.Frag) {o e : Expr} {to te : TE} {apos pos : Pos} (ho : PE X o to) (he : PE X e te) (hK : X.K = K := by rfl) (hs : starEach [e] X.env = [(false, eval e X.env)] := by rfl) (hbase : attributeBase o "join" X.env (eval o X.env) = eval o X.env := by rfl) (hline : (apos.endLine == pos.line) = true := by rfl) :
    PE X (.Call (.Attribute o "join" apos) [e] [] pos) (tM1 (rJoin K) to te) := pe_m1 F.slot_str_join F.type_str_join (k_join K hK) ho he hs hbase hline
theorem k_truth (K : PySem.W.Frag) {a : Expr} {ta : TE} (ha : PE X a ta) (he : ∀ whole, isTrue a X.env whole = (do let v ← whole; standAt a.pos; holding [v] (truthy v))) (hK : X.K = K := by rfl) : PT X a (tTru K ta) := by subst hK; exact pt_truth ha he
theorem k_orT (K : PySem.W.Frag) {a b : Expr} {rest : List Expr} {ta tb : TE} {pos : Pos} (ha : PE X a ta) (hb : PE X (.BoolOp .Or (b :: rest) pos) tb) (hK : X.K = K := by rfl) : PE X (.BoolOp .Or (a :: b :: rest) pos) (tOrT K ta tb) := by subst hK; exact pe_orT ha hb
theorem k_andT (K : PySem.W.Frag) {a b : Expr} {rest : List Expr} {ta tb : TE} {pos : Pos} (ha : PE X a ta) (hb : PE X (.BoolOp .And (b :: rest) pos) tb) (hK : X.K = K := by rfl) : PE X (.BoolOp .And (a :: b :: rest) pos) (tAndT K ta tb) := by subst hK; exact pe_andT ha hb
theorem k_notT (K : PySem.W.Frag) {a : Expr} {ta : TE} {pos : Pos} (ha : PE X a ta) (hK : X.K = K := by rfl) : PE X (.UnaryOp .Not a pos) (tNotT K ta) := by subst hK; exact pe_notT ha
theorem k_fld (K : PySem.W.Frag) {e : Expr} {ta : TE} {f : Str} {pos : Pos} (he : PE X e ta) (hb : attributeBase e f X.env (eval e X.env) = eval e X.env := by rfl) (hK : X.K = K := by rfl) : PE X (.Attribute e f pos) (tFld K ta f) := by subst hK; exact pe_fld he hb
theorem i_enum (K : PySem.W.Frag) {e : Expr} {ta : TA} {p pos tpos : Pos} {elts : List Expr} {kk : Nat} (hg : Gl X "enumerate") (hm : X.mg "enumerate" = none) (ha : PA X [e] ta) (hK : X.K = K := by rfl) (hs : starEach [e] X.env = [(false, eval e X.env)] := by rfl) :
    PI X (.Tuple elts kk tpos) (.Call (.Name "enumerate" p) [e] [] pos) (iEnum K ta) := by subst hK; exact pi_enum hg hm ha hs
def iZipB (K : PySem.W.Frag) (ta : TA) : TI := fun σ H R => ta σ H fun vs H1 => ∃ a b xs ys, vs = [.ref a, .ref b] ∧ ((SqL K H1 a xs ∧ SqL K H1 b ys ∧ R (Itz K a b) H1) ∨ (SqT K H1 a xs ∧ SqT K H1 b ys ∧ R (ItzT K a b) H1))
theorem i_zip (K : PySem.W.Frag) {e e2 : Expr} {ta : TA} {p pos tpos : Pos} {elts : List Expr} {kk : Nat} (hg : Gl X "zip") (hm : X.mg "zip" = none) (ha : PA X [e, e2] ta) (hK : X.K = K := by rfl)
    (hs : starEach [e, e2] X.env = (false, eval e X.env) :: starEach [e2] X.env := by rfl) (hpl : (backTo pos (starEach [e2] X.env)).any (·.1) = false := by rfl) :
    PI X (.Tuple elts kk tpos) (.Call (.Name "zip" p) [e, e2] [] pos) (iZipB K ta) := by subst hK; exact pi_zipA hg hm ha hs hpl
end

section
variable {K : PySem.W.Frag} {H : Hp} {Q : VK} {x y : V}
theorem add_i {i j : Int} (q : Q (.int (i + j)) H) : rAdd K (.int i) (.int j) H Q := .inl ⟨i, j, rfl, rfl, q⟩
theorem add_s {i j : Str} (h : i.length + j.length ≤ sizeLine) (q : Q (.str (i ++ j)) H) : rAdd K (.str i) (.str j) H Q := .inr (.inl ⟨i, j, rfl, rfl, h, q⟩)
theorem sub_i {i j : Int} (q : Q (.int (i - j)) H) : rSub (.int i) (.int j) H Q := ⟨i, j, rfl, rfl, q⟩
theorem mul_r {i j : Int} (h1 : -(2 ^ 64) < j) (h2 : j < 2 ^ 64) (q : Q (.int (i * j)) H) : rMul (.int i) (.int j) H Q := .inl ⟨i, j, rfl, rfl, .inr ⟨h1, h2⟩, q⟩
theorem mul_l {i j : Int} (h1 : -(2 ^ 64) < i) (h2 : i < 2 ^ 64) (q : Q (.int (i * j)) H) : rMul (.int i) (.int j) H Q := .inl ⟨i, j, rfl, rfl, .inl ⟨h1, h2⟩, q⟩
theorem fdiv_i {i j : Int} (h1 : 0 < j) (h2 : j < 1073741824) (q : Q (.int (i / j)) H) : rFdiv (.int i) (.int j) H Q := ⟨i, j, rfl, rfl, ⟨by omega, by omega⟩, by
  show Q (.int (i.fdiv j)) H
  rw [Int.fdiv_eq_ediv_of_nonneg i (by omega)]
  exact q⟩
theorem mod_i {i j : Int} (h1 : 0 < j) (q : Q (.int (i % j)) H) : rMod (.int i) (.int j) H Q := ⟨i, j, rfl, rfl, by omega, by
  show Q (.int (i.fmod j)) H
  rw [Int.fmod_eq_emod_of_nonneg i (by omega)]
  exact q⟩
theorem pow_i {i : Int} {n : Nat} (h2 : n ≤ 1000000) (h3 : i.natAbs < 2 ^ 64) (q : Q (.int (i ^ n)) H) : rPow (.int i) (.int n) H Q := ⟨i, n, rfl, rfl, ⟨by omega, by omega, h3⟩, by
  show Q (.int (i ^ ((n : Int)).toNat)) H
  rw [Int.toNat_natCast]
  exact q⟩
theorem lt_i {i j : Int} (q : Q (.bl (decide (i < j))) H) : rLt (.int i) (.int j) H Q := .inl ⟨i, j, rfl, rfl, q⟩
theorem le_i {i j : Int} (q : Q (.bl (decide (i ≤ j))) H) : rLe (.int i) (.int j) H Q := ⟨i, j, rfl, rfl, q⟩
theorem gt_i {i j : Int} (q : Q (.bl (decide (j < i))) H) : rGt (.int i) (.int j) H Q := ⟨i, j, rfl, rfl, q⟩
theorem ge_i {i j : Int} (q : Q (.bl (decide (j ≤ i))) H) : rGe (.int i) (.int j) H Q := ⟨i, j, rfl, rfl, q⟩
theorem eq_v (h : scal x y = true) (q : Q (.bl (decide (x = y))) H) : rEqq K x y H Q := .inl ⟨h, q⟩
theorem ne_v (h : scal x y = true) (q : Q (.bl (!decide (x = y))) H) : rNee K x y H Q := .inl ⟨h, q⟩
theorem dvi {i j : Int} : decide (V.int i = V.int j) = decide (i = j) := by by_cases h : i = j <;> simp [h]
theorem dvs {i j : Str} : decide (V.str i = V.str j) = decide (i = j) := by by_cases h : i = j <;> simp [h]
theorem dvb {i j : Bool} : decide (V.bl i = V.bl j) = decide (i = j) := by by_cases h : i = j <;> simp [h]
theorem eq_i {i j : Int} (q : Q (.bl (decide (i = j))) H) : rEqq K (.int i) (.int j) H Q := eq_v rfl (by rw [dvi]; exact q)
theorem eq_s {i j : Str} (q : Q (.bl (decide (i = j))) H) : rEqq K (.str i) (.str j) H Q := eq_v rfl (by rw [dvs]; exact q)
theorem eq_b {i j : Bool} (q : Q (.bl (decide (i = j))) H) : rEqq K (.bl i) (.bl j) H Q := eq_v rfl (by rw [dvb]; exact q)
theorem ne_i {i j : Int} (q : Q (.bl (!decide (i = j))) H) : rNee K (.int i) (.int j) H Q := ne_v rfl (by rw [dvi]; exact q)
theorem ne_s {i j : Str} (q : Q (.bl (!decide (i = j))) H) : rNee K (.str i) (.str j) H Q := ne_v rfl (by rw [dvs]; exact q)
theorem ne_b {i j : Bool} (q : Q (.bl (!decide (i = j))) H) : rNee K (.bl i) (.bl j) H Q := ne_v rfl (by rw [dvb]; exact q)
theorem eq_d {d e : PyData} (hx : Dp K H x d) (hy : Dp K H y e) (sd : SeqAt.shaped d = true) (se : SeqAt.shaped e = true) (q : Q (.bl (PyData.eqv d e)) H) : rEqq K x y H Q := .inr ⟨d, e, hx, hy, sd, se, q⟩
theorem ne_d {d e : PyData} (hx : Dp K H x d) (hy : Dp K H y e) (sd : SeqAt.shaped d = true) (se : SeqAt.shaped e = true) (q : Q (.bl (!PyData.eqv d e)) H) : rNee K x y H Q := .inr ⟨d, e, hx, hy, sd, se, q⟩
theorem in_c {c : Nat} {z : Str} (q : Q (.bl (decide (c ∈ z.cps.toList))) H) : rInn K (.str ⟨#[c]⟩) (.str z) H Q := .inl ⟨c, z, rfl, rfl, q⟩
theorem nin_c {c : Nat} {z : Str} (q : Q (.bl (!decide (c ∈ z.cps.toList))) H) : rNin K (.str ⟨#[c]⟩) (.str z) H Q := .inl ⟨c, z, rfl, rfl, q⟩
theorem in_l {p : Addr} {xs : List V} (h : H p = some (.lst xs)) (hx : flatV x = true) (hs : xs.all flatV = true) (q : Q (.bl (inV x xs)) H) : rInn K x (.ref p) H Q := .inr ⟨p, xs, rfl, .inl (SqL.of h), hx, hs, q⟩
theorem nin_l {p : Addr} {xs : List V} (h : H p = some (.lst xs)) (hx : flatV x = true) (hs : xs.all flatV = true) (q : Q (.bl (!inV x xs)) H) : rNin K x (.ref p) H Q := .inr ⟨p, xs, rfl, .inl (SqL.of h), hx, hs, q⟩
theorem in_t {p : Addr} {xs : List V} (h : H p = some (.tup xs)) (hx : flatV x = true) (hs : xs.all flatV = true) (q : Q (.bl (inV x xs)) H) : rInn K x (.ref p) H Q := .inr ⟨p, xs, rfl, .inr (SqT.of h), hx, hs, q⟩
theorem nin_t {p : Addr} {xs : List V} (h : H p = some (.tup xs)) (hx : flatV x = true) (hs : xs.all flatV = true) (q : Q (.bl (!inV x xs)) H) : rNin K x (.ref p) H Q := .inr ⟨p, xs, rfl, .inr (SqT.of h), hx, hs, q⟩
/-- subscripts -/
theorem ix_l {p : Addr} {xs : List V} {j : Nat} {v : V} (h : H p = some (.lst xs)) (e : xs[j]? = some v) (q : Q v H) : rIx K (.ref p) (.int (j : Int)) H Q := .inl ⟨p, xs, j, v, rfl, rfl, SqL.of h, atI_nat e, q⟩
theorem ix_li {p : Addr} {xs : List V} {i : Int} {v : V} (h : H p = some (.lst xs)) (e : atI xs i = some v) (q : Q v H) : rIx K (.ref p) (.int i) H Q := .inl ⟨p, xs, i, v, rfl, rfl, SqL.of h, e, q⟩
theorem ix_t {p : Addr} {xs : List V} {j : Nat} {v : V} (h : H p = some (.tup xs)) (e : xs[j]? = some v) (q : Q v H) : rIx K (.ref p) (.int (j : Int)) H Q := .inr (.inl ⟨p, xs, j, v, rfl, rfl, SqT.of h, atI_nat e, q⟩)
theorem ix_ti {p : Addr} {xs : List V} {i : Int} {v : V} (h : H p = some (.tup xs)) (e : atI xs i = some v) (q : Q v H) : rIx K (.ref p) (.int i) H Q := .inr (.inl ⟨p, xs, i, v, rfl, rfl, SqT.of h, e, q⟩)
theorem ix_s {z : Str} {j c : Nat} (h : z.length ≤ sizeLine) (e : z.cps.toList[j]? = some c) (q : Q (.str ⟨#[c]⟩) H) : rIx K (.str z) (.int (j : Int)) H Q := .inr (.inr ⟨z, j, c, rfl, rfl, h, atI_nat e, q⟩)
theorem ix_si {z : Str} {i : Int} {c : Nat} (h : z.length ≤ sizeLine) (e : atI z.cps.toList i = some c) (q : Q (.str ⟨#[c]⟩) H) : rIx K (.str z) (.int i) H Q := .inr (.inr ⟨z, i, c, rfl, rfl, h, e, q⟩)
/-- slices -/
theorem sl_s {z : Str} {lo hi : Option Int} (h : z.length ≤ sizeLine) (q : Q (.str (cutS z lo hi)) H) : rSl K (.str z) lo hi H Q := .inr ⟨z, rfl, h, q⟩
end

/-! ### allocation, in CPS: the new object frozen -/
section
variable {b : Option Addr} {F H : Hp} {Q : VK} {xs : List V}
theorem lay_lst (hF : Ex F H) (B : BagI b F H) (hz : xs.length ≤ sizeLine) (q : ∀ p F' H', Ext b F H F' H' → BagI b F' H' → F' p = some (.lst xs) → Q (.ref p) H') : xs.length ≤ sizeLine ∧ ∀ p, H p = none → Q (.ref p) (upd H p (.lst xs)) :=
  ⟨hz, fun p hp => q p _ _ (Ext.lay hF hp) (B.step (Ext.lay hF hp)) upd_same⟩
theorem lay_tup (hF : Ex F H) (B : BagI b F H) (hz : xs.length ≤ sizeLine) (q : ∀ p F' H', Ext b F H F' H' → BagI b F' H' → F' p = some (.tup xs) → Q (.ref p) H') : xs.length ≤ sizeLine ∧ ∀ p, H p = none → Q (.ref p) (upd H p (.tup xs)) :=
  ⟨hz, fun p hp => q p _ _ (Ext.lay hF hp) (B.step (Ext.lay hF hp)) upd_same⟩
theorem small {n : Nat} (h : n ≤ 100000) : n ≤ sizeLine := Nat.le_trans h (by decide)
theorem sz {n : Nat} (h : Nat.ble n 100000 = true) : n ≤ sizeLine := small (Nat.le_of_ble_eq_true h)
theorem smallL {n : Nat} (h : n < 100000) : n < sizeLine := Nat.lt_of_lt_of_le h (by decide)
variable {K : PySem.W.Frag} {p : Addr}
theorem sl_l {lo hi : Option Int} (hF : Ex F H) (B : BagI b F H) (h : H p = some (.lst xs)) (q : ∀ p F' H', Ext b F H F' H' → BagI b F' H' → F' p = some (.lst (cutV xs lo hi)) → Q (.ref p) H') : rSl K (.ref p) lo hi H Q :=
  .inl ⟨p, xs, rfl, SqL.of h, fun p hp => q p _ _ (Ext.lay hF hp) (B.step (Ext.lay hF hp)) upd_same⟩
theorem sl_lq {lo hi : Option Int} (hF : Ex F H) (B : BagI b F H) (h : SqL K H p xs) (q : ∀ p F' H', Ext b F H F' H' → BagI b F' H' → F' p = some (.lst (cutV xs lo hi)) → Q (.ref p) H') : rSl K (.ref p) lo hi H Q :=
  .inl ⟨p, xs, rfl, h, fun p hp => q p _ _ (Ext.lay hF hp) (B.step (Ext.lay hF hp)) upd_same⟩
theorem add_l {l : Addr} {ys : List V} (hF : Ex F H) (B : BagI b F H) (h : H p = some (.lst xs)) (k : H l = some (.lst ys)) (hz : xs.length + ys.length ≤ sizeLine) (q : ∀ p F' H', Ext b F H F' H' → BagI b F' H' → F' p = some (.lst (xs ++ ys)) → Q (.ref p) H') : rAdd K (.ref p) (.ref l) H Q :=
  .inr (.inr (.inl ⟨p, l, xs, ys, rfl, rfl, h, k, hz, fun p hp => q p _ _ (Ext.lay hF hp) (B.step (Ext.lay hF hp)) upd_same⟩))
theorem rep_l {k : Nat} (hF : Ex F H) (B : BagI b F H) (h : H p = some (.lst xs)) (hk : k < 2 ^ 63) (hz : xs.length * k ≤ sizeLine) (q : ∀ p F' H', Ext b F H F' H' → BagI b F' H' → F' p = some (.lst (List.replicate k xs).flatten) → Q (.ref p) H') : rMul (.ref p) (.int (k : Int)) H Q :=
  .inr ⟨p, k, xs, rfl, rfl, h, by omega, by omega, by rw [Int.toNat_natCast]; exact hz, fun p hp => q p _ _ (Ext.lay hF hp) (B.step (Ext.lay hF hp)) (by rw [Int.toNat_natCast]; exact upd_same)⟩
theorem add_t {l : Addr} {ys : List V} (hF : Ex F H) (B : BagI b F H) (h : F p = some (.tup xs)) (k : F l = some (.tup ys)) (hx : xs ≠ []) (hz : xs.length + ys.length ≤ sizeLine) (q : ∀ p F' H', Ext b F H F' H' → BagI b F' H' → F' p = some (.tup (xs ++ ys)) → Q (.ref p) H') : rAdd K (.ref p) (.ref l) H Q :=
  .inr (.inr (.inr ⟨p, l, xs, ys, rfl, rfl, SqT.of (hF _ _ h), SqT.of (hF _ _ k), hx, hz, fun e => by
    subst e
    exact q p F H (Ext.refl hF) B (by rw [List.append_nil]; exact h), fun _ p hp => q p _ _ (Ext.lay hF hp) (B.step (Ext.lay hF hp)) upd_same⟩))
end
end PX

/-! comprehensions and loops over what stands still -/
namespace PX
open PySem PySem.Spec PyProof.Rows L2 RZ

/-- what is walked: n turns; as long as F is frozen it goes; the item of turn i at (F', H') behind its making is told by It -/
structure Lk (F F' H' : Hp) : Prop where
  ff : Ex F F'
  fh : Ex F' H'
theorem Ext.lk {b : Option Addr} {F H F' H' : Hp} (x : Ext b F H F' H') : Lk F F' H' := ⟨x.ff, x.fh⟩
theorem Lk.after {F F1 F2 H : Hp} (x : Lk F1 F2 H) (e : Ex F F1) : Lk F F2 H := ⟨e.trans x.ff, x.fh⟩
structure Wk (b : Option Addr) (F H : Hp) (J : It) (n : Nat) (It : Nat → V → Hp → Prop) : Prop where
  goes : ∀ i F1 H1, i < n → Lk F F1 H1 → J.go i H1
  stops : ∀ F1 H1, Lk F F1 H1 → J.stop n H1
  yields : ∀ i F1 H1 v H2, i < n → Lk F F1 H1 → J.yld i H1 v H2 → ∃ F2, Ext none F1 H1 F2 H2 ∧ It i v F2
section
variable {b : Option Addr} {F H : Hp} {K : PySem.W.Frag} {a c : Addr} {vs ws : List V}
theorem Wk.mono {J : It} {n : Nat} {It : Nat → V → Hp → Prop} {F' H' : Hp} (w : Wk b F H J n It) (x : Ext b F H F' H') : Wk b F' H' J n It :=
  ⟨fun i F1 H1 hi y => w.goes i F1 H1 hi (y.after x.ff), fun F1 H1 y => w.stops F1 H1 (y.after x.ff), fun i F1 H1 v H2 hi y => w.yields i F1 H1 v H2 hi (y.after x.ff)⟩
theorem wk_list (h : F a = some (.lst vs)) : Wk b F H (Itl K a) vs.length (fun i v _ => vs[i]? = some v) :=
  ⟨fun i F1 H1 hi x => ⟨vs, vs[i], SqL.of (x.fh _ _ (x.ff _ _ h)), by simp [hi]⟩, fun F1 H1 x => ⟨vs, SqL.of (x.fh _ _ (x.ff _ _ h)), Nat.le_refl _⟩,
    fun i F1 H1 v H2 hi x y => by
      obtain ⟨e, y⟩ := y
      subst e
      exact ⟨F1, Ext.refl x.fh, y vs (SqL.of (x.fh _ _ (x.ff _ _ h)))⟩⟩
theorem wk_tup (h : F a = some (.tup vs)) : Wk b F H (Itt K a) vs.length (fun i v _ => vs[i]? = some v) :=
  ⟨fun i F1 H1 hi x => ⟨vs, vs[i], SqT.of (x.fh _ _ (x.ff _ _ h)), by simp [hi]⟩, fun F1 H1 x => ⟨vs, SqT.of (x.fh _ _ (x.ff _ _ h)), Nat.le_refl _⟩,
    fun i F1 H1 v H2 hi x y => by
      obtain ⟨e, y⟩ := y
      subst e
      exact ⟨F1, Ext.refl x.fh, y vs (SqT.of (x.fh _ _ (x.ff _ _ h)))⟩⟩
theorem wk_range {lo : Int} {n : Nat} : Wk b F H (Itr lo n) n (fun i v _ => v = .int (lo + i)) :=
  ⟨fun i F1 H1 hi _ => hi, fun _ _ _ => Nat.le_refl _, fun i F1 H1 v H2 hi x y => by
    obtain ⟨e, y⟩ := y
    subst e
    exact ⟨F1, Ext.refl x.fh, y⟩⟩
theorem wk_str {z : Str} : Wk b F H (Its z) z.cps.toList.length (fun i v _ => ∃ c, z.cps.toList[i]? = some c ∧ v = .str ⟨#[c]⟩) :=
  ⟨fun i F1 H1 hi _ => by show i < z.cps.size; simpa using hi, fun _ _ _ => by show z.cps.size ≤ _; simp, fun i F1 H1 v H2 hi x y => by
    obtain ⟨e, c, y1, y2⟩ := y
    subst e
    exact ⟨F1, Ext.refl x.fh, c, by simpa using y1, y2⟩⟩
theorem wk_enum (h : F a = some (.lst vs)) : Wk b F H (Ite K a) vs.length (fun i v F2 => ∃ T x, v = .ref T ∧ F2 T = some (.tup [.int (i : Nat), x]) ∧ vs[i]? = some x) :=
  ⟨fun i F1 H1 hi x => ⟨vs, vs[i], SqL.of (x.fh _ _ (x.ff _ _ h)), by simp [hi]⟩, fun F1 H1 x => ⟨vs, SqL.of (x.fh _ _ (x.ff _ _ h)), Nat.le_refl _⟩,
    fun i F1 H1 v H2 hi x y => by
      obtain ⟨T, z, h1, h2, h3, h4⟩ := y
      subst h1 h3
      exact ⟨_, Ext.lay x.fh h2, T, z, rfl, upd_same, h4 vs (SqL.of (x.fh _ _ (x.ff _ _ h)))⟩⟩
theorem wk_zip {n : Nat} (h : SqL K F a vs) (k : SqL K F c ws) (hn : n = min vs.length ws.length) : Wk b F H (Itz K a c) n (fun i v F2 => ∃ T x y, v = .ref T ∧ F2 T = some (.tup [x, y]) ∧ vs[i]? = some x ∧ ws[i]? = some y) := by
  subst hn
  refine ⟨fun i F1 H1 hi x => ?_, fun F1 H1 x => ⟨vs, ws, Ex.sqL (x.ff.trans x.fh) h, Ex.sqL (x.ff.trans x.fh) k, by omega⟩, fun i F1 H1 v H2 hi x y => ?_⟩
  · have h1 : i < vs.length := by omega
    have h2 : i < ws.length := by omega
    exact ⟨vs, ws, vs[i], ws[i], Ex.sqL (x.ff.trans x.fh) h, Ex.sqL (x.ff.trans x.fh) k, by simp [h1], by simp [h2]⟩
  · obtain ⟨T, z, w, h1, h2, h3, h4, h5⟩ := y
    subst h1 h3
    exact ⟨_, Ext.lay x.fh h2, T, z, w, rfl, upd_same, h4 vs (Ex.sqL (x.ff.trans x.fh) h), h5 ws (Ex.sqL (x.ff.trans x.fh) k)⟩
theorem wk_zipT {n : Nat} (h : SqT K F a vs) (k : SqT K F c ws) (hn : n = min vs.length ws.length) : Wk b F H (ItzT K a c) n (fun i v F2 => ∃ T x y, v = .ref T ∧ F2 T = some (.tup [x, y]) ∧ vs[i]? = some x ∧ ws[i]? = some y) := by
  subst hn
  refine ⟨fun i F1 H1 hi x => ?_, fun F1 H1 x => ⟨vs, ws, Ex.sqT (x.ff.trans x.fh) h, Ex.sqT (x.ff.trans x.fh) k, by omega⟩, fun i F1 H1 v H2 hi x y => ?_⟩
  · have h1 : i < vs.length := by omega
    have h2 : i < ws.length := by omega
    exact ⟨vs, ws, vs[i], ws[i], Ex.sqT (x.ff.trans x.fh) h, Ex.sqT (x.ff.trans x.fh) k, by simp [h1], by simp [h2]⟩
  · obtain ⟨T, z, w, h1, h2, h3, h4, h5⟩ := y
    subst h1 h3
    exact ⟨_, Ext.lay x.fh h2, T, z, w, rfl, upd_same, h4 vs (Ex.sqT (x.ff.trans x.fh) h), h5 ws (Ex.sqT (x.ff.trans x.fh) k)⟩
end

/-! ### comprehensions -/
/-- what stands behind the colon of tLc, once the walk J is known -/
abbrev LcG (J : It) (g : TG) (tt : TT) (te : TE) (vs : List Nat) (σ : L2.St) (Q : VK) (H1 : Hp) : Prop := ∀ D, H1 D = none → ∃ W : Nat → Nat → Hp → Prop, (∃ m, W 0 m (upd H1 D (.lst []))) ∧ ∀ i m H, W i m H →
  (J.stop i H ∧ Q (.ref D) H) ∨ (J.go i H ∧ ∃ Nx : Hp → Prop, (∀ H', Nx H' → ∃ m', m' < m ∧ W (i + 1) m' H') ∧ ∀ x H', J.yld i H x H' → g x (wipe σ vs) H' fun σ2 H2 => wipe σ2 vs = wipe σ vs ∧ tt σ2 H2 fun b H3 =>
    if b = true then te σ2 H3 fun y H4 => ∃ acc, H4 D = some (.lst acc) ∧ acc.length < sizeLine ∧ Nx (upd H4 D (.lst (acc ++ [y]))) else Nx H3)
section
variable {b : Option Addr} {F H : Hp} {α β : Type} {R : Rp α} {S : Rp β}
/-- the general comprehension: the items xs (one a turn), the test c, the element f; Sy: what the new list's items are -/
theorem lc_walk [MonoR S] {J : It} {It : Nat → V → Hp → Prop} {g : TG} {tt : TT} {te : TE} {vs : List Nat} {σ : L2.St} {Q : VK} {xs : List α} (c : α → Bool) (f : α → β) (hF : Ex F H) (B : BagI b F H) (w : Wk b F H J xs.length It) (hz : xs.length < 100000)
    (body : ∀ i x v F1 H1, xs[i]? = some x → It i v F1 → Ext b F H F1 H1 → BagI b F1 H1 → ∀ Nx : Hp → Prop, ∀ Qy : VK,
      (c x = false → ∀ F2 H2, Ext b F1 H1 F2 H2 → BagI b F2 H2 → Nx H2) → (c x = true → ∀ u F2 H2, Ext b F1 H1 F2 H2 → BagI b F2 H2 → S (f x) u F2 → Qy u H2) →
      g v (wipe σ vs) H1 fun σ2 H2 => wipe σ2 vs = wipe σ vs ∧ tt σ2 H2 fun k H3 => if k = true then te σ2 H3 Qy else Nx H3)
    (cont : ∀ p F1 H1 us, Ext b F H F1 H1 → BagI b F1 H1 → F1 p = some (.lst us) → AllR S ((xs.filter c).map f) us F1 → Q (.ref p) H1) : LcG J g tt te vs σ Q H := by
  intro D hD
  let Pv : Nat → Hp → Prop := fun i Hi => ∃ Fi us, Ext b F H Fi Hi ∧ BagI b Fi Hi ∧ Own b H Fi Hi D (.lst us) ∧ AllR S (((xs.take i).filter c).map f) us Fi
  refine ⟨fun i m Hi => m = xs.length - i ∧ i ≤ xs.length ∧ Pv i Hi, ⟨xs.length, by omega, Nat.zero_le _, F, [], Ext.own hF hD, B.lay hD, Own.new (Ext.refl hF) B hD, by simp; exact True.intro⟩, ?_⟩
  rintro i m Hi ⟨rfl, hi, Fi, us, X, Bi, O, A⟩
  by_cases hlt : i < xs.length
  · have gx : xs[i]? = some xs[i] := List.getElem?_eq_getElem hlt
    have ul : us.length ≤ i := by
      rw [← A.length, List.length_map]
      exact Nat.le_trans (List.length_filter_le _ _) (by rw [List.length_take]; omega)
    refine .inr ⟨w.goes i Fi Hi hlt X.lk, fun H' => Pv (i + 1) H', fun H' p => ⟨xs.length - (i + 1), by omega, rfl, hlt, p⟩, fun v H' y => ?_⟩
    obtain ⟨F1, x1, it⟩ := w.yields i Fi Hi v H' hlt X.lk y
    have x1' : Ext b Fi Hi F1 H' := x1.any
    have O1 := O.step x1'
    refine body i _ v F1 H' gx it (X.trans x1') (Bi.step x1) _ _ (fun hc F2 H2 x2 B2 => ?_) (fun hc u F2 H2 x2 B2 hu => ?_)
    · have O2 := O1.step x2
      refine ⟨F2, us, (X.trans x1').trans x2, B2, O2, ?_⟩
      rw [List.take_add_one, gx, List.filter_append, show List.filter c (some xs[i]).toList = [] by simp [hc], List.append_nil]
      exact A.up (x1.ff.trans x2.ff)
    · have O2 := O1.step x2
      refine ⟨us, O2.at_, smallL (by omega), F2, us ++ [u], O2.ext ((X.trans x1').trans x2), O2.bag B2, O2.set, ?_⟩
      rw [List.take_add_one, gx, List.filter_append, show List.filter c (some xs[i]).toList = [xs[i]] by simp [hc], List.map_append]
      exact AllR.append (A.up (x1.ff.trans x2.ff)) (AllR.one hu)
  · have e : i = xs.length := by omega
    subst e
    rw [List.take_length] at A
    exact .inl ⟨w.stops Fi Hi X.lk, cont D _ Hi us (O.freeze X) (O.bagF Bi) upd_same (A.up (Ex.new O.nF))⟩
/-- without a test; a map -/
theorem lc_map [MonoR S] {J : It} {It : Nat → V → Hp → Prop} {g : TG} {te : TE} {vs : List Nat} {σ : L2.St} {Q : VK} {xs : List α} (f : α → β) (hF : Ex F H) (B : BagI b F H) (w : Wk b F H J xs.length It) (hz : xs.length < 100000)
    (body : ∀ i x v F1 H1, xs[i]? = some x → It i v F1 → Ext b F H F1 H1 → BagI b F1 H1 → ∀ Qy : VK, (∀ u F2 H2, Ext b F1 H1 F2 H2 → BagI b F2 H2 → S (f x) u F2 → Qy u H2) →
      g v (wipe σ vs) H1 fun σ2 H2 => wipe σ2 vs = wipe σ vs ∧ te σ2 H2 Qy)
    (cont : ∀ p F1 H1 us, Ext b F H F1 H1 → BagI b F1 H1 → F1 p = some (.lst us) → AllR S (xs.map f) us F1 → Q (.ref p) H1) : LcG J g tYes te vs σ Q H :=
  lc_walk (fun _ => true) f hF B w hz (fun i x v F1 H1 hx it X1 B1 Nx Qy _ h2 => body i x v F1 H1 hx it X1 B1 Qy (h2 rfl)) fun p F1 H1 us X1 B1 h A => cont p F1 H1 us X1 B1 h (by
    have e : xs.filter (fun _ => true) = xs := List.filter_eq_self.mpr fun _ _ => rfl
    rw [e] at A
    exact A)
end

/-! ### for -/
abbrev ForG (J : It) (g : TG) (tb : TS) (D : Ends) (σ : L2.St) (H1 : Hp) : Prop := ∃ W : Nat → Nat → L2.St → Hp → Prop, (∃ m, W 0 m σ H1) ∧ ∀ i m σ H, W i m σ H →
  (J.stop i H ∧ D.nx σ H) ∨ (J.go i H ∧ ∃ N : L2.St → Hp → Prop, (∀ σ' H', N σ' H' → ∃ m', m' < m ∧ W (i + 1) m' σ' H') ∧ ∀ x H', J.yld i H x H' → g x σ H' fun σ2 H2 => tb { D with nx := N, ct := N, bk := D.nx } σ2 H2)
section
variable {b : Option Addr} {F H : Hp}
/-- W: the word of the loop: the turn, the slots, F, H -/
theorem for_walk {J : It} {It : Nat → V → Hp → Prop} {g : TG} {tb : TS} {nx bk ct : L2.St → Hp → Prop} {rt : VK} {σ : L2.St} {n : Nat} (W : Nat → L2.St → Hp → Hp → Prop) (w : Wk b F H J n It) (h0 : W 0 σ F H) (hX : ∀ i σ1 F1 H1, W i σ1 F1 H1 → Ext b F H F1 H1)
    (turn : ∀ i v σ1 F1 H1 F2 H2, i < n → W i σ1 F1 H1 → Ext none F1 H1 F2 H2 → It i v F2 → ∀ N : L2.St → Hp → Prop, (∀ σ2 F3 H3, W (i + 1) σ2 F3 H3 → N σ2 H3) → g v σ1 H2 fun σ2 H2 => tb ⟨N, rt, nx, N⟩ σ2 H2)
    (done : ∀ σ1 F1 H1, W n σ1 F1 H1 → nx σ1 H1) : ForG J g tb ⟨nx, rt, bk, ct⟩ σ H := by
  refine ⟨fun i m σ1 H1 => m = n - i ∧ i ≤ n ∧ ∃ F1, W i σ1 F1 H1, ⟨n, by omega, Nat.zero_le _, F, h0⟩, ?_⟩
  rintro i m σ1 H1 ⟨rfl, hi, F1, p⟩
  by_cases hlt : i < n
  · refine .inr ⟨w.goes i F1 H1 hlt (hX _ _ _ _ p).lk, fun σ' H' => ∃ F', W (i + 1) σ' F' H', fun σ' H' ⟨F', q⟩ => ⟨n - (i + 1), by omega, rfl, hlt, F', q⟩, fun v H' y => ?_⟩
    obtain ⟨F2, x2, it⟩ := w.yields i F1 H1 v H' hlt (hX _ _ _ _ p).lk y
    exact turn i v σ1 F1 H1 F2 H' hlt p x2 it _ fun σ2 F3 H3 q => ⟨F3, q⟩
  · have e : i = n := by omega
    subst e
    exact .inl ⟨w.stops F1 H1 (hX _ _ _ _ p).lk, done σ1 F1 H1 p⟩
end
end PX

/-! defs and their promises, calls -/
namespace PX
open PySem PySem.Spec PyProof.Rows L2

/-- the def x of the top, whose text is st, keeps the promise sp -/
structure Has (P : Program) (w : World) (K : PySem.W.Frag) (mg : Str → Option Value) (base : Heap) (x : Str) (st : Stmt) (k : Nat) (ps : List Str) (sp : Sp) : Prop where
  ex : ∃ f fd, FunD K x x (defArgs st) (defBody st) (defScope st) [] [] f fd ∧ mg x = some (.ref f) ∧ FnOk P w K mg base CX0 k f fd ps sp ∧ Binds K fd ps []
/-- a def as it stands behind the top -/
structure Stood (K : PySem.W.Frag) (mg : Str → Option Value) (x : Str) (st : Stmt) : Prop where
  ex : ∃ f fd, FunD K x x (defArgs st) (defBody st) (defScope st) [] [] f fd ∧ mg x = some (.ref f)
section
variable {P : Program} {w : World} {K : PySem.W.Frag} {mg : Str → Option Value} {base : Heap} {x : Str} {st : Stmt} {k j : Nat} {N ps : List Str} {sp : Sp}
theorem Has.mono (h : Has P w K mg base x st j ps sp) (hk : j ≤ k) : Has P w K mg base x st k ps sp := by
  obtain ⟨f, fd, F, g, G, b⟩ := h.ex
  exact ⟨f, fd, F, g, G.mono hk, b⟩
theorem funD_uniq {args : Arguments} {body : List Stmt} {sc : Scope} {f : Addr} {fd fd' : FuncData} (F : FunD K x x args body sc [] [] f fd) (F' : FunD K x x args body sc [] [] f fd') : fd = fd' := by
  obtain ⟨_, _, _, _, _, _, _, _, _, _, _, l1, _⟩ := F.ex
  obtain ⟨_, _, _, _, _, _, _, _, _, _, _, l2, _⟩ := F'.ex
  have e := l1.symm.trans l2
  simp only [Option.some.injEq, Obj.mk.injEq, Data.func.injEq] at e
  exact e.2.2.1
theorem Has.fnOk (h : Has P w K mg base x st k ps sp) {fd : FuncData} {f : Addr} (F : FunD K x x (defArgs st) (defBody st) (defScope st) [] [] f fd) (g : mg x = some (.ref f)) : FnOk P w K mg base CX0 k f fd ps sp := by
  obtain ⟨f', fd', F', g', G, _⟩ := h.ex
  have e := g.symm.trans g'
  cases e
  rw [funD_uniq F F']
  exact G
/-- THE RULE for a def of the top without defaults -/
theorem Stood.ok (S : Stood K mg x st) (sc : FnScope N ps (defScope st)) (len : ∀ vs H Q E, sp vs H Q E → vs.length = ps.length)
    (hb : ∀ (kV doc pm : Value) (an : Option Addr) (cdv ct : Value) (us : List Value), us.length = ps.length → bindArgs (PySem.W.fnOf x x (defArgs st) (defBody st) (defScope st) .none kV doc pm an cdv ct) ⟨us, []⟩ = pure (ps.zip us))
    (hbody : ∀ (f : Addr) (cdv : Value) (A : Around) (outer : List Env) (s : Shared) (H : Hp) (vs : List V) (Q : VK) (E : XK), Room k (A.deeper (envOfC x (defScope st) s.heap.objs.size f cdv)) → sp vs H Q E →
      ∃ t, PSs (cxOf CX0 P w K mg base N x (defScope st) f cdv A outer s H E).nox (defBody st) t ∧ t { nx := fun _ H' => Q .non H', rt := Q } (start N vs) H) : Has P w K mg base x st (k + 1) ps sp := by
  obtain ⟨f, fd, F, g⟩ := S.ex
  refine ⟨f, fd, F, g, F.ok sc len fun cdv A outer s H vs Q E hr hsp => ?_, F.bindsN hb⟩
  obtain ⟨t, h, q⟩ := hbody f cdv A outer s H vs Q E hr hsp
  exact ⟨t, h.nox, q⟩
end
section
variable {X : Cx} {k : Nat} {ps : List Str} {sp : Sp} {x : Str} {st : Stmt} {p pos : Pos} {e : Expr} {es : List Expr} {t tk : TA} {kws : List Keyword}
theorem pe_has (h : Has X.prog X.w X.K X.mg X.base x st k ps sp) (hr : Room k X.A) (hg : Gl X x) (ha : PA X (e :: es) t)
    (hdb : (x == ("__debug__" : Str)) = false := by decide) (he : starEach (e :: es) X.env = (false, eval e X.env) :: starEach es X.env := by rfl) (hpl : (backTo pos (starEach es X.env)).any (·.1) = false := by rfl) :
    PE X (.Call (.Name x p) (e :: es) [] pos) (tCall sp [] E0 t) := by
  obtain ⟨f, fd, F, g, G, b⟩ := h.ex
  exact pe_call G hr hg g F.kp b .nil pass0 ha hdb he hpl
theorem pe_has0 (h : Has X.prog X.w X.K X.mg X.base x st k ps sp) (hr : Room k X.A) (hg : Gl X x) (hdb : (x == ("__debug__" : Str)) = false := by decide) :
    PE X (.Call (.Name x p) [] [] pos) (tCall sp [] E0 tNil) := by
  obtain ⟨f, fd, F, g, G, b⟩ := h.ex
  exact pe_call0 G hr hg g F.kp b .nil pass0 hdb
/-- how n positional values and the keywords ks bind -/
def KB (x : Str) (st : Stmt) (ps : List Str) (n : Nat) (ks : List Str) (g : {α : Type} → List α → List α → List α) : Prop :=
  (∀ (kV doc pm : Value) (an : Option Addr) (cdv ct : Value) (us ws : List Value), us.length = n → ws.length = ks.length →
    bindArgs (PySem.W.fnOf x x (defArgs st) (defBody st) (defScope st) .none kV doc pm an cdv ct) ⟨us, ks.zip ws⟩ = pure (ps.zip (g us ws))) ∧
  ∀ {vs : List V} {us : List Value} {zs : List V} {ws : List Value}, Vals vs us → Vals zs ws → Vals (g vs zs) (g us ws)
theorem KB.bn {K : PySem.W.Frag} {fd : FuncData} {f : Addr} {n : Nat} {ks : List Str} {g : {α : Type} → List α → List α → List α} (b : KB x st ps n ks g) (F : FunD K x x (defArgs st) (defBody st) (defScope st) [] [] f fd) : KBn K fd ps n ks (fun us ws => g us ws) (fun vs zs => g vs zs) := by
  obtain ⟨oc, od, dV, kV, doc, pm, an, cdv, ct, osl, rfl, lk, hcd, hD, hK⟩ := F.ex
  rcases hD with ⟨_, rfl⟩ | ⟨e, _⟩
  · exact ⟨fun s us ws _ l1 l2 => .of_eq (b.1 kV doc pm an cdv ct us ws l1 l2), fun r1 r2 => b.2 r1 r2⟩
  · exact absurd rfl e
theorem pe_hasK0 {ks : List Str} {g : {α : Type} → List α → List α → List α} (h : Has X.prog X.w X.K X.mg X.base x st k ps sp) (hr : Room k X.A) (hg : Gl X x) (hkw : PK X kws tk) (kb : KB x st ps 0 ks g)
    (hall : (backToKw pos (keywordEach kws X.env)).all (·.1.isSome) = true := by rfl) (hks : (backToKw pos (keywordEach kws X.env)).filterMap (·.1) = ks := by rfl) (hdb : (x == ("__debug__" : Str)) = false := by decide)
    (hpl : ((backTo pos (starEach [] X.env)).any (·.1) || (backToKw pos (keywordEach kws X.env)).any (·.1.isNone)) = false := by rfl) :
    PE X (.Call (.Name x p) [] kws pos) (tCallN 0 ks.length sp (fun vs zs => g vs zs) E0 tNil tk) := by
  obtain ⟨f, fd, F, gm, G, b⟩ := h.ex
  refine ⟨fun pins s σ H Q I h => ?_⟩
  refine wpAny_Call_Name_kw (ld_glob I hg gm ?_ hdb)
  refine PySem.W.callWith_KW0 (h₀ := X.base) I.ok.mod.kin F.kp hall ?_ hpl
  refine thn (hkw.run pos pins s σ H _ I h) fun ws s2 ⟨zs, H2, I2, rz, l1, l2, q2⟩ => ⟨I2.kIn, ?_⟩
  rw [hks]
  exact run_fnN (us := []) (vs := []) G hr (kb.bn F) pass0 I2 .nil rz rfl l2 q2
theorem pe_hasK {n : Nat} {ks : List Str} {g : {α : Type} → List α → List α → List α} (h : Has X.prog X.w X.K X.mg X.base x st k ps sp) (hr : Room k X.A) (hg : Gl X x) (ha : PA X (e :: es) t) (hkw : PK X kws tk) (kb : KB x st ps n ks g)
    (hall : (backToKw pos (keywordEach kws X.env)).all (·.1.isSome) = true := by rfl) (hks : (backToKw pos (keywordEach kws X.env)).filterMap (·.1) = ks := by rfl)
    (hdb : (x == ("__debug__" : Str)) = false := by decide) (he : starEach (e :: es) X.env = (false, eval e X.env) :: starEach es X.env := by rfl)
    (hpl : ((backTo pos (starEach (e :: es) X.env)).any (·.1) || (backToKw pos (keywordEach kws X.env)).any (·.1.isNone)) = false := by rfl) :
    PE X (.Call (.Name x p) (e :: es) kws pos) (tCallN n ks.length sp (fun vs zs => g vs zs) E0 t tk) := by
  obtain ⟨f, fd, F, gm, G, b⟩ := h.ex
  exact pe_callN G hr hg gm F.kp (kb.bn F) pass0 ha hkw hall hks hdb he hpl
/-- a constant of the module; a thing that stands in the module -/
theorem pe_gc {v : V} (hg : Gl X x) (hm : ∃ u, X.mg x = some u ∧ RelV v u) (hd : (x == ("__debug__" : Str)) = false := by decide) : PE X (.Name x pos) (tC v) := by
  obtain ⟨u, h, r⟩ := hm
  exact pe_glob hg h r hd
theorem pe_gr {a : Addr} (hg : Gl X x) (hm : X.mg x = some (.ref a)) (hd : (x == ("__debug__" : Str)) = false := by decide) : PE X (.Name x pos) (tC (.ref a)) := pe_glob hg hm rfl hd
/-- what is walked, whatever it is -/
def iAny (K : PySem.W.Frag) (tl : TE) : TI := fun σ H R => iList K tl σ H R ∨ iTup K tl σ H R ∨ iStr tl σ H R
theorem pi_any (K : PySem.W.Frag) {tg l : Expr} {tl : TE} (hl : PE X l tl) (hK : X.K = K := by rfl) : PI X tg l (iAny K tl) := ⟨fun pins s σ H R I h => by
  subst hK
  rcases h with h | h | h
  · exact (pi_list hl).run pins s σ H R I h
  · exact (pi_tup hl).run pins s σ H R I h
  · exact (pi_str hl).run pins s σ H R I h⟩
end

/-! ### promises -/
/-- a pure def: A the arguments, pre what is asked of them, R the result -/
def sp {α : Type} (A : α → List V → Hp → Prop) (pre : α → Prop) (R : α → V → Hp → Prop) : Sp := fun vs H Q _ => ∃ F x, Ex F H ∧ A x vs F ∧ pre x ∧ ∀ v F' H', Ext none F H F' H' → R x v F' → Q v H'
/-- a def that gets the law's bag as its first argument -/
def spB {α : Type} (A : α → List V → Hp → Prop) (pre : α → Prop) (R : α → V → Hp → Prop) : Sp := fun vs H Q _ => ∃ F a ws x, vs = .ref a :: ws ∧ Ex F H ∧ BagI (some a) F H ∧ A x ws F ∧ pre x ∧ ∀ v F' H', Ext (some a) F H F' H' → BagI (some a) F' H' → R x v F' → Q v H'
def A0 : Unit → List V → Hp → Prop := fun _ vs _ => vs = []
def A1 {α : Type} (R : Rp α) : α → List V → Hp → Prop := fun x vs F => ∃ v, vs = [v] ∧ R x v F
def A2 {α β : Type} (R : Rp α) (S : Rp β) : α × β → List V → Hp → Prop := fun x vs F => ∃ v w, vs = [v, w] ∧ R x.1 v F ∧ S x.2 w F
def A3 {α β γ : Type} (R : Rp α) (S : Rp β) (T : Rp γ) : α × β × γ → List V → Hp → Prop := fun x vs F => ∃ v w u, vs = [v, w, u] ∧ R x.1 v F ∧ S x.2.1 w F ∧ T x.2.2 u F
theorem sp_len {α : Type} {A : α → List V → Hp → Prop} {pre : α → Prop} {R : α → V → Hp → Prop} {n : Nat} (h : ∀ x vs F, A x vs F → vs.length = n) : ∀ vs H Q E, sp A pre R vs H Q E → vs.length = n :=
  fun vs H Q E ⟨F, x, _, a, _⟩ => h x vs F a
theorem spB_len {α : Type} {A : α → List V → Hp → Prop} {pre : α → Prop} {R : α → V → Hp → Prop} {n : Nat} (h : ∀ x vs F, A x vs F → vs.length = n) : ∀ vs H Q E, spB A pre R vs H Q E → vs.length = n + 1 :=
  fun vs H Q E ⟨F, b, ws, x, e, _, _, a, _⟩ => by rw [e, List.length_cons, h x ws F a]
theorem A0_len : ∀ x vs F, A0 x vs F → vs.length = 0 := fun x vs F h => by rw [show vs = [] from h]; rfl
theorem A1_len {α : Type} {R : Rp α} : ∀ x vs F, A1 R x vs F → vs.length = 1 := fun x vs F ⟨v, h, _⟩ => by rw [h]; rfl
theorem A2_len {α β : Type} {R : Rp α} {S : Rp β} : ∀ x vs F, A2 R S x vs F → vs.length = 2 := fun x vs F ⟨v, w, h, _⟩ => by rw [h]; rfl
theorem A3_len {α β γ : Type} {R : Rp α} {S : Rp β} {T : Rp γ} : ∀ x vs F, A3 R S T x vs F → vs.length = 3 := fun x vs F ⟨v, w, u, h, _⟩ => by rw [h]; rfl
end PX

/-! any values: their kinds -/
namespace PX
open PySem PySem.Spec PyProof.Rows L2
/-- the kind of a plain value -/
def kindD : PyData → String
  | .none => "NoneType"
  | .bool _ => "bool"
  | .int _ => "int"
  | .str _ => "str"
  | .list _ => "list"
  | .tuple _ => "tuple"
  | .dict _ => "dict"
/-- isinstance(d, T) of a built-in class T -/
def isD (T : String) (d : PyData) : Bool := kindD d == T || (kindD d == "bool" && T == "int")
theorem dp_ty {K : PySem.W.Frag} {H : Hp} {v : V} {d : PyData} (h : Dp K H v d) : TyX K H v (.type (kindD d)) := by
  cases h with
  | non => exact .base .non
  | bl b => exact .base (.bl b)
  | int i => exact .base (.int i)
  | str x => exact .base (.str x)
  | lst h _ =>
    rcases h with (h | ⟨o, h⟩) | ⟨o, its, n, hk, hc, _⟩
    · exact .base (.lst h)
    · exact .base (.frz h)
    · exact .kList hk hc
  | tup h _ =>
    rcases h with (h | ⟨o, h⟩) | ⟨o, its, n, hk, hc, _⟩
    · exact .base (.tup h)
    · exact .fTuple h
    · exact .kTuple hk hc
theorem dp_kind {K : PySem.W.Frag} {H : Hp} {v : V} {d : PyData} (h : Dp K H v d) : kindD d = "NoneType" ∨ kindD d = "bool" ∨ kindD d = "int" ∨ kindD d = "str" ∨ kindD d = "list" ∨ kindD d = "tuple" := by
  cases h <;> simp [kindD]
theorem kit_d {K : PySem.W.Frag} {H : Hp} {v : V} {d : PyData} {T : String} (h : Dp K H v d) (hT : T = "bool" ∨ T = "int" ∨ T = "str" ∨ T = "list" ∨ T = "tuple") : PySem.W.kitOne K (.type (kindD d)) (.type T) = some (isD T d) := by
  unfold isD
  rcases dp_kind h with e | e | e | e | e | e <;> rw [e] <;> rcases hT with e2 | e2 | e2 | e2 | e2 <;> subst e2 <;> exact kit_ty (by decide +kernel)
section
variable {K : PySem.W.Frag} {H : Hp} {v : V} {d : PyData} {Q : VK}
theorem isi_d {T : String} (h : Dp K H v d) (q : Q (.bl (isD T d)) H) (hT : T = "bool" ∨ T = "int" ∨ T = "str" ∨ T = "list" ∨ T = "tuple" := by decide) : rIsi K [v, .ty T] H Q :=
  ⟨v, .ty T, _, _, _, rfl, .ty T, dp_ty h, kit_d h hT, q⟩
theorem kit_d2 {S T : String} (h : Dp K H v d) (hS : S = "bool" ∨ S = "int" ∨ S = "str" ∨ S = "list" ∨ S = "tuple") (hT : T = "bool" ∨ T = "int" ∨ T = "str" ∨ T = "list" ∨ T = "tuple") : PySem.W.kitAny K (.type (kindD d)) [.type S, .type T] = some (isD S d || isD T d) := by
  refine kitAny_cons (kit_d h hS) (fun e => ?_) (fun e => by rw [e]; rfl)
  rw [e, Bool.false_or]
  refine kitAny_cons (kit_d h hT) (fun e => ?_) (fun e => e)
  rw [e]
  rfl
/-- isinstance(x, (S, T)) -/
theorem isi_d2 {S T : String} {p : Addr} (h : Dp K H v d) (hp : H p = some (.tup [.ty S, .ty T])) (q : Q (.bl (isD S d || isD T d)) H) (hS : S = "bool" ∨ S = "int" ∨ S = "str" ∨ S = "list" ∨ S = "tuple" := by decide) (hT : T = "bool" ∨ T = "int" ∨ T = "str" ∨ T = "list" ∨ T = "tuple" := by decide) : rIsiT K [v, .ref p] H Q :=
  ⟨v, p, [.ty S, .ty T], _, [.type S, .type T], _, rfl, hp, .cons (.ty S) (.cons (.ty T) .nil), dp_ty h, kit_d2 h hS hT, q⟩
end
/-- a plain value is a text, or is none -/
theorem str_or {K : PySem.W.Frag} {H : Hp} {v : V} {d : PyData} (h : Dp K H v d) : (∃ z, d = .str z ∧ v = .str z) ∨ isD "str" d = false := by
  cases h with
  | str z => exact .inl ⟨z, rfl, rfl⟩
  | _ => exact .inr rfl
theorem list_or {K : PySem.W.Frag} {H : Hp} {v : V} {d : PyData} (h : Dp K H v d) : (∃ a xs ds, d = .list ds ∧ v = .ref a ∧ SqL K H a xs ∧ DpAll K H xs ds) ∨ isD "list" d = false := by
  cases h with
  | lst h1 h2 => exact .inl ⟨_, _, _, rfl, rfl, h1, h2⟩
  | _ => exact .inr rfl
theorem sl_eq (z : Str) : z.cps.toList.length = z.length := by simp [Str.length]
abbrev abcS : Str := "abcdefghijklmnopqrstuvwxyz"
def abcL : List Nat := abcS.cps.toList
def isLow (c : Nat) : Bool := decide (c ∈ abcL)
/-- a word: a text of lowercase letters -/
def wordS (z : Str) : Bool := z.cps.toList.all isLow
def wordD : PyData → Bool
  | .str z => wordS z
  | _ => false
def nameS (z : Str) : Bool := wordS z && (decide (1 ≤ z.length) && decide (z.length ≤ 8))
def nameD : PyData → Bool
  | .str z => nameS z
  | _ => false
def numD (d : PyData) : Bool := isD "int" d && !isD "bool" d
mutual
/-- how deep data are nested -/
def depD : PyData → Nat
  | .list xs => depDs xs + 1
  | .tuple xs => depDs xs + 1
  | _ => 0
def depDs : List PyData → Nat
  | [] => 0
  | x :: xs => max (depD x) (depDs xs)
end
mutual
/-- no list, no tuple of it is too long -/
def fitD : PyData → Bool
  | .list xs => decide (xs.length < 100000) && fitDs xs
  | .tuple xs => decide (xs.length < 100000) && fitDs xs
  | _ => true
def fitDs : List PyData → Bool
  | [] => true
  | x :: xs => fitD x && fitDs xs
end
theorem depDs_mem : ∀ {xs : List PyData} {x : PyData}, x ∈ xs → depD x ≤ depDs xs
  | y :: ys, x, h => by
    show depD x ≤ max (depD y) (depDs ys)
    rcases List.mem_cons.mp h with e | h
    · rw [e]; omega
    · have := depDs_mem h; omega
theorem fitDs_mem : ∀ {xs : List PyData} {x : PyData}, fitDs xs = true → x ∈ xs → fitD x = true
  | y :: ys, x, f, h => by
    have f' : (fitD y && fitDs ys) = true := f
    rw [Bool.and_eq_true] at f'
    rcases List.mem_cons.mp h with e | h
    · rw [e]; exact f'.1
    · exact fitDs_mem f'.2 h
theorem dpAll_len {K : PySem.W.Frag} {H : Hp} : ∀ {vs : List V} {ds : List PyData}, DpAll K H vs ds → vs.length = ds.length
  | _, _, .nil => rfl
  | _, _, .cons _ k => congrArg Nat.succ (dpAll_len k)
theorem dpAll_get {K : PySem.W.Frag} {H : Hp} : ∀ {vs : List V} {ds : List PyData} {i : Nat} {v : V} {d : PyData}, DpAll K H vs ds → vs[i]? = some v → ds[i]? = some d → Dp K H v d
  | _, _, 0, _, _, .cons h _, e1, e2 => by
    simp at e1 e2; subst e1; subst e2; exact h
  | _, _, i + 1, v, d, .cons _ k, e1, e2 => dpAll_get (i := i) k (by simpa using e1) (by simpa using e2)
end PX

/-! readings, a step each: the goal is always a reading at slots and heap -/
namespace PX
open PySem PySem.Spec PyProof.Rows L2 RZ
section
variable {σ : L2.St} {H F : Hp} {Q : VK} {ta tb tc te : TE} {v x y : V} {D : Ends} {K : PySem.W.Frag}
theorem var_go {i : Nat} (h : σ[i]? = some (some v)) (q : Q v H) : tVar i σ H Q := ⟨v, h, q⟩
theorem c_go (q : Q v H) : tC v σ H Q := q
def OpK (r : R2) (Q : VK) (x y : V) (H : Hp) : Prop := r x y H Q
def OpA (r : R2) (tb : TE) (σ : L2.St) (Q : VK) (x : V) (H : Hp) : Prop := tb σ H (OpK r Q x)
theorem opA {r : R2} (q : tb σ H (OpK r Q x)) : OpA r tb σ Q x H := q
theorem op_go {r : R2} (q : ta σ H (OpA r tb σ Q)) : tOp r ta tb σ H Q := q
theorem neg_go {i : Int} (q : ta σ H fun x H1 => ∃ i, x = .int i ∧ Q (.int (-i)) H1) : tUn (rU fun i => .int (-i)) ta σ H Q := q
abbrev RL := List V → Hp → VK → Prop
def CbK (r : RL) (Q : VK) (x : V) (H : Hp) : Prop := r [x] H Q
def CbK2 (r : RL) (Q : VK) (x y : V) (H : Hp) : Prop := r [x, y] H Q
def CbA (r : RL) (tb : TE) (σ : L2.St) (Q : VK) (x : V) (H : Hp) : Prop := tb σ H (CbK2 r Q x)
theorem cb1 {r : RL} (q : ta σ H (CbK r Q)) : tCB r (tCons ta tNil) σ H Q := q
theorem cb2 {r : RL} (q : ta σ H (CbA r tb σ Q)) : tCB r (tCons ta (tCons tb tNil)) σ H Q := q
theorem cb0 {r : List V → Hp → VK → Prop} (q : r [] H Q) : tCB r tNil σ H Q := q
theorem call0 {s : Sp} (q : s [] H Q E0) : tCall s [] E0 tNil σ H Q := q
def SpK (s : Sp) (Q : VK) (x : V) (H : Hp) : Prop := s [x] H Q E0
def SpK2 (s : Sp) (Q : VK) (x y : V) (H : Hp) : Prop := s [x, y] H Q E0
def SpK3 (s : Sp) (Q : VK) (x y z : V) (H : Hp) : Prop := s [x, y, z] H Q E0
def SpA2 (s : Sp) (tb : TE) (σ : L2.St) (Q : VK) (x : V) (H : Hp) : Prop := tb σ H (SpK2 s Q x)
def SpB3 (s : Sp) (tc : TE) (σ : L2.St) (Q : VK) (x y : V) (H : Hp) : Prop := tc σ H (SpK3 s Q x y)
def SpA3 (s : Sp) (tb tc : TE) (σ : L2.St) (Q : VK) (x : V) (H : Hp) : Prop := tb σ H (SpB3 s tc σ Q x)
theorem call1 {s : Sp} (q : ta σ H (SpK s Q)) : tCall s [] E0 (tCons ta tNil) σ H Q := q
theorem call2 {s : Sp} (q : ta σ H (SpA2 s tb σ Q)) : tCall s [] E0 (tCons ta (tCons tb tNil)) σ H Q := q
theorem call3 {s : Sp} (q : ta σ H (SpA3 s tb tc σ Q)) : tCall s [] E0 (tCons ta (tCons tb (tCons tc tNil))) σ H Q := q
/-- a keyword call of no positional argument and one keyword (the reading of the argument told) -/
theorem callK1 {s : Sp} {gV : List V → List V → List V} (q : ta σ H fun x H1 => (0 = 0 ∧ 1 = 1 ∧ s (gV [] [x]) H1 Q E0)) : tCallN 0 1 s gV E0 tNil (tCons ta tNil) σ H Q := q
/-! ### promises used -/
theorem sp_go {α : Type} {A : α → List V → Hp → Prop} {pre : α → Prop} {R : α → V → Hp → Prop} {vs : List V} {z : α} (hF : Ex F H) (hA : A z vs F) (hp : pre z) (k : ∀ v F' H', Ext none F H F' H' → R z v F' → Q v H') : sp A pre R vs H Q E0 := ⟨F, z, hF, hA, hp, k⟩
theorem spB_go {α : Type} {A : α → List V → Hp → Prop} {pre : α → Prop} {R : α → V → Hp → Prop} {a : Addr} {ws : List V} {z : α} (hF : Ex F H) (B : BagI (some a) F H) (hA : A z ws F) (hp : pre z)
    (k : ∀ v F' H', Ext (some a) F H F' H' → BagI (some a) F' H' → R z v F' → Q v H') : spB A pre R (.ref a :: ws) H Q E0 := ⟨F, a, ws, z, rfl, hF, B, hA, hp, k⟩
/-! ### truth -/
def AndK (tb : TE) (σ : L2.St) (Q : VK) (x : V) (H : Hp) : Prop := ∃ c, x = .bl c ∧ if c = true then tb σ H Q else Q (.bl false) H
theorem and_go (q : ta σ H (AndK tb σ Q)) : tAndV ta tb σ H Q := q
theorem and_b {c : Bool} (h1 : c = true → tb σ H Q) (h2 : c = false → Q (.bl false) H) : AndK tb σ Q (.bl c) H := ⟨c, rfl, by
  cases c with
  | true => exact h1 rfl
  | false => exact h2 rfl⟩
theorem and_t (q : tb σ H Q) : AndK tb σ Q (.bl true) H := ⟨true, rfl, q⟩
theorem and_f (q : Q (.bl false) H) : AndK tb σ Q (.bl false) H := ⟨false, rfl, q⟩
def OrK (tb : TE) (σ : L2.St) (Q : VK) (x : V) (H : Hp) : Prop := ∃ c, x = .bl c ∧ if c = true then Q (.bl true) H else tb σ H Q
theorem or_go (q : ta σ H (OrK tb σ Q)) : tOrV ta tb σ H Q := q
theorem or_b {c : Bool} (h1 : c = true → Q (.bl true) H) (h2 : c = false → tb σ H Q) : OrK tb σ Q (.bl c) H := ⟨c, rfl, by
  cases c with
  | true => exact h1 rfl
  | false => exact h2 rfl⟩
theorem not_go (q : ta σ H fun x H1 => ∃ c, x = .bl c ∧ Q (.bl (!c)) H1) : tNotV ta σ H Q := q
theorem bl_go {c : Bool} {R : Bool → Prop} (q : R c) : ∃ d, V.bl c = .bl d ∧ R d := ⟨c, rfl, q⟩
theorem int_go {c : Int} {R : Int → Prop} (q : R c) : ∃ d, V.int c = .int d ∧ R d := ⟨c, rfl, q⟩
def AndTK (K : PySem.W.Frag) (tb : TE) (σ : L2.St) (Q : VK) (x : V) (H : Hp) : Prop := ∃ k, TruV K x H k ∧ if k = true then tb σ H Q else Q x H
theorem andT_go (q : ta σ H (AndTK K tb σ Q)) : tAndT K ta tb σ H Q := q
theorem andT_b {c : Bool} (h1 : c = true → tb σ H Q) (h2 : c = false → Q (.bl false) H) : AndTK K tb σ Q (.bl c) H := ⟨c, rfl, by
  cases c with
  | true => exact h1 rfl
  | false => exact h2 rfl⟩
def OrTK (K : PySem.W.Frag) (tb : TE) (σ : L2.St) (Q : VK) (x : V) (H : Hp) : Prop := ∃ k, TruV K x H k ∧ if k = true then Q x H else tb σ H Q
theorem orT_go (q : ta σ H (OrTK K tb σ Q)) : tOrT K ta tb σ H Q := q
theorem notT_b {c : Bool} (q : ta σ H fun x H1 => ∃ k, TruV K x H1 k ∧ Q (.bl (!k)) H1) : tNotT K ta σ H Q := q
/-! ### tests -/
variable {QT : Bool → Hp → Prop} {t u : TT}
theorem test_go (q : te σ H fun x H' => ∃ k, x = .bl k ∧ QT k H') : tTest te σ H QT := q
theorem tB_go (q : te σ H fun x H' => ∃ k, x = .bl k ∧ QT k H') : tB te σ H QT := q
theorem tru_go (q : te σ H fun x H' => ∃ k, TruV K x H' k ∧ QT k H') : tTru K te σ H QT := q
theorem tru_b {c : Bool} {R : Bool → Prop} (q : R c) : ∃ k, TruV K (.bl c) H k ∧ R k := ⟨c, rfl, q⟩
theorem tnot_go (q : t σ H fun c H1 => QT (!c) H1) : tNot t σ H QT := q
def TAndK (u : TT) (σ : L2.St) (QT : Bool → Hp → Prop) (c : Bool) (H : Hp) : Prop := if c = true then u σ H QT else QT false H
theorem tand_go (q : t σ H (TAndK u σ QT)) : tAnd t u σ H QT := q
theorem tand_b {c : Bool} (h1 : c = true → u σ H QT) (h2 : c = false → QT false H) : TAndK u σ QT c H := by
  cases c with
  | true => exact h1 rfl
  | false => exact h2 rfl
def TOrK (u : TT) (σ : L2.St) (QT : Bool → Hp → Prop) (c : Bool) (H : Hp) : Prop := if c = true then QT true H else u σ H QT
theorem tor_go (q : t σ H (TOrK u σ QT)) : tOr t u σ H QT := q
theorem tor_b {c : Bool} (h1 : c = true → QT true H) (h2 : c = false → u σ H QT) : TOrK u σ QT c H := by
  cases c with
  | true => exact h1 rfl
  | false => exact h2 rfl
def IfEK (ta tb : TE) (σ : L2.St) (Q : VK) (c : Bool) (H : Hp) : Prop := if c = true then ta σ H Q else tb σ H Q
theorem ife_go (q : t σ H (IfEK ta tb σ Q)) : tIf t ta tb σ H Q := q
theorem ife_b {c : Bool} (h1 : c = true → ta σ H Q) (h2 : c = false → tb σ H Q) : IfEK ta tb σ Q c H := by
  cases c with
  | true => exact h1 rfl
  | false => exact h2 rfl
/-! ### statements -/
variable {s1 s2 : TS} {g : TG} {wi : TI} {tt : TT} {nx bk ct : L2.St → Hp → Prop} {rt : VK}
theorem seq_go (q : s1 ⟨s2 ⟨nx, rt, bk, ct⟩, rt, bk, ct⟩ σ H) : tSeq s1 s2 ⟨nx, rt, bk, ct⟩ σ H := q
theorem ret_go (q : te σ H rt) : tRet te ⟨nx, rt, bk, ct⟩ σ H := q
theorem retN_go (q : rt .non H) : tRetN ⟨nx, rt, bk, ct⟩ σ H := q
theorem drop_go (q : te σ H fun _ H1 => nx σ H1) : tDrop te ⟨nx, rt, bk, ct⟩ σ H := q
def AsgK (g : TG) (σ : L2.St) (nx : L2.St → Hp → Prop) (x : V) (H : Hp) : Prop := g x σ H nx
theorem asg_go (q : te σ H (AsgK g σ nx)) : tAsg te g ⟨nx, rt, bk, ct⟩ σ H := q
theorem name_go {i : Nat} {σ' : L2.St} {QS : L2.St → Hp → Prop} (e : σ.set i (some v) = σ') (q : QS σ' H) : gName i v σ H QS := by subst e; exact q
theorem next_go (q : nx σ H) : tNext ⟨nx, rt, bk, ct⟩ σ H := q
theorem brk_go (q : bk σ H) : tBreak ⟨nx, rt, bk, ct⟩ σ H := q
theorem cont_go (q : ct σ H) : tCont ⟨nx, rt, bk, ct⟩ σ H := q
def IfK (s1 s2 : TS) (D : Ends) (σ : L2.St) (c : Bool) (H : Hp) : Prop := if c = true then s1 D σ H else s2 D σ H
theorem if_go (q : t σ H (IfK s1 s2 D σ)) : tIfS t s1 s2 D σ H := q
theorem if_b {c : Bool} (h1 : c = true → s1 D σ H) (h2 : c = false → s2 D σ H) : IfK s1 s2 D σ c H := by
  cases c with
  | true => exact h1 rfl
  | false => exact h2 rfl
theorem for_go (q : wi σ H fun J H1 => ForG J g s1 D σ H1) : tFor wi g s1 D σ H := q
theorem lc_go {vs : List Nat} (q : wi σ H fun J H1 => LcG J g tt te vs σ Q H1) : tLc wi g tt te vs σ H Q := q
/-! ### what is walked -/
variable {R : It → Hp → Prop} {a : Addr} {xs : List V}
def WL (K : PySem.W.Frag) (R : It → Hp → Prop) (x : V) (H : Hp) : Prop := ∃ a, x = .ref a ∧ (∃ xs, SqL K H a xs) ∧ R (Itl K a) H
def WT (K : PySem.W.Frag) (R : It → Hp → Prop) (x : V) (H : Hp) : Prop := ∃ a, x = .ref a ∧ (∃ xs, SqT K H a xs) ∧ R (Itt K a) H
def WS (R : It → Hp → Prop) (x : V) (H : Hp) : Prop := ∃ z, x = .str z ∧ R (Its z) H
theorem any_l (q : ta σ H (WL K R)) : iAny K ta σ H R := .inl q
theorem any_t (q : ta σ H (WT K R)) : iAny K ta σ H R := .inr (.inl q)
theorem any_s (q : ta σ H (WS R)) : iAny K ta σ H R := .inr (.inr q)
theorem wl (h : SqL K H a xs) (q : R (Itl K a) H) : WL K R (.ref a) H := ⟨a, rfl, ⟨xs, h⟩, q⟩
theorem wt (h : SqT K H a xs) (q : R (Itt K a) H) : WT K R (.ref a) H := ⟨a, rfl, ⟨xs, h⟩, q⟩
theorem ws {z : Str} (q : R (Its z) H) : WS R (.str z) H := ⟨z, rfl, q⟩
def RngK (R : It → Hp → Prop) (x : V) (H : Hp) : Prop := ∃ j : Int, [x] = [.int j] ∧ -(2 ^ 62) ≤ j ∧ j < 2 ^ 62 ∧ R (Itr 0 j.toNat) H
theorem rng1 {n : Nat} (hn : n < 100000) (q : R (Itr 0 n) H) : RngK R (.int (n : Int)) H := ⟨n, rfl, by omega, by omega, by rw [Int.toNat_natCast]; exact q⟩
theorem rng1_go (q : ta σ H (RngK R)) : iRng1 (tCons ta tNil) σ H R := q
def R2K (R : It → Hp → Prop) (x y : V) (H : Hp) : Prop := ∃ i j : Int, [x, y] = [.int i, .int j] ∧ (-(2 ^ 62) ≤ i ∧ i < 2 ^ 62 ∧ -(2 ^ 62) ≤ j ∧ j < 2 ^ 62) ∧ R (Itr i (j - i).toNat) H
theorem rng2_go (q : ta σ H fun x H1 => tb σ H1 fun y H2 => R2K R x y H2) : iRng2 (tCons ta (tCons tb tNil)) σ H R := q
theorem rng2 {i j : Int} (h1 : -100000 ≤ i) (h2 : i ≤ 100000) (h3 : -100000 ≤ j) (h4 : j ≤ 100000) (q : R (Itr i (j - i).toNat) H) : R2K R (.int i) (.int j) H := ⟨i, j, rfl, by omega, q⟩
def ZK (K : PySem.W.Frag) (R : It → Hp → Prop) (x y : V) (H : Hp) : Prop := ∃ a b xs ys, [x, y] = [.ref a, .ref b] ∧ ((SqL K H a xs ∧ SqL K H b ys ∧ R (Itz K a b) H) ∨ (SqT K H a xs ∧ SqT K H b ys ∧ R (ItzT K a b) H))
theorem zip_go (q : ta σ H fun x H1 => tb σ H1 fun y H2 => ZK K R x y H2) : iZipB K (tCons ta (tCons tb tNil)) σ H R := q
theorem zip_l {c : Addr} {ys : List V} (h : SqL K H a xs) (k : SqL K H c ys) (q : R (Itz K a c) H) : ZK K R (.ref a) (.ref c) H := ⟨a, c, xs, ys, rfl, .inl ⟨h, k, q⟩⟩
theorem zip_t {c : Addr} {ys : List V} (h : SqT K H a xs) (k : SqT K H c ys) (q : R (ItzT K a c) H) : ZK K R (.ref a) (.ref c) H := ⟨a, c, xs, ys, rfl, .inr ⟨h, k, q⟩⟩
def EnK (K : PySem.W.Frag) (R : It → Hp → Prop) (x : V) (H : Hp) : Prop := ∃ a xs, [x] = [.ref a] ∧ SqL K H a xs ∧ R (Ite K a) H
theorem enum_go (q : ta σ H (EnK K R)) : iEnum K (tCons ta tNil) σ H R := q
theorem enum1 (h : SqL K H a xs) (q : R (Ite K a) H) : EnK K R (.ref a) H := ⟨a, xs, rfl, h, q⟩
/-! ### targets -/
theorem tup_go {n : Nat} {ts : TGs} {QS : L2.St → Hp → Prop} (h : H a = some (.tup xs)) (e : xs.length = n) (q : ts xs σ H QS) : gTup K n ts (.ref a) σ H QS := ⟨a, xs, rfl, SqT.of h, e, q⟩
theorem cons_go {ts : TGs} {r : List V} {QS : L2.St → Hp → Prop} (q : g v σ H fun σ' H' => ts r σ' H' QS) : gCons g ts (v :: r) σ H QS := ⟨v, r, rfl, q⟩
theorem nil_go {QS : L2.St → Hp → Prop} (q : QS σ H) : gNil [] σ H QS := ⟨rfl, q⟩
theorem sub_go {r : TSet} {QS : L2.St → Hp → Prop} (q : ta σ H fun o H1 => tb σ H1 fun i H2 => r o i v H2 fun H3 => QS σ H3) : gSub ta tb r v σ H QS := q
theorem setl {j : Nat} {R : Hp → Prop} (h : H a = some (.lst xs)) (hj : j < xs.length) (q : R (upd H a (.lst (xs.set j v)))) : rSetL (.ref a) (.int (j : Int)) v H R :=
  ⟨a, xs, j, j, rfl, rfl, h, by unfold ixN; rw [if_pos (by omega), if_pos (by omega)]; simp, q⟩
/-! ### displays, slices, parts -/
theorem tup1 (q : ta σ H fun x H1 => [x].length ≤ sizeLine ∧ ∀ p, H1 p = none → Q (.ref p) (upd H1 p (.tup [x]))) : tTup (tCons ta tNil) σ H Q := q
theorem tup2 (q : ta σ H fun x H1 => tb σ H1 fun y H2 => [x, y].length ≤ sizeLine ∧ ∀ p, H2 p = none → Q (.ref p) (upd H2 p (.tup [x, y]))) : tTup (tCons ta (tCons tb tNil)) σ H Q := q
theorem tup3 (q : ta σ H fun x H1 => tb σ H1 fun y H2 => tc σ H2 fun z H3 => [x, y, z].length ≤ sizeLine ∧ ∀ p, H3 p = none → Q (.ref p) (upd H3 p (.tup [x, y, z]))) : tTup (tCons ta (tCons tb (tCons tc tNil))) σ H Q := q
theorem lst_go {tas : TA} (q : tas σ H fun xs H1 => xs.length ≤ sizeLine ∧ ∀ p, H1 p = none → Q (.ref p) (upd H1 p (.lst xs))) : tLst tas σ H Q := q
theorem tupn_go {tas : TA} (q : tas σ H fun xs H1 => xs.length ≤ sizeLine ∧ ∀ p, H1 p = none → Q (.ref p) (upd H1 p (.tup xs))) : tTup tas σ H Q := q
variable {QA : List V → Hp → Prop} {tas : TA}
def AcQ (QA : List V → Hp → Prop) (x : V) (xs : List V) (H : Hp) : Prop := QA (x :: xs) H
def AcK (tas : TA) (σ : L2.St) (QA : List V → Hp → Prop) (x : V) (H : Hp) : Prop := tas σ H (AcQ QA x)
theorem acons (q : ta σ H (AcK tas σ QA)) : tCons ta tas σ H QA := q
theorem anil (q : QA [] H) : tNil σ H QA := q
theorem slice_go {r : V → Option Int → Option Int → Hp → VK → Prop} {tl th : TO} (q : te σ H fun x H1 => tl σ H1 fun l H2 => th σ H2 fun u H3 => r x l u H3 Q) : tSl r te tl th σ H Q := q
theorem nopart {QO : Option Int → Hp → Prop} (q : QO none H) : tNoPart σ H QO := q
theorem part {QO : Option Int → Hp → Prop} (q : ta σ H fun x H1 => ∃ i, x = .int i ∧ QO (some i) H1) : tPart ta σ H QO := q
/-! ### built-ins -/
theorem len_s {z : Str} (h : z.length ≤ sizeLine) (q : Q (.int (z.length : Int)) H) : rLen K [.str z] H Q := ⟨.str z, z.length, rfl, ⟨h, rfl⟩, q⟩
theorem len_l (h : H a = some (.lst xs)) (q : Q (.int (xs.length : Int)) H) : rLen K [.ref a] H Q := ⟨.ref a, xs.length, rfl, .inl ⟨xs, SqL.of h, rfl⟩, q⟩
theorem len_lq (h : SqL K H a xs) (q : Q (.int (xs.length : Int)) H) : rLen K [.ref a] H Q := ⟨.ref a, xs.length, rfl, .inl ⟨xs, h, rfl⟩, q⟩
theorem len_t (h : H a = some (.tup xs)) (q : Q (.int (xs.length : Int)) H) : rLen K [.ref a] H Q := ⟨.ref a, xs.length, rfl, .inr ⟨xs, SqT.of h, rfl⟩, q⟩
theorem len_tq (h : SqT K H a xs) (q : Q (.int (xs.length : Int)) H) : rLen K [.ref a] H Q := ⟨.ref a, xs.length, rfl, .inr ⟨xs, h, rfl⟩, q⟩
theorem int_i {i : Int} (q : Q (.int i) H) : rInt1 [.int i] H Q := .inl ⟨i, rfl, q⟩
theorem all_go {bs : List Bool} (h : H a = some (.lst (bs.map V.bl))) (q : Q (.bl (bs.all id)) H) : rAll K [.ref a] H Q := ⟨a, bs, rfl, SqL.of h, q⟩
theorem any_go {bs : List Bool} (h : H a = some (.lst (bs.map V.bl))) (q : Q (.bl (bs.any id)) H) : rAny K [.ref a] H Q := ⟨a, bs, rfl, SqL.of h, q⟩
theorem bm1 {T : String} {r : V → List V → Hp → VK → Prop} (q : ta σ H fun x H1 => tyV K T x H1 ∧ tb σ H1 fun y H2 => r x [y] H2 Q) : tBM K T r ta (tCons tb tNil) σ H Q := q
theorem bm0 {T : String} {r : V → List V → Hp → VK → Prop} (q : ta σ H fun x H1 => tyV K T x H1 ∧ r x [] H1 Q) : tBM0 K T r ta σ H Q := q
theorem ty_l (h : H a = some (.lst xs)) : tyV K "list" (.ref a) H := .inl ⟨rfl, xs, SqL.of h⟩
theorem join_go (q : ta σ H fun x H1 => (∃ a, x = .str a) ∧ tb σ H1 fun y H2 => rJoin K x [y] H2 Q) : tM1 (rJoin K) ta tb σ H Q := q
theorem join_l {z : Str} {ys : List Str} (h : H a = some (.lst (ys.map V.str))) (hz : (ys.map (·.length)).sum + ys.length * z.length ≤ 16777216) (q : Q (.str (Txt.join z ys)) H) : rJoin K (.str z) [.ref a] H Q := ⟨z, a, ys, rfl, rfl, .inl (SqL.of h), hz, q⟩
/-- the law's bag, one cell stored -/
theorem setb {j : Nat} {R : Hp → Prop} (h : H a = some (.lst xs)) (n : F a = none) (e : Ex F H) (hj : j < xs.length) (q : ∀ H', Ext (some a) F H F H' → H' a = some (.lst (xs.set j v)) → R H') : rSetL (.ref a) (.int (j : Int)) v H R := by
  refine setl h hj (q _ ⟨fun _ _ h => h, fun b u k => ?_, fun b u nb k => ?_, fun b _ k => ?_, fun b k _ => k⟩ upd_same)
  · rw [upd_ne (ne_of_none k n)]; exact e b u k
  · rw [upd_ne (fun z => nb (by rw [z]))]; exact k
  · by_cases hb : b = a
    · rw [hb, upd_same]; rfl
    · rw [upd_ne hb]; exact k
def ChK (tc : TE) (r' : R2) (σ : L2.St) (Q : VK) (y z : V) (H : Hp) : Prop := ∃ k, z = .bl k ∧ (if k = true then tc σ H fun w' H4 => r' y w' H4 Q else Q (.bl false) H)
theorem chain_go {r r' : R2} (q : ta σ H fun x H1 => tb σ H1 fun y H2 => r x y H2 (ChK tc r' σ Q y)) : tChain r r' ta tb tc σ H Q := q
theorem ch_b {r' : R2} {c : Bool} (h1 : c = true → tc σ H fun w' H4 => r' y w' H4 Q) (h2 : c = false → Q (.bl false) H) : ChK tc r' σ Q y (.bl c) H := ⟨c, rfl, by
  cases c with
  | true => exact h1 rfl
  | false => exact h2 rfl⟩
theorem cut_go {M : L2.St → Hp → Prop} (q : s1 ⟨M, rt, bk, ct⟩ σ H) (k : ∀ σ' H', M σ' H' → s2 ⟨nx, rt, bk, ct⟩ σ' H') : Evl.tCut s1 s2 ⟨nx, rt, bk, ct⟩ σ H := ⟨M, q, k⟩
theorem isN (q : Q (.bl (decide (x = .non))) H) : rIsN x .non H Q := ⟨rfl, q⟩
theorem notN (q : Q (.bl (!decide (x = .non))) H) : rNotN x .non H Q := ⟨rfl, q⟩
end
/-! ### slices -/
theorem cut_to (xs : List V) (n : Nat) : cutV xs none (some (n : Int)) = xs.take n := by
  unfold cutV
  rw [HT.sIx_none, show HT.sIx xs.length xs.length (some (n : Int)) = min n xs.length from HT.sIx_nat xs.length _ n]
  show (xs.drop 0).take (min n xs.length - 0) = xs.take n
  rw [List.drop_zero, Nat.sub_zero]
  by_cases h : n ≤ xs.length
  · rw [Nat.min_eq_left h]
  · rw [Nat.min_eq_right (by omega), List.take_length, List.take_of_length_le (by omega)]
theorem cut_from (xs : List V) (n : Nat) : cutV xs (some (n : Int)) none = xs.drop n := by
  unfold cutV
  rw [HT.sIx_none, show HT.sIx xs.length 0 (some (n : Int)) = min n xs.length from HT.sIx_nat xs.length 0 n]
  by_cases h : n ≤ xs.length
  · rw [Nat.min_eq_left h, List.take_of_length_le]
    rw [List.length_drop]; omega
  · rw [Nat.min_eq_right (by omega), List.drop_length, List.drop_eq_nil_of_le (by omega)]; simp
end PX

/-! texts as lists of signs -/
namespace PX
open PySem PySem.Spec PyProof.Rows L2 RZ
/-- a text of these signs -/
def qT : Rp (List Nat) := fun cs v _ => v = .str (SX.S cs)
instance : MonoR qT := ⟨fun _ h => h⟩
instance {K : PySem.W.Frag} : Dat K qT (fun cs => PyData.str (SX.S cs)) := ⟨fun h => by cases h; exact .str _⟩
/-- a text of one sign -/
def qC : Rp Nat := fun c v _ => v = .str (SX.S [c])
instance : MonoR qC := ⟨fun _ h => h⟩
instance {K : PySem.W.Frag} : Dat K qC (fun c => PyData.str (SX.S [c])) := ⟨fun h => by cases h; exact .str _⟩
/-- some y of the kind P, told by S -/
def qEx {α β : Type} (P : β → Prop) (S : Rp β) : Rp α := fun _ v F => ∃ y, P y ∧ S y v F
instance {α β : Type} {P : β → Prop} {S : Rp β} [MonoR S] : MonoR (qEx P S : Rp α) := ⟨fun e ⟨y, h, k⟩ => ⟨y, h, up e k⟩⟩
theorem AllR.ex {α β : Type} {P : β → Prop} {S : Rp β} {F : Hp} : ∀ {xs : List α} {us : List V}, AllR (qEx P S) xs us F → ∃ ys : List β, ys.length = xs.length ∧ (∀ y ∈ ys, P y) ∧ AllR S ys us F
  | [], [], _ => ⟨[], rfl, fun _ h => (List.not_mem_nil h).elim, True.intro⟩
  | [], _ :: _, h => h.elim
  | _ :: _, [], h => h.elim
  | x :: xs, u :: us, ⟨⟨y, hy, k⟩, h⟩ => by
    obtain ⟨ys, l, p, a⟩ := AllR.ex h
    exact ⟨y :: ys, congrArg Nat.succ l, fun z hz => by
      rcases List.mem_cons.mp hz with e | e
      · rw [e]; exact hy
      · exact p z e, k, a⟩
theorem AllR.txt {F : Hp} : ∀ {xs : List (List Nat)} {vs : List V}, AllR qT xs vs F → vs = (xs.map SX.S).map V.str
  | [], [], _ => rfl
  | [], _ :: _, h => h.elim
  | _ :: _, [], h => h.elim
  | x :: xs, v :: vs, ⟨h, k⟩ => by
    rw [show v = _ from h, AllR.txt k] <;> rfl
theorem AllR.ch {F : Hp} : ∀ {cs : List Nat} {vs : List V}, AllR qC cs vs F → vs = ((cs.map fun c => [c]).map SX.S).map V.str
  | [], [], _ => rfl
  | [], _ :: _, h => h.elim
  | _ :: _, [], h => h.elim
  | x :: xs, v :: vs, ⟨h, k⟩ => by
    rw [show v = _ from h, AllR.ch k] <;> rfl
theorem flat_ch : ∀ cs : List Nat, (cs.map fun c => [c]).flatten = cs
  | [] => rfl
  | c :: cs => by rw [List.map_cons, List.flatten_cons, flat_ch cs] <;> rfl
theorem len_ch (cs : List Nat) : ((cs.map fun c => [c]).map (·.length)).sum = cs.length := by
  induction cs with
  | nil => rfl
  | cons c cs ih => rw [List.map_cons, List.map_cons, List.sum_cons, ih, List.length_cons]; simp; omega
theorem AllR.mem {α : Type} {R : Rp α} {F : Hp} {v : V} : ∀ {xs : List α} {vs : List V}, AllR R xs vs F → v ∈ vs → ∃ x, x ∈ xs ∧ R x v F
  | [], [], _, m => by cases m
  | [], _ :: _, h, _ => h.elim
  | _ :: _, [], h, _ => h.elim
  | x :: xs, u :: us, ⟨h, k⟩, m => by
    rcases List.mem_cons.mp m with e | e
    · exact ⟨x, List.mem_cons_self .., by rw [e]; exact h⟩
    · obtain ⟨z, hz, q⟩ := AllR.mem k e
      exact ⟨z, List.mem_cons_of_mem _ hz, q⟩
section
variable {H : Hp} {Q : VK} {K : PySem.W.Frag} {a b : List Nat}
theorem add_t2 (h : a.length + b.length ≤ 100000) (q : Q (.str (SX.S (a ++ b))) H) : rAdd K (.str (SX.S a)) (.str (SX.S b)) H Q :=
  add_s (small (by rw [SX.S_len, SX.S_len]; exact h)) (by rw [SX.S_cat]; exact q)
theorem len_S (h : a.length ≤ 100000) (q : Q (.int (a.length : Int)) H) : rLen K [.str (SX.S a)] H Q := len_s (small (by rw [SX.S_len]; exact h)) (by rw [SX.S_len]; exact q)
theorem cut_toS {i : Int} (h : 0 ≤ i) : cutS (SX.S a) none (some i) = SX.S (a.take i.toNat) := by rw [C8.cutS_slice, SX.slice_to h]
theorem cut_fromS {i : Int} (h : 0 ≤ i) : cutS (SX.S a) (some i) none = SX.S (a.drop i.toNat) := by
  have e : i = ((i.toNat : Nat) : Int) := by omega
  rw [e]
  unfold cutS
  rw [HT.sIx_none, show HT.sIx (SX.S a).length 0 (some ((i.toNat : Nat) : Int)) = min i.toNat (SX.S a).length from HT.sIx_nat _ 0 _, SX.S_len]
  show SX.S _ = SX.S _
  congr 1
  show (a.drop (min i.toNat a.length)).take (a.length - min i.toNat a.length) = a.drop ((i.toNat : Nat) : Int).toNat
  rw [Int.toNat_natCast]
  by_cases h : i.toNat ≤ a.length
  · rw [Nat.min_eq_left h, List.take_of_length_le]
    rw [List.length_drop]; omega
  · rw [Nat.min_eq_right (by omega), List.drop_length, List.drop_eq_nil_of_le (by omega)]; simp
theorem sl_to {i : Int} (hs : a.length ≤ 100000) (h : 0 ≤ i) (q : Q (.str (SX.S (a.take i.toNat))) H) : rSl K (.str (SX.S a)) none (some i) H Q :=
  sl_s (small (by rw [SX.S_len]; exact hs)) (by rw [cut_toS h]; exact q)
theorem sl_from {i : Int} (hs : a.length ≤ 100000) (h : 0 ≤ i) (q : Q (.str (SX.S (a.drop i.toNat))) H) : rSl K (.str (SX.S a)) (some i) none H Q :=
  sl_s (small (by rw [SX.S_len]; exact hs)) (by rw [cut_fromS h]; exact q)
theorem joinL_nil : ∀ l : List (List Nat), TL.joinL [] l = l.flatten
  | [] => rfl
  | [p] => by simp [TL.joinL]
  | p :: q :: r => by
    show p ++ ([] ++ TL.joinL [] (q :: r)) = _
    rw [joinL_nil (q :: r), List.nil_append] <;> rfl
theorem join_0 {p : Addr} {ys : List (List Nat)} (h : H p = some (.lst ((ys.map SX.S).map V.str))) (hz : (ys.map (·.length)).sum ≤ 100000) (q : Q (.str (SX.S ys.flatten)) H) : rJoin K (.str (SX.S [])) [.ref p] H Q :=
  join_l h (by rw [SX.lens, SX.S_len]; simp only [List.length_nil, Nat.mul_zero]; omega) (by rw [SX.join_S, joinL_nil]; exact q)
end
/-! ### words -/
def lowL (cs : List Nat) : Bool := cs.all isLow
theorem wordS_S {cs : List Nat} : wordS (SX.S cs) = lowL cs := rfl
theorem abc_at : ∀ j : Nat, j < 52 → atI abcL ((j : Int) - 26) = some (97 + j % 26) := by decide +kernel
theorem abc_low : ∀ j : Nat, j < 26 → isLow (97 + j) = true := by decide +kernel
theorem lowL_app {a b : List Nat} : lowL (a ++ b) = (lowL a && lowL b) := List.all_append
theorem lowL_take {a : List Nat} {n : Nat} (h : lowL a = true) : lowL (a.take n) = true := List.all_eq_true.mpr fun c hc => List.all_eq_true.mp h c (List.mem_of_mem_take hc)
theorem lowL_drop {a : List Nat} {n : Nat} (h : lowL a = true) : lowL (a.drop n) = true := List.all_eq_true.mpr fun c hc => List.all_eq_true.mp h c (List.mem_of_mem_drop hc)
/-- the law's names -/
def nameK (l r : List Nat) (f k : Nat) : List Nat := l ++ (97 + (f + k) % 26) :: r
def namesK (l r : List Nat) (f n : Nat) : List (List Nat) := (List.range n).map (nameK l r f)
def nameL (cs : List Nat) : Bool := lowL cs && (decide (1 ≤ cs.length) && decide (cs.length ≤ 8))
theorem nameL_K {l r : List Nat} {f k : Nat} (h1 : lowL l = true) (h2 : lowL r = true) (h3 : l.length + r.length ≤ 7) : nameL (nameK l r f k) = true := by
  unfold nameL nameK
  have e : lowL (l ++ (97 + (f + k) % 26) :: r) = true := by
    rw [lowL_app, h1, Bool.true_and]
    show (isLow _ && lowL r) = true
    rw [h2, Bool.and_true]
    exact abc_low _ (Nat.mod_lt _ (by decide))
  rw [e, Bool.true_and, List.length_append, List.length_cons, decide_eq_true (by omega), decide_eq_true (by omega)]
  rfl
theorem nameS_S {cs : List Nat} : nameS (SX.S cs) = nameL cs := by unfold nameS nameL; rw [SX.S_len, wordS_S]
end PX

/-! enumerate of a list, or of the empty tuple -/
namespace PX
open PySem PySem.Spec PyProof.Rows L2
section
variable {P : Program} {w : World} {A : Around} {E : Value → Shared → Prop} {s : Shared}
theorem next_tup_end {it t : Addr} {i : Nat} {items : Array Value} {Q : Value → Shared → Prop} (hh : A.handled = none) (hit : s.heap.IsTupleIter it t i) (ht : s.heap.IsTuple t items) (hx : items[i]? = none)
    (hE : ∀ h' e, Heap.ExtBut it s.heap h' → (∃ o, h'.get? e = some o ∧ o.cls = .type "StopIteration") → E (.ref e) { s with heap := h' }) : wpAny (model P w) A (Builtin.SmallTypes.nextOf (.ref it)) Q E s := by
  obtain ⟨o, ho, hc, hd⟩ := id hit
  obtain ⟨ol, hol, _, nl, hdl⟩ := ht
  unfold Builtin.SmallTypes.nextOf
  refine wpAny_bind (wpAny_callSpecial?_slot (name := Str.ofString "__next__") hit.typeIs PySem.F.slot_tuple_iterator_next (wpAny_call_entry PySem.F.slot_tuple_iterator_next hit.typeIs PySem.F.entry_tuple_iterator_next ?_ (PySem.F.args_tuple_iterator_next_1 _)))
  show wpAny _ _ (field (.ref it) 0 >>= _) _ _ s
  refine wpAny_bind (wpAny_field ho hd (x := .ref t) rfl ?_)
  show wpAny _ _ (if (Value.ref t == Value.none) = true then _ else _) _ _ s
  rw [if_neg (show ¬ ((Value.ref t == Value.none) = true) from Bool.false_ne_true)]
  show wpAny _ _ (field (.ref it) 1 >>= _) _ _ s
  refine wpAny_bind (wpAny_field ho hd (x := .int i 0) rfl ?_)
  show wpAny _ _ (seqItems? (.ref t) >>= _) _ _ s
  refine wpAny_bind (wpAny_seqItems hol hdl ?_)
  simp only [Int.toNat_natCast, hx]
  refine wpAny_bind (wpAny_rule (wpAny_bind (wpAny_setField ho hd (by simp) ?_)))
  show wpAny _ _ (newExc (.type "StopIteration") [] >>= _) _ _ _
  refine wpAny_bind ?_
  simp only [newExc, newTuple]
  refine wpAny_bind (wpAny_newObj_type ?_ (by size_fits))
  refine wpAny_bind (m := firstArgMember _ _) (wpAny_of_eq (a := Value.none) (by first | rfl | (simp only [firstArgMember]; rfl)) (wpAny_newObj_type ?_ (by size_fits)))
  simp only [raiseNew]
  refine wpAny_bind (wpAny_handled ?_)
  first | rw [show A.in1.handled = none from hh] | rw [hh]
  exact wpAny_bind (wpAny_pure (wpAny_throw (hE _ _ (((Heap.SameBut.update ..).extBut.push _).push _) ⟨_, Heap.get?_push_size _ rfl, rfl⟩)))
theorem draws_tupE (hh : A.handled = none) (it t : Addr) (items : Array Value) (hne : t ≠ it) : Draws P w A it [it, t] items.size (fun i v => items[i]? = some v) (fun i h => h.IsTupleIter it t i ∧ h.IsTuple t items) where
  live := fun _ _ st => let ⟨o, ho, _⟩ := st.1; ⟨o, ho⟩
  frame := fun _ _ _ st hk => ⟨let ⟨o, ho, r⟩ := st.1; ⟨o, hk it (by simp) o ho, r⟩, let ⟨o, ho, r⟩ := st.2; ⟨o, hk t (by simp) o ho, r⟩⟩
  item := fun i s Q E hi st hQ => RZ.nextOf_tuple_item st.1 st.2 (Array.getElem?_eq_getElem hi) fun h' hit sb => hQ _ h' s.toks (Array.getElem?_eq_getElem hi) ⟨hit, let ⟨o, ho, r⟩ := st.2; ⟨o, (sb.2 t hne).trans ho, r⟩⟩ sb
  done := fun s Q E st hE => next_tup_end hh st.1 st.2 (by simp) hE
open Sem (wp) in
open AutoSeq1 (wpAny_loadPart') in
theorem meets_enum_tup (l : Addr) (items : Array Value) (n : Nat) (dct : Option Addr) (sl : Array (Option Value)) :
    Meets (Builtin.«enumerate.__new__» ⟨[.type "enumerate", .ref l], []⟩) (fun _ R s => s.heap.get? l = some { cls := .type "tuple", dict := dct, data := .seq items n, slots := sl } ∧
      R (.ok (.ret (.ref (s.heap.push { cls := .type "tuple_iterator", data := .fields #[.ref l, .int 0 0] }).objs.size)))
        { s with heap := (s.heap.push { cls := .type "tuple_iterator", data := .fields #[.ref l, .int 0 0] }).push { cls := .type "enumerate", data := .fields #[.none, .bool false, .ref s.heap.objs.size, rawInt 0, .none, .none] } }) :=
  .of_wp fun prog w A R s h => by
    obtain ⟨hp, g, d, tk, os⟩ := s; obtain ⟨hl, h⟩ := h
    have hsub := sub_enumerate
    have hL : Heap.IsTuple (Shared.heap ⟨hp, g, d, tk, os⟩) l items := ⟨_, hl, rfl, n, rfl⟩
    wp_walk using wpAny_loadPart' hl
    refine wpAny_stack_any fun st => wpAny_pure ?_
    split
    · rename_i c _ _ _ _ _
      cases (c == Value.type "enumerate") <;> (wp_walk using wpAny_loadPart' hl, wpAny_pyIter_tuple hL; exact ⟨_, rfl, h⟩)
    · wp_walk using wpAny_loadPart' hl, wpAny_pyIter_tuple hL
      exact ⟨_, rfl, h⟩
theorem call_enum_tup {l : Addr} {items : Array Value} {Q : Value → Shared → Prop} (hL : s.heap.IsTuple l items)
    (h : ∀ h', IsEnum h' (s.heap.objs.size + 1) s.heap.objs.size 0 .none → h'.IsTupleIter s.heap.objs.size l 0 → (∀ b o, s.heap.get? b = some o → h'.get? b = some o) → Q (.ref (s.heap.objs.size + 1)) { s with heap := h' }) :
    wpAny (model P w) A (call (.type "enumerate") [.ref l]) Q E s := by
  obtain ⟨⟨c, dct, dt, sl⟩, hl, hc, n, hd⟩ := hL
  replace hc : c = .type "tuple" := hc
  replace hd : dt = .seq items n := hd
  subst hc hd
  refine callType_new PySem.F.called_enumerate (by decide) (PySem.F.typeCall_enumerate_1 _) (PySem.F.newCall_enumerate_1 _) (fun obj => PySem.F.args_object_init_2 obj _) PySem.F.entry_enumerate_new (meets_enum_tup l items n dct sl) ⟨hl, ?_⟩
  have hz : (s.heap.push { cls := .type "tuple_iterator", data := .fields #[.ref l, .int 0 0] }).objs.size = s.heap.objs.size + 1 := Heap.size_push ..
  show _ ∧ _
  rw [hz]
  have he : IsEnum ((s.heap.push { cls := .type "tuple_iterator", data := .fields #[.ref l, .int 0 0] }).push { cls := .type "enumerate", data := .fields #[.none, .bool false, .ref s.heap.objs.size, rawInt 0, .none, .none] }) (s.heap.objs.size + 1) s.heap.objs.size 0 .none := by
    have q := Heap.get?_push_size (s.heap.push { cls := .type "tuple_iterator", data := .fields #[.ref l, .int 0 0] }) (o := { cls := .type "enumerate", data := .fields #[.none, .bool false, .ref s.heap.objs.size, rawInt 0, .none, .none] }) rfl
    rw [hz] at q; exact q
  exact ⟨⟨_, he, rfl⟩, h _ he ⟨_, Heap.get?_push_of_some _ (Heap.get?_push_size _ rfl), rfl, rfl⟩ fun b o x => Heap.get?_push_of_some _ (Heap.get?_push_of_some _ x)⟩
end
/-- a walk over the numbered items of the tuple at a -/
def IteT (K : PySem.W.Frag) (a : Addr) : It :=
  ⟨fun i H => ∃ (xs : List V) (x : V), SqT K H a xs ∧ xs[i]? = some x, fun i H v H' => ∃ T x, v = .ref T ∧ H T = none ∧ H' = upd H T (.tup [.int (i : Nat), x]) ∧ ∀ xs, SqT K H a xs → xs[i]? = some x, fun i H => ∃ xs : List V, SqT K H a xs ∧ xs.length = i⟩
theorem turn_enumT {P : Program} {w : World} {K : PySem.W.Frag} {elts : List Expr} {kk : Nat} {tpos : Pos} (a e it : Addr) (hai : a ≠ it) (hae : e ≠ a) :
    Turn P w K (.Tuple elts kk tpos) (IteT K a) [e, it] e (fun i h => (∃ old, IsEnum h e it ((i : Nat) : Int) old) ∧ h.IsTupleIter it a i ∧ e ≠ it) where
  mem := by simp
  obj := fun i h st b hb => by
    obtain ⟨⟨old, he⟩, ⟨o, ho, hc, hd⟩, _⟩ := st
    have e' : b = e ∨ b = it := by simpa using hb
    rcases e' with z | z
    · rw [z]; exact ⟨_, he, fun v q => nomatch q⟩
    · rw [z]; exact ⟨o, ho, fun v q => by rw [hd] at q; cases q⟩
  keep := fun i h h' st k => let ⟨⟨old, he⟩, ⟨o, ho, r⟩, hne⟩ := st; ⟨⟨old, k e (by simp) _ he⟩, ⟨o, k it (by simp) o ho, r⟩, hne⟩
  item := by
    intro X hP hw hK hc i pins s σ H E I hf st hg
    subst hP hw hK
    obtain ⟨⟨old, he⟩, hit, hne⟩ := st
    obtain ⟨xs, x, hq, hx⟩ := hg
    obtain ⟨its, rv, p, hz⟩ := I.tuple hq
    obtain ⟨u, hu, ru⟩ := rv.get hx
    have hel : e < s.heap.objs.size := Heap.lt_size he
    have hil : it < s.heap.objs.size := by obtain ⟨_, q, _⟩ := hit; exact Heap.lt_size q
    have hlt : i < its.toArray.size := by
      have := (List.getElem?_eq_some_iff.mp hu).1
      simpa using this
    refine wpAny_pyNext_enum_itemD (draws_tupE (A := X.A.in1) (show X.A.in1.handled = none from I.ok.hd hc) it a its.toArray hai) he (show _ ∧ _ from ⟨hit, p⟩) hlt hne (by simp [hne, hae]) fun u2 h' tk hu2 ho st' hT hsz hk => ?_
    have eu : u2 = u := by
      have h1 : its[i]? = some u2 := by simpa using hu2
      rw [hu] at h1
      exact (Option.some.inj h1).symm
    subst eu
    have hit' := st'.1
    refine ⟨_, rfl, wpAny_letOwnedTupleGo_enum (s := { s with heap := h', toks := tk + 1 }) ho fun h'' he' sb => ?_⟩
    have hT2 : h''.get? s.heap.objs.size = some { cls := .type "tuple", data := .seq #[.int i tk, u2] } := (sb.2 _ (Nat.ne_of_gt hel)).trans hT
    have new : ObjOk X.prog X.w (upd H s.heap.objs.size (.tup [.int (i : Nat), x])) h'' s.heap.objs.size (.tup [.int (i : Nat), x]) :=
      ⟨by show 2 ≤ sizeLine; decide, [.int i tk, u2], .cons ⟨_, rfl⟩ (.cons ru .nil), ⟨_, hT2, rfl, _, rfl⟩⟩
    have I1 : Inv X pins σ (upd H s.heap.objs.size (.tup [.int (i : Nat), x])) { s with heap := h'', toks := tk + 1 } :=
      I.turnedNew (ch := [e, it]) (fun b ob hb q => (sb.2 b (fun z => hb (by simp [z]))).trans (hk b ob (fun z => hb (by simp [z])) (fun z => hb (by simp [z])) q)) hf (Nat.le_refl _) new
    refine ⟨.ref s.heap.objs.size, _, I1, rfl, ⟨_, x, rfl, I.hok.fresh (Nat.le_refl _), rfl, fun ys hy => by rw [I.tuple_inj hy hq]; exact hx⟩, ⟨⟨u2, ?_⟩, (let ⟨o, ho, r⟩ := hit'; ⟨o, (sb.2 it (Ne.symm hne)).trans ho, r⟩), hne⟩, fun b hb => ?_⟩
    · have e1 : ((i + 1 : Nat) : Int) = (i : Int) + 1 := by omega
      rw [e1]; exact he'
    · have hb' : b < s.heap.objs.size := by
        have e' : b = e ∨ b = it := by simpa using hb
        rcases e' with z | z
        · rw [z]; exact hel
        · rw [z]; exact hil
      rw [upd_ne (Nat.ne_of_lt hb')]
      exact (hf b hb).1
  done := fun X hP hw hK hc i pins s σ H E I hf st hg => by
    subst hP hw hK
    obtain ⟨⟨old, he⟩, hit, hne⟩ := st
    obtain ⟨xs, hq, hx⟩ := hg
    obtain ⟨its, rv, p, hz⟩ := I.tuple hq
    obtain ⟨f0, f1, f2, f3, f4, f5⟩ := hf it (by simp)
    have hl := rv.length
    have hn : its.toArray.size = i := by
      rw [List.size_toArray, ← hl]; exact hx
    exact wpAny_pyNext_enum_endD (draws_tupE (A := X.A.in1) (show X.A.in1.handled = none from I.ok.hd hc) it a its.toArray hai) he (show _ ∧ _ from ⟨by rw [hn]; exact hit, p⟩) fun h' eb => ⟨rfl, I.turned (t' := s.toks) (fun b o hb q => eb b o hb q) f0 f1 f3 f4 f5⟩
  self := fun A i s Q E st h => let ⟨⟨_, he⟩, _⟩ := st; wpAny_pyIter_enum he h
def EnD (K : PySem.W.Frag) (R : It → Hp → Prop) (vs : List V) (H : Hp) : Prop := (∃ a xs, vs = [.ref a] ∧ SqL K H a xs ∧ R (Ite K a) H) ∨ ∃ a xs, vs = [.ref a] ∧ SqT K H a xs ∧ R (IteT K a) H
def iEnumD (K : PySem.W.Frag) (ta : TA) : TI := fun σ H R => ta σ H (EnD K R)
theorem pi_enumD (K : PySem.W.Frag) {X : Cx} {e : Expr} {ta : TA} {p pos tpos : Pos} {elts : List Expr} {kk : Nat} (hg : Gl X "enumerate") (hm : X.mg "enumerate" = none) (ha : PA X [e] ta) (hK : X.K = K := by rfl) (hs : starEach [e] X.env = [(false, eval e X.env)] := by rfl) :
    PI X (.Tuple elts kk tpos) (.Call (.Name "enumerate" p) [e] [] pos) (iEnumD K ta) := ⟨fun pins s σ H R I h => by
  subst hK
  refine Call_ (ld_blt I hg hm boot_enumerate (PyProof.Rows.callWith_type1 (thn (ha.run pos pins s σ H _ I h) fun us s1 ⟨vs, H1, J, r1, q1⟩ => ?_) hs rfl))
  have young : ∀ b, b ∈ [s1.heap.objs.size + 1, s1.heap.objs.size] → s1.heap.objs.size ≤ b := fun b hb => by
    have e' : b = s1.heap.objs.size + 1 ∨ b = s1.heap.objs.size := by simpa using hb
    omega
  rcases q1 with ⟨a, xs, rfl, hq, q⟩ | ⟨a, xs, rfl, hq, q⟩ <;> rw [Vals.ref1 r1]
  · obtain ⟨its, rv, p', hz⟩ := J.list hq
    exact call_enumerate_list p'.isList fun h' he hit _ hk => wpAny_pyIter_enum he ⟨s1.heap.objs.size + 1, [s1.heap.objs.size + 1, s1.heap.objs.size], _, _, H1, rfl, J.kept (t' := s1.toks) hk, turn_enum a (s1.heap.objs.size + 1) s1.heap.objs.size, ⟨⟨.none, he⟩, hit, Nat.succ_ne_self _⟩, fun b hb => J.fpOk (young b hb) (J.hok.fresh (young b hb)), q⟩
  · obtain ⟨its, rv, p', hz⟩ := J.tuple hq
    have hal : a < s1.heap.objs.size := let ⟨o, ho, _⟩ := (show s1.heap.IsTuple a its.toArray from p'); Heap.lt_size ho
    exact call_enum_tup (show s1.heap.IsTuple a its.toArray from p') fun h' he hit hk => wpAny_pyIter_enum he ⟨s1.heap.objs.size + 1, [s1.heap.objs.size + 1, s1.heap.objs.size], _, _, H1, rfl, J.kept (t' := s1.toks) hk, turn_enumT a (s1.heap.objs.size + 1) s1.heap.objs.size (Nat.ne_of_lt hal) (Nat.ne_of_gt (Nat.lt_succ_of_lt hal)), ⟨⟨.none, he⟩, hit, Nat.succ_ne_self _⟩, fun b hb => J.fpOk (young b hb) (J.hok.fresh (young b hb)), q⟩⟩
end PX

/-! sets of texts made from a text: set(x), len, sorted -/
namespace PX
open PySem PySem.Spec PyProof.Rows L2
def kT (e : Int × Value) : Str := match e.2 with
  | .str k _ => k
  | _ => Str.empty
abbrev sk (P : Program) (w : World) : KeyKind P w Str := PySem.strKind P w
def GoodT (P : Program) (w : World) (e : Int × Value) : Prop := ∃ k tk, e.2 = Value.str k tk ∧ e.1 = (sk P w).hash k
def Led (w : World) (t : SetTable) : Prop := w.params.followText "set-order" = true ∨ t.led = true
/-- the set at a holds the texts l, each once; its table can be walked -/
def TR (P : Program) (w : World) (h : Heap) (a : Addr) (l : List Str) : Prop :=
  ∃ o es ep t, h.get? a = some o ∧ o.ExactSet ∧ o.data = .set es ep t ∧ (∀ e ∈ es.toList, GoodT P w e) ∧ l.Nodup ∧ (es.toList.map kT).Perm l ∧ es.size < scanBound ∧ t.fits es.size = true ∧ Ris t.place.toList ∧ Led w t
section
variable {P : Program} {w : World} {h h' : Heap} {a : Addr} {l : List Str}
theorem TR.at (R : TR P w h a l) (k : ∀ o, h.get? a = some o → h'.get? a = some o) : TR P w h' a l := by
  obtain ⟨o, es, ep, t, ho, r⟩ := R
  exact ⟨o, es, ep, t, k o ho, r⟩
theorem isT (k : Str) (u : Tok) : (sk P w).is k (.str k u) = true := PySem.strKind_is P w k u
theorem goodT_elems {es : List (Int × Value)} (g : ∀ e ∈ es, GoodT P w e) : ElemsOf (sk P w) es := fun e he => by
  obtain ⟨k, tk, h1, h2⟩ := g e he
  exact ⟨⟨k, by rw [h1]; exact isT k tk, h2⟩, by rw [h1]; rfl⟩
theorem goodT_is {e : Int × Value} (g : GoodT P w e) (k : Str) : (sk P w).is k e.2 = true ↔ kT e = k := by
  obtain ⟨k0, tk, h1, _⟩ := g
  unfold kT
  rw [h1]
  constructor
  · intro z
    exact (sk P w).inj (.str k0 tk) k0 k (isT k0 tk) z
  · intro z
    rw [← z]; exact isT k0 tk
theorem goodT_mem {es : List (Int × Value)} (g : ∀ e ∈ es, GoodT P w e) (k : Str) : k ∈ es.map kT ↔ ∃ e ∈ es, (sk P w).is k e.2 = true := by
  rw [List.mem_map]
  exact ⟨fun ⟨e, he, q⟩ => ⟨e, he, (goodT_is (g e he) k).2 q⟩, fun ⟨e, he, q⟩ => ⟨e, he, (goodT_is (g e he) k).1 q⟩⟩
end
section
variable {P : Program} {w : World} {A : Around} {E : Value → Shared → Prop} {s : Shared} {a : Addr} {l : List Str}
/-- behind a new entry: stored, laid anew where it is too full -/
theorem tr_tail {g : Bool → Sem Unit} (hg : ∀ (b : Bool) (s₁ : Shared) (Q' : Unit → Shared → Prop), Q' () s₁ → wpAny (model P w) A (g b) Q' E s₁) {o : Obj} {es : Array (Int × Value)} {ep : Nat} {t : SetTable}
    (ho : s.heap.get? a = some o) (hex : o.ExactSet) (hd : o.data = .set es ep t) {es1 : Array (Int × Value)} {t2 : SetTable} (g1 : ∀ e ∈ es1.toList, GoodT P w e) (nd1 : l.Nodup) (m1 : (es1.toList.map kT).Perm l)
    (hb1 : es1.size < scanBound) (hf2 : t2.fits es1.size = true) (hr : Ris t2.place.toList) (hl : Led w t2) {wasDummy : Bool} {R : Option Bool → Shared → Prop} (hR : ∀ h', Heap.SameBut a s.heap h' → TR P w h' a l → R (some true) { s with heap := h' }) :
    wpAny (model P w) A (do
        storeSet a es1 t2
        if (!wasDummy && t2.tooFull) = true then do
            g (relayAll t2 es1 (SetTable.grown es1.size)).2.2
            storeSet a (relayAll t2 es1 (SetTable.grown es1.size)).1 (relayAll t2 es1 (SetTable.grown es1.size)).2.1
            pure (some true)
          else pure (some true)) R E s := by
  have ho1 := store_at (es' := es1) (t' := t2) ho hd
  have sb1 := Heap.SameBut.update s.heap a (Obj.putSet es1 t2)
  refine wpAny_bind (wpAny_storeSet_of ho hd ?_ (fits_of_scanBound hb1))
  split
  · have pm := relayAll_perm t2 es1 (SetTable.grown es1.size)
    have f3 := relayAll_fits t2 es1 (SetTable.grown es1.size)
    have r3 := relayAll_ris t2 es1 (SetTable.grown es1.size)
    have l3 := relayAll_led t2 es1 (SetTable.grown es1.size)
    generalize relayAll t2 es1 (SetTable.grown es1.size) = Z at pm f3 r3 l3 ⊢
    obtain ⟨es2, t3, gave⟩ := Z
    dsimp only at pm f3 r3 l3 ⊢
    have hsz : es2.size = es1.size := by rw [← Array.length_toList, pm.length_eq, Array.length_toList]
    have hb2 : es2.size < scanBound := by rw [hsz]; exact hb1
    have ho2 := store_at (es' := es2) (t' := t3) ho1 rfl
    exact wpAny_bind (hg _ _ _ (wpAny_bind (wpAny_storeSet_of ho1 rfl (wpAny_pure (hR _ (sb1.trans (Heap.SameBut.update _ a _)) ⟨_, es2, _, t3, ho2, hex, rfl, fun e he => g1 e (pm.mem_iff.mp he), nd1, (pm.map kT).trans m1, hb2, f3, r3, hl.imp id fun z => by rw [l3]; exact z⟩)) (fits_of_scanBound hb2))))
  · exact wpAny_pure (hR _ sb1 ⟨_, es1, _, t2, ho1, hex, rfl, g1, nd1, m1, hb1, hf2, hr, hl⟩)
/-- the texts behind one more -/
def putT (l : List Str) (k : Str) : List Str := if k ∈ l then l else k :: l
theorem tr_add {k : Str} {tk : Tok} {Q : Bool → Shared → Prop} (R : TR P w s.heap a l) (room : l.length + 1 < scanBound)
    (hQ : ∀ (b : Bool) h', Heap.SameBut a s.heap h' → TR P w h' a (putT l k) → Q b { s with heap := h' }) : wpAny (model P w) A (setAddHashed a (.str k tk) ((sk P w).hash k)) Q E s := by
  obtain ⟨o, es, ep, t, ho, hex, hd, g, nd, hm, hb, hf, hr, hl⟩ := id R
  have hkey : (sk P w).is k (.str k tk) = true := isT k tk
  have hsc : (Value.str k tk).scannable = true := rfl
  have hel : ElemsOf (sk P w) es.toList := goodT_elems g
  unfold setAddHashed setAddHashedIn
  refine wpAny_holding (wpAny_bind (wpAny_setState_of ho hd hf ?_))
  dsimp only
  rw [byScan_of hsc hb hel]
  simp only [↓reduceIte]
  unfold setAddByScan
  refine wpAny_bind (wpAny_bind (wpAny_rule (wpAny_bind (wpAny_setScan_of hkey ho hd hf hel ?_))))
  cases hfi : List.findIdx? (fun e => (sk P w).is k e.2) es.toList with
  | some j =>
    dsimp only
    obtain ⟨hj, pj, _⟩ := List.findIdx?_eq_some_iff_getElem.mp hfi
    have hk : k ∈ l := hm.mem_iff.mp ((goodT_mem g k).2 ⟨es.toList[j], List.getElem_mem hj, pj⟩)
    refine wpAny_pure (wpAny_pure (hQ _ s.heap (Heap.SameBut.refl a s.heap) ?_))
    unfold putT
    rw [if_pos hk]
    exact R
  | none =>
    dsimp only
    have hk : k ∉ l := fun z => by
      obtain ⟨e, he, q⟩ := (goodT_mem g k).1 (hm.mem_iff.mpr z)
      have c := List.findIdx?_eq_none_iff.mp hfi e he
      rw [q] at c
      cases c
    have hgw : ∀ (b : Bool) {s₁ : Shared} {Q' : Unit → Shared → Prop}, Q' () s₁ → wpAny (model P w) A (match b with | true => rule "set.scan.the-table-gave-way" | false => pure ()) Q' E s₁ :=
      fun b s₁ Q' q => by cases b <;> first | exact wpAny_pure q | exact wpAny_rule q
    have pm := layNew_perm t es ((sk P w).hash k) (.str k tk)
    have hf1 := layNew_fits t es ((sk P w).hash k) (.str k tk)
    have hr1 := layNew_ris t es ((sk P w).hash k) (.str k tk) hr
    have hl1 := layNew_led t es ((sk P w).hash k) (.str k tk)
    generalize layNew t es ((sk P w).hash k) (.str k tk) = Z at pm hf1 hr1 hl1 ⊢
    obtain ⟨es1, t1, wasDummy, gave⟩ := Z
    dsimp only at pm hf1 hr1 hl1 ⊢
    rw [Array.toList_push] at pm
    have pc : es1.toList.Perm (((sk P w).hash k, Value.str k tk) :: es.toList) := pm.trans (List.perm_append_singleton _ _)
    have pk : (es1.toList.map kT).Perm (k :: l) := (pc.map kT).trans (hm.cons k)
    have g1 : ∀ e ∈ es1.toList, GoodT P w e := fun e he => by
      rcases List.mem_cons.mp (pc.mem_iff.mp he) with z | z
      · rw [z]; exact ⟨k, tk, rfl, rfl⟩
      · exact g e z
    have nd1 : (k :: l).Nodup := List.nodup_cons.mpr ⟨hk, nd⟩
    have hsz : es1.size = l.length + 1 := by rw [← Array.length_toList, pc.length_eq, List.length_cons, ← hm.length_eq, List.length_map]
    have hb1 : es1.size < scanBound := by rw [hsz]; exact room
    have hled : Led w t1 := hl.imp id fun z => by rw [hl1]; exact z
    have fin : ∀ (b : Bool) h', Heap.SameBut a s.heap h' → TR P w h' a (k :: l) → Q b { s with heap := h' } := fun b h' sb r => hQ b h' sb (by unfold putT; rw [if_neg hk]; exact r)
    refine wpAny_bind (hgw _ ?_)
    split
    · refine wpAny_bind ?_
      rw [hashByValue_scannable 8 hsc]
      refine wpAny_pure (tr_tail ?_ ho hex hd g1 nd1 pk hb1 ?_ ?_ ?_ ?_)
      · intro b s₁ Q' q; cases b <;> first | exact wpAny_pure q | exact wpAny_rule q
      · first | (split <;> first | exact hf1 | exact SetTable.fits_plain_off hf1) | exact hf1
      · first | (split <;> exact hr1) | exact hr1
      · first | (split <;> exact hled) | exact hled
      · intro h' sb r; dsimp only; exact wpAny_pure (fin _ h' sb r)
    · refine wpAny_bind (wpAny_pure ?_)
      simp only [↓reduceIte]
      refine tr_tail ?_ ho hex hd g1 nd1 pk hb1 hf1 hr1 hled ?_
      · intro b s₁ Q' q; cases b <;> first | exact wpAny_pure q | exact wpAny_rule q
      · intro h' sb r; dsimp only; exact wpAny_pure (fin _ h' sb r)
end
theorem putT_len (l : List Str) (k : Str) : (putT l k).length ≤ l.length + 1 := by
  unfold putT
  split
  · omega
  · rw [List.length_cons] <;> omega
/-- the texts of one sign each, behind some -/
def signsT (cs : List Nat) (l : List Str) : List Str := cs.foldl (fun l c => putT l ⟨#[c]⟩) l
section
variable {P : Program} {w : World} {A : Around} {R : Result → Shared → Prop} {I S : Addr} {fp wr : List Addr} {n : Nat} {x : Str} {St : Nat → Heap → Prop}
theorem tr_loop (W : Walks P w A.in1 I fp wr n (SignAt x) St) (hn : n = x.cps.size) (hSf : S ∉ fp) : ∀ (m i : Nat) (s : Shared) (l : List Str), n - i = m → i ≤ n → St i s.heap → TR P w s.heap S l → l.length + m + 1 < scanBound →
    (∀ h' tk, (∀ b o, b ∉ S :: wr → s.heap.get? b = some o → h'.get? b = some o) → TR P w h' S (signsT (x.cps.toList.drop i) l) → R (.ok (.ret .none)) { s with heap := h', toks := tk }) →
    codeAny (model P w) A (.builtin "set.update.loop" ⟨[.ref S, .ref I], []⟩) R s := by
  have hSw : S ∉ wr := fun h => hSf (W.sub _ h)
  intro m
  induction m with
  | zero =>
    intro i s l hk hi hst hS _ hR
    have hin : i = n := by omega
    refine codeAny_builtin PyProof.Rows.F.entry_set_update_loop ?_
    rw [Around.under_plainId PyProof.Rows.F.plain_set_update_loop _]
    show wpAny _ A.in1 (pyNext (.ref I) >>= _) _ _ s
    refine wpAny_bind (W.done s _ _ (by rw [← hin]; exact hst) fun h' tk kk => wpAny_pure (hR h' tk (fun b o hb e => kk b o (fun z => hb (List.mem_cons_of_mem _ z)) e) ?_))
    rw [List.drop_of_length_le (by rw [hin, hn]; simp)]
    exact hS.at fun o e => kk S o hSw e
  | succ m ih =>
    intro i s l hk hi hst hS hz hR
    have hlt : i < n := by omega
    refine codeAny_builtin PyProof.Rows.F.entry_set_update_loop ?_
    rw [Around.under_plainId PyProof.Rows.F.plain_set_update_loop _]
    show wpAny _ A.in1 (pyNext (.ref I) >>= _) _ _ s
    refine wpAny_bind (W.item i s _ _ hlt hst fun v h' tk hP hst' kk => ?_)
    obtain ⟨c, t, hc, rfl⟩ := hP
    have hS' : TR P w h' S l := hS.at fun o e => kk S o hSw e
    show wpAny _ A.in1 (holding [Value.str ⟨#[c]⟩ t] (setAdd S (.str ⟨#[c]⟩ t)) >>= _) _ _ { s with heap := h', toks := tk }
    refine wpAny_bind (wpAny_holding ?_)
    unfold setAdd
    refine wpAny_holding (wpAny_bind ((sk P w).pyHash (k := ⟨#[c]⟩) (isT _ _) (tr_add (s := { s with heap := h', toks := tk + 1 }) hS' (by omega) fun b h2 sb R2 => ?_)))
    refine wpAny_pure ⟨plainId_quiet PyProof.Rows.F.plain_set_update_loop _, ih (i + 1) { s with heap := h2, toks := tk + 1 } _ (by omega) hlt (W.frame _ h' _ hst' fun b hb o e => ?_) R2 ?_ fun h3 tk3 k3 R3 => ?_⟩
    · rw [sb.2 b fun z => hSf (z ▸ hb)]; exact e
    · have := putT_len l ⟨#[c]⟩
      omega
    · refine hR h3 tk3 (fun b o hb e => k3 b o hb ?_) ?_
      · rw [sb.2 b fun z => hb (by rw [z]; exact List.mem_cons_self ..)]
        exact kk b o (fun z => hb (List.mem_cons_of_mem _ z)) e
      · rw [Fz.drop_at hc]; exact R3
end
section
variable {P : Program} {w : World} {A : Around} {E : Value → Shared → Prop} {s : Shared}
/-- the new set's object -/
def setNew (w : World) : Obj := { cls := .type "set", dict := none, data := .set #[] 0 (.fresh 0 0 (!w.params.followText "set-order")) }
theorem setNew_led (w : World) : Led w (.fresh 0 0 (!w.params.followText "set-order")) := by
  unfold Led
  show _ ∨ (!w.params.followText "set-order") = true
  cases w.params.followText "set-order"
  · exact .inr rfl
  · exact .inl rfl
theorem tr_new {h : Heap} {a : Addr} (e : h.get? a = some (setNew w)) : TR P w h a [] :=
  ⟨_, #[], 0, _, e, ⟨rfl, rfl, rfl⟩, rfl, (fun e he => by simp at he), List.nodup_nil, .nil, by decide, by rfl, List.Pairwise.nil, setNew_led w⟩
theorem set_newT (v : Value) {Q₁ : Value → Shared → Prop} (h : Q₁ (.ref s.heap.objs.size) { s with heap := s.heap.push (setNew w) }) : codeAny (model P w) A (.call (.builtin "set.__new__") ⟨[.type "set", v], []⟩) (wants Q₁ E) s := by
  refine codeAny_of_tree ?_
  show wpAny _ A.in1 (do checkBuiltinCall "set.__new__" ⟨[.type "set", v], []⟩; again (.builtin "set.__new__" ⟨[.type "set", v], []⟩)) _ _ s
  refine wpAny_bind (wpAny_of_eq (PySem.F.newCall_set_1 v) (wpAny_pure ⟨plainId_quiet PySem.F.plain_set_new _, codeAny_builtin PySem.F.entry_set_new ?_⟩))
  rw [Around.under_plainId PySem.F.plain_set_new _]
  have hsub := sub_set_self
  unfold Builtin.«set.__new__» Builtin.Frozenset.newClass
  obtain ⟨hp, g, d, tk, os⟩ := s
  dsimp only
  wp_walk
  refine wpAny_askSetting (wpAny_pure ?_)
  dsimp only
  simp only [newObj]
  exact wpAny_bind (wpAny_alloc (wpAny_pure (wpAny_pure h)))
/-- set(x), x a text -/
theorem set_ofT {x : Str} {t : Tok} {Q : Value → Shared → Prop} (hh : A.handled = none) (hz : x.cps.size + 1 < scanBound)
    (h : ∀ (h' : Heap) (tk : Nat), TR P w h' s.heap.objs.size (signsT x.cps.toList []) → (∀ b o, s.heap.get? b = some o → h'.get? b = some o) → Q (.ref s.heap.objs.size) { s with heap := h', toks := tk }) :
    wpAny (model P w) A (call (.type "set") [.str x t]) Q E s := by
  obtain ⟨c, tl, hmro⟩ := PySem.F.called_set.mro
  have hmade := PySem.F.called_set.made
  have hsub := PySem.F.called_set.sub
  refine wpAny_call (codeAny_of_tree ?_)
  show wpAny _ _ (callAny (.type "set") _) _ _ _
  refine wpAny_pure ⟨Code.quiet_builtin _ (by decide +kernel), codeAny_builtin PySem.F.entry_type_call ?_⟩
  rw [Around.under_plain (weight_type_call_type "set" [.str x t] []) rfl]
  have h1 := PySem.F.called_set.notType
  have h2 := PySem.F.called_set.canCreate
  have hct := PySem.F.typeCall_set_1 (.str x t)
  repeat (any_goals (first | assumption | wp_step))
  refine codeAny_mono (set_newT (.str x t) (E := E) (Q₁ := fun obj s₁ => obj = .ref s.heap.objs.size ∧ s₁ = { s with heap := s.heap.push (setNew w) }) ⟨rfl, rfl⟩) fun r s₁ hr => ?_
  cases r with
  | error e => exact hr
  | ok fl =>
    cases fl with
    | ret obj =>
      obtain ⟨rfl, rfl⟩ := hr
      have hS : (s.heap.push (setNew w)).get? s.heap.objs.size = some (setNew w) := Heap.get?_push_size _ rfl
      have hT : Shared.TypeIs { s with heap := s.heap.push (setNew w) } (.ref s.heap.objs.size) "set" := ⟨_, hS, rfl⟩
      have hli := PySem.F.called_set.init.lookup
      have hbi := PySem.F.called_set.init.bind (.ref s.heap.objs.size)
      repeat (any_goals (first | assumption | wp_step))
      refine codeAny_mono (codeAny_call_builtin (R := wants (fun r s₂ => r = .none ∧ ∃ h' tk, s₂ = { s with heap := h', toks := tk } ∧ TR P w h' s.heap.objs.size (signsT x.cps.toList []) ∧ (∀ b o, s.heap.get? b = some o → h'.get? b = some o)) E)
        PySem.F.called_set.init.plain PySem.F.entry_set_init (check_set_init_1 hT ?_)) fun r₂ s₂ hr₂ => ?_
      · have hsls := PySem.F.sub_str_set
        have hslf := PySem.F.sub_str_frozenset
        have hne : (Value.type "str" == Value.type "dict") = false := by decide
        unfold Builtin.«set.__init__» noKeywords Builtin.Frozenset.updateFrom
        generalize hPI : pyIter = PI
        wp_walk
        subst hPI
        refine wpAny_pyIter_str fun o St hW hst => wpAny_bind (wpAny_runValue ?_)
        have hS2 : (s.heap.push (setNew w)).objs.size = s.heap.objs.size + 1 := Heap.size_push ..
        refine tr_loop (hW _ (by simp [hh])) rfl (S := s.heap.objs.size) ?_ x.cps.size 0 { s with heap := (s.heap.push (setNew w)).push o } [] (by omega) (Nat.zero_le _) hst (tr_new (Heap.get?_push_of_some _ hS)) (by simpa using hz) fun h' tk kk R => ?_
        · rw [hS2]
          simp
        · rw [List.drop_zero] at R
          refine wpAny_pure (wpAny_pure ⟨rfl, h', tk, rfl, R, fun b u e => kk b u ?_ (Heap.get?_push_of_some _ (Heap.get?_push_of_some _ e))⟩)
          have hb := Heap.lt_size e
          rw [hS2]
          simp only [List.mem_cons, List.not_mem_nil, or_false, not_or]
          exact ⟨Nat.ne_of_lt hb, Nat.ne_of_lt (Nat.lt_succ_of_lt hb)⟩
      · cases r₂ with
        | error e => exact hr₂
        | ok fl₂ =>
          cases fl₂ with
          | ret r =>
            obtain ⟨rfl, h', tk, rfl, R, kk⟩ := hr₂
            repeat (any_goals (first | assumption | wp_step))
            exact h _ _ R kk
          | _ => exact hr₂.elim
    | _ => exact hr.elim
end
end PX

/-! sets of texts: as tracked objects -/
namespace PX
open PySem PySem.Spec PyProof.Rows L2
/-- the set of the texts l at a -/
def SetT (P : Program) (w : World) (a : Addr) (l : List Str) : HO := .ext fun h => TR P w h a l
section
variable {X : Cx}
theorem setT_new {w : World} {P : Program} {H : Hp} {h : Heap} {a : Addr} {l : List Str} (R : TR P w h a l) : ObjOk P w H h a (SetT P w a l) := by
  have ⟨o, _, _, _, ho, _⟩ := R
  exact ⟨R, ⟨o, ho⟩, fun h1 h2 p k => TR.at p k⟩
theorem setT_get {pins : List (Addr × Obj)} {σ : L2.St} {H : Hp} {s : Shared} {a : Addr} {l : List Str} (I : Inv X pins σ H s) (ha : H a = some (SetT X.prog X.w a l)) : TR X.prog X.w s.heap a l := (I.hok a _ ha).1
/-- set(x) -/
def rSetT (P : Program) (w : World) : List V → Hp → VK → Prop := fun xs H Q => ∃ z : Str, xs = [.str z] ∧ z.cps.size ≤ 1000 ∧ ∀ p, H p = none → Q (.ref p) (upd H p (SetT P w p (signsT z.cps.toList [])))
theorem cr_setT (hc : X.calm = true) : CallR X (.type "set") (rSetT X.prog X.w) := fun pins s σ H xs us Q I r ⟨z, e, hz, q⟩ => by
  subst e
  obtain ⟨u, rfl, t, rfl⟩ := vals1 r
  refine set_ofT (I.ok.hd hc) (by unfold scanBound; omega) fun h' tk R kk => ?_
  exact ⟨.ref _, upd H s.heap.objs.size (SetT X.prog X.w s.heap.objs.size (signsT z.cps.toList [])), I.laid (t' := tk) (fun b u e => kk b u e) (Nat.le_refl _) (setT_new R), rfl, q _ (I.hok.fresh (Nat.le_refl _))⟩
/-- len of such a set -/
def rLenT (P : Program) (w : World) : List V → Hp → VK → Prop := fun xs H Q => ∃ (a : Addr) (l : List Str), xs = [.ref a] ∧ H a = some (SetT P w a l) ∧ Q (.int (l.length : Nat)) H
theorem cr_lenT : CallR X (.builtin "len") (rLenT X.prog X.w) := fun pins s σ H xs us Q I r ⟨a, l, e, ha, q⟩ => by
  subst e
  rw [Vals.ref1 r]
  obtain ⟨o, es, ep, t, ho, hex, hd, g, nd, hm, hb, hf, hr, hl⟩ := setT_get I ha
  have hn : es.size = l.length := by rw [← hm.length_eq, List.length_map, Array.length_toList]
  unfold scanBound at hb
  exact call_len_set ho hex hd hf (by omega) ⟨.int (l.length : Nat), H, I.tok _, ⟨_, by rw [hn]⟩, q⟩
/-- sorted of such a set -/
def rSortT (P : Program) (w : World) : List V → Hp → VK → Prop := fun xs H Q => ∃ (a : Addr) (l : List Str), xs = [.ref a] ∧ H a = some (SetT P w a l) ∧ l.length < 64 ∧ ∀ (ys : List Str) (p : Addr), ys.Perm l → sortedS ys = true → H p = none → Q (.ref p) (upd H p (.lst (ys.map V.str)))
theorem strs_goodT {P : Program} {w : World} : ∀ (vs : List Value), (∀ v ∈ vs, ∃ k tk, v = Value.str k tk) → StrsAre vs (vs.map strOf)
  | [], _ => .nil
  | v :: vs, h => by
    obtain ⟨k, tk, rfl⟩ := h v (List.mem_cons_self ..)
    exact .cons k tk (strs_goodT (P := P) (w := w) vs fun u hu => h u (List.mem_cons_of_mem _ hu))
theorem cr_sortT (hc : X.calm = true) : CallR X (.builtin "sorted") (rSortT X.prog X.w) := fun pins s σ H xs us Q I r ⟨a, l, e, ha, h64, q⟩ => by
  subst e
  rw [Vals.ref1 r]
  obtain ⟨o, es, ep, t, ho, hex, hd, g, nd, hm, hb, hf, hr, hl⟩ := setT_get I ha
  have hn : es.size = l.length := by rw [← hm.length_eq, List.length_map, Array.length_toList]
  refine Calls.call_function_entry PyProof.Rows.kind_sorted PyProof.Rows.plain_sorted PyProof.Rows.entry_sorted (PyProof.Rows.args_sorted1 _) ?_
  unfold Builtin.«sorted»
  refine wpAny_bind (m := checkCount "sorted" 1 1 _) (wpAny_pure (wpAny_bind (collect_set (A := X.A.in1) (I.ok.hd hc) ⟨o, ho, hex.1, hd⟩ hf hb hr hl fun s1 vs k1 hz g1 o1 pm => ?_)))
  have hst : ∀ v ∈ vs, ∃ k tk, v = Value.str k tk := fun v hv => by
    obtain ⟨e, he, q⟩ := List.mem_map.mp (pm.mem_iff.mp hv)
    obtain ⟨k, tk, h1, _⟩ := g e he
    exact ⟨k, tk, by rw [← q]; exact h1⟩
  have hS : StrsAre vs (vs.map strOf) := strs_goodT (P := X.prog) (w := X.w) vs hst
  have pv : (vs.map strOf).Perm l := by
    have q := pm.map strOf
    rw [List.map_map, show es.toList.map (strOf ∘ fun x => x.2) = es.toList.map kT from List.map_congr_left fun e he => by
      obtain ⟨k, tk, h1, _⟩ := g e he
      show strOf e.2 = kT e
      unfold kT
      rw [h1] <;> rfl] at q
    exact q.trans hm
  have hvl : vs.length = l.length := by rw [← pv.length_eq, List.length_map]
  refine wpAny_bind (wpAny_newList ?_ (by rw [hvl, sizeLine_eq]; omega))
  have hoL : (s1.heap.push (seqObj "list" vs.toArray 0)).get? s1.heap.objs.size = some (seqObj "list" vs.toArray 0) := Heap.get?_push_size _ rfl
  refine wpAny_bind (wpAny_holding (wpAny_call_entry PyProof.Rows.slot_list_sort ⟨_, hoL, rfl⟩ PyProof.Rows.entry_list_sort
    (list_sort_treeK strKind_oneLt (s := { s1 with heap := s1.heap.push (seqObj "list" vs.toArray 0) }) hoL hS.keysOf (fun v₁ v₂ rest e => keyKind_strs (by rw [← e]; exact hS)) (by rw [hvl]; exact h64) fun st' hp hs => ⟨_, rfl, ?_⟩) (PyProof.Rows.args_list_sort _)))
  obtain ⟨ys, b1, b2, b3⟩ := sorted_out_str hS hp hs
  obtain ⟨c, hcc⟩ := PyProof.Rows.sortedHeap_at (vs := vs) (out := (arrOf st').map (·.2)) hoL
  have pys : ys.Perm l := b2.trans pv
  have hlen : (ys.map V.str).length ≤ sizeLine := by rw [List.length_map, pys.length_eq, sizeLine_eq]; omega
  have hfree : H s1.heap.objs.size = none := I.hok.fresh hz
  have keep : ∀ b u, s.heap.get? b = some u → (sortedHeap (s1.heap.push (seqObj "list" vs.toArray 0)) s1.heap.objs.size vs ((arrOf st').map (·.2))).get? b = some u := fun b u e => by
    have e1 := k1 b u e
    have hlt := Heap.lt_size e1
    rw [PyProof.Rows.sortedHeap_old (Nat.ne_of_lt hlt) (by rw [size_push']; exact Nat.lt_succ_of_lt hlt)]
    exact Heap.get?_push_of_some _ e1
  have J : Inv X pins σ (upd H s1.heap.objs.size (.lst (ys.map V.str))) { s with heap := sortedHeap (s1.heap.push (seqObj "list" vs.toArray 0)) s1.heap.objs.size vs ((arrOf st').map (·.2)), gens := s1.gens, drawn := s1.drawn, toks := s1.toks } :=
    I.call (ch := []) (Un.laid keep hz hfree) (I.hok.laid keep hz ⟨hlen, ((arrOf st').map (·.2)).toList, c, vals_of_strs b1, by rw [Array.toArray_toList]; exact hcc⟩) (by rw [g1]; exact I.bare) (fun _ z => nomatch z)
  refine wpAny_pure ⟨_, rfl, ?_⟩
  have es1 : ({ s1 with heap := sortedHeap (s1.heap.push (seqObj "list" vs.toArray 0)) s1.heap.objs.size vs ((arrOf st').map (·.2)) } : Shared) = { s with heap := sortedHeap (s1.heap.push (seqObj "list" vs.toArray 0)) s1.heap.objs.size vs ((arrOf st').map (·.2)), gens := s1.gens, drawn := s1.drawn, toks := s1.toks } := by
    rw [show s.os = s1.os from o1.symm]
  show EP X pins σ Q _ { s1 with heap := sortedHeap (s1.heap.push (seqObj "list" vs.toArray 0)) s1.heap.objs.size vs ((arrOf st').map (·.2)) }
  rw [es1]
  exact ⟨.ref s1.heap.objs.size, _, J, rfl, q ys _ pys b3 hfree⟩
theorem vals_pt : ∀ {vs : List V} {us : List Value}, vs.length = us.length → (∀ (i : Nat) v u, vs[i]? = some v → us[i]? = some u → RelV v u) → Vals vs us
  | [], [], _, _ => .nil
  | [], _ :: _, h, _ => by simp at h
  | _ :: _, [], h, _ => by simp at h
  | v :: vs, u :: us, h, k => .cons (k 0 v u rfl rfl) (vals_pt (by simpa using h) fun i a b ha hb => k (i + 1) a b (by simpa using ha) (by simpa using hb))
theorem items_vals {x : Str} {acc : Array Value} (h : ItemsOf (SignAt x) acc x.cps.size) : Vals (x.cps.toList.map fun c => V.str ⟨#[c]⟩) acc.toList := by
  refine vals_pt (by rw [List.length_map, Array.length_toList, Array.length_toList, h.1]) fun i v u hv hu => ?_
  rw [List.getElem?_map] at hv
  obtain ⟨c, hc, rfl⟩ := Option.map_eq_some_iff.mp hv
  obtain ⟨d, t, hd, rfl⟩ := h.2 i u (by rw [← Array.getElem?_toList]; exact hu)
  rw [← Array.getElem?_toList, hc] at hd
  cases hd
  exact ⟨t, rfl⟩
/-- list(x), x a text -/
def rListStr : List V → Hp → VK → Prop := fun xs H Q => ∃ z : Str, xs = [.str z] ∧ z.cps.size ≤ 1000 ∧ ∀ p, H p = none → Q (.ref p) (upd H p (.lst (z.cps.toList.map fun c => V.str ⟨#[c]⟩)))
theorem cr_listStr (hc : X.calm = true) : CallR X (.type "list") rListStr := fun pins s σ H xs us Q I r ⟨z, e, hz, q⟩ => by
  subst e
  obtain ⟨u, rfl, t, rfl⟩ := vals1 r
  refine call_list_str (hn := by rw [sizeLine_eq]; omega) (I.ok.hd hc) z t fun h' tk acc c kk hL hI => ?_
  exact ⟨.ref _, upd H s.heap.objs.size (.lst (z.cps.toList.map fun c => V.str ⟨#[c]⟩)), I.laid (t' := tk) kk (Nat.le_refl _) ⟨by rw [List.length_map, Array.length_toList, sizeLine_eq]; omega, acc.toList, c, items_vals hI, by rw [Array.toArray_toList]; exact hL⟩, rfl, q _ (I.hok.fresh (Nat.le_refl _))⟩
end
end PX

/-! pure values, how they lie in the heap; slots; the state -/
namespace FX
open PySem PySem.Spec PyProof.Rows L2 RZ PX
/-- a value without addresses: what never changes again -/
inductive P where
  | non | bl (b : Bool) | int (i : Int) | str (cs : List Nat)
  | lst (xs : List P) | tup (xs : List P)
  | ins (c : Str) (ns : List Str) (fs : List P)
  | scr (ns : List Int) | ty (t : String) | glo (x : Str)
  | dK (ks : List Key) (fs : List P) | dT (ks : List (List Key)) (fs : List P)
  | fn (n k : Nat)
deriving Inhabited
/-- the lambdas of a def: what is written -/
structure LamD where
  params : Arguments
  body : Expr
  scope : Scope
/-- the tables of code objects (they grow where a lambda is made): address, name; the lambdas by number; the cells of a frame; the lambdas' name -/
class Tbs where
  T : List (Addr × Str)
  D : Nat → LamD
  C : Nat → List (Str × Addr)
  q : Str
/-- an object that stands as it is -/
abbrev FzF (o : Obj) : HO := .frz o (.own 0)
/-- the defaults of a lambda: none, or one number -/
def DfOk (F : Hp) (ps : Arguments) (dV : Value) : Prop := (ps.defaults = [] ∧ dV = .none) ∨ ∃ (t : Addr) (u : Value), ps.defaults.length = 1 ∧ dV = .ref t ∧ F t = some (FzF (PySem.W.kdv_tup [u]))
/-- the k-th lambda, made in the frame n, is the object fo -/
def LamIs [Tbs] (F : Hp) (n k : Nat) (fo : Obj) (c' : Addr) : Prop := ∃ dV doc pm ctv, fo = PySem.W.kdv_obj "<lambda>" Tbs.q (Tbs.D k).params (.expr (Tbs.D k).body) (Tbs.D k).scope (cloFrom (Tbs.C n) (Tbs.D k).scope.names []) dV doc pm c' ctv ∧ DfOk F (Tbs.D k).params dV ∧ F c' = some (LamX.CodeO c' Tbs.q)
theorem LamIs.up [Tbs] {F F' : Hp} {n k : Nat} {fo : Obj} {c' : Addr} (e : Ex F F') (h : LamIs F n k fo c') : LamIs F' n k fo c' := by
  obtain ⟨dV, doc, pm, ctv, h1, h2, h3⟩ := h
  exact ⟨dV, doc, pm, ctv, h1, h2.elim .inl fun ⟨t, u, a, b, c⟩ => .inr ⟨t, u, a, b, e _ _ c⟩, e _ _ h3⟩
variable [Tbs]
/-- a tuple that stands still; an empty one may be of the written part -/
def TupAt (K : PySem.W.Frag) (F : Hp) (a : Addr) (vs : List V) : Prop := F a = some (.tup vs) ∨ (vs = [] ∧ SqT K F a vs)
omit [Tbs] in
theorem TupAt.up {K : PySem.W.Frag} {F F' : Hp} {a : Addr} {vs : List V} (e : Ex F F') (h : TupAt K F a vs) : TupAt K F' a vs := h.elim (fun h => .inl (e _ _ h)) fun h => .inr ⟨h.1, e.sqT h.2⟩
omit [Tbs] in
theorem TupAt.sq {K : PySem.W.Frag} {F : Hp} {a : Addr} {vs : List V} (h : TupAt K F a vs) : SqT K F a vs := h.elim (fun h => SqT.of h) fun h => h.2
section
variable (K : PySem.W.Frag)
mutual
def Rep : P → V → Hp → Prop
  | .non, v, _ => v = .non
  | .bl c, v, _ => v = .bl c
  | .int i, v, _ => v = .int i
  | .str cs, v, _ => v = .str (SX.S cs)
  | .lst xs, v, F => ∃ a vs, v = .ref a ∧ F a = some (.lst vs) ∧ Reps xs vs F
  | .tup xs, v, F => ∃ a vs, v = .ref a ∧ TupAt K F a vs ∧ Reps xs vs F
  | .ins c ns fs, v, F => ∃ a dx vs, v = .ref a ∧ F a = some (.ins (He.ga K c) dx (ns.zip vs)) ∧ ns.length = vs.length ∧ Reps fs vs F
  | .scr ns, v, F => ∃ a, v = .ref a ∧ SqL K F a (ns.map V.int)
  | .ty t, v, _ => v = .ty t
  | .glo x, v, _ => v = .ref (He.ga K x)
  | .dK ks fs, v, F => ∃ a vs, v = .ref a ∧ F a = some (.dK (ks.zip vs)) ∧ ks.length = vs.length ∧ Reps fs vs F
  | .dT ks fs, v, F => ∃ a vs, v = .ref a ∧ F a = some (.dT (ks.zip vs)) ∧ ks.length = vs.length ∧ Reps fs vs F
  | .fn n k, v, F => ∃ f fo c', v = .ref f ∧ F f = some (FzF fo) ∧ LamIs F n k fo c'
def Reps : List P → List V → Hp → Prop
  | [], vs, _ => vs = []
  | p :: ps, vs, F => ∃ v ws, vs = v :: ws ∧ Rep p v F ∧ Reps ps ws F
end
end
section
variable {K : PySem.W.Frag} {F F' : Hp}
mutual
theorem rep_up (e : Ex F F') : ∀ {p : P} {v : V}, Rep K p v F → Rep K p v F'
  | .non, _, h => h
  | .bl _, _, h => h
  | .int _, _, h => h
  | .str _, _, h => h
  | .lst _, _, ⟨a, vs, h1, h2, h3⟩ => ⟨a, vs, h1, e _ _ h2, reps_up e h3⟩
  | .tup _, _, ⟨a, vs, h1, h2, h3⟩ => ⟨a, vs, h1, h2.up e, reps_up e h3⟩
  | .ins _ _ _, _, ⟨a, dx, vs, h1, h2, h3, h4⟩ => ⟨a, dx, vs, h1, e _ _ h2, h3, reps_up e h4⟩
  | .scr _, _, ⟨a, h1, h2⟩ => ⟨a, h1, e.sqL h2⟩
  | .ty _, _, h => h
  | .glo _, _, h => h
  | .dK _ _, _, ⟨a, vs, h1, h2, h3, h4⟩ => ⟨a, vs, h1, e _ _ h2, h3, reps_up e h4⟩
  | .dT _ _, _, ⟨a, vs, h1, h2, h3, h4⟩ => ⟨a, vs, h1, e _ _ h2, h3, reps_up e h4⟩
  | .fn _ _, _, ⟨f, fo, c', h1, h2, h3⟩ => ⟨f, fo, c', h1, e _ _ h2, h3.up e⟩
theorem reps_up (e : Ex F F') : ∀ {ps : List P} {vs : List V}, Reps K ps vs F → Reps K ps vs F'
  | [], _, h => h
  | _ :: _, _, ⟨v, ws, h1, h2, h3⟩ => ⟨v, ws, h1, rep_up e h2, reps_up e h3⟩
end
instance : MonoR (Rep K) := ⟨fun e h => rep_up e h⟩
theorem reps_all : ∀ {ps : List P} {vs : List V}, Reps K ps vs F ↔ AllR (Rep K) ps vs F
  | [], [] => ⟨fun _ => True.intro, fun _ => rfl⟩
  | [], v :: vs => ⟨fun h => (List.cons_ne_nil v vs h).elim, False.elim⟩
  | _ :: _, [] => ⟨fun ⟨_, _, h, _⟩ => (List.cons_ne_nil _ _ h.symm).elim, False.elim⟩
  | p :: ps, v :: vs => ⟨fun ⟨_, _, h, h2, h3⟩ => (by cases h; exact ⟨h2, reps_all.mp h3⟩), fun ⟨h2, h3⟩ => ⟨v, vs, rfl, h2, reps_all.mpr h3⟩⟩
theorem reps_len {ps : List P} {vs : List V} (h : Reps K ps vs F) : ps.length = vs.length := (reps_all.mp h).length
theorem reps_app {ps qs : List P} {vs ws : List V} (h : Reps K ps vs F) (k : Reps K qs ws F) : Reps K (ps ++ qs) (vs ++ ws) F := reps_all.mpr ((reps_all.mp h).append (reps_all.mp k))
theorem reps_one {p : P} {v : V} (h : Rep K p v F) : Reps K [p] [v] F := ⟨v, [], rfl, h, rfl⟩
theorem reps_cons {p : P} {v : V} {ps : List P} {vs : List V} (h : Rep K p v F) (r : Reps K ps vs F) : Reps K (p :: ps) (v :: vs) F := ⟨v, vs, rfl, h, r⟩
theorem reps_get {ps : List P} {vs : List V} {i : Nat} {p : P} (h : Reps K ps vs F) (e : ps[i]? = some p) : ∃ v, vs[i]? = some v ∧ Rep K p v F := (reps_all.mp h).get e
theorem reps_back {ps : List P} {vs : List V} {i : Nat} {v : V} (h : Reps K ps vs F) (e : vs[i]? = some v) : ∃ p, ps[i]? = some p ∧ Rep K p v F := (reps_all.mp h).back e
theorem reps_take (n : Nat) {ps : List P} {vs : List V} (h : Reps K ps vs F) : Reps K (ps.take n) (vs.take n) F := reps_all.mpr ((reps_all.mp h).take n)
theorem reps_drop (n : Nat) {ps : List P} {vs : List V} (h : Reps K ps vs F) : Reps K (ps.drop n) (vs.drop n) F := reps_all.mpr ((reps_all.mp h).drop n)
end
/-! ### slots -/
/-- an object of one's own: it may still be changed -/
inductive PO where
  | lst (xs : List P) | ins (c : Str) (ns : List Str) (fs : List P)
  | dK (ks : List Key) (fs : List P) | dT (ks : List (List Key)) (fs : List P)
deriving Inhabited
def PO.val : PO → P
  | .lst xs => .lst xs
  | .ins c ns fs => .ins c ns fs
  | .dK ks fs => .dK ks fs
  | .dT ks fs => .dT ks fs
def RepO (K : PySem.W.Frag) (o : PO) (h : HO) (F : Hp) : Prop := match o with
  | .lst xs => ∃ vs, h = .lst vs ∧ Reps K xs vs F
  | .ins c ns fs => ∃ dx vs, h = .ins (He.ga K c) dx (ns.zip vs) ∧ ns.length = vs.length ∧ Reps K fs vs F
  | .dK ks fs => ∃ vs, h = .dK (ks.zip vs) ∧ ks.length = vs.length ∧ Reps K fs vs F
  | .dT ks fs => ∃ vs, h = .dT (ks.zip vs) ∧ ks.length = vs.length ∧ Reps K fs vs F
theorem repO_up {K : PySem.W.Frag} {F F' : Hp} (e : Ex F F') {o : PO} {h : HO} (r : RepO K o h F) : RepO K o h F' := match o, r with
  | .lst _, ⟨vs, h1, h2⟩ => ⟨vs, h1, reps_up e h2⟩
  | .ins _ _ _, ⟨dx, vs, h1, h2, h3⟩ => ⟨dx, vs, h1, h2, reps_up e h3⟩
  | .dK _ _, ⟨vs, h1, h2, h3⟩ => ⟨vs, h1, h2, reps_up e h3⟩
  | .dT _ _, ⟨vs, h1, h2, h3⟩ => ⟨vs, h1, h2, reps_up e h3⟩
theorem RepO.nt {K : PySem.W.Frag} {o : PO} {h : HO} {F : Hp} (r : RepO K o h F) : (∀ ps, h ≠ .tbl ps) ∧ ∀ f, h ≠ .ext f := match o, r with
  | .lst _, ⟨_, e, _⟩ => by rw [e]; exact ⟨fun _ z => (by cases z), fun _ z => (by cases z)⟩
  | .ins _ _ _, ⟨_, _, e, _⟩ => by rw [e]; exact ⟨fun _ z => (by cases z), fun _ z => (by cases z)⟩
  | .dK _ _, ⟨_, e, _⟩ => by rw [e]; exact ⟨fun _ z => (by cases z), fun _ z => (by cases z)⟩
  | .dT _ _, ⟨_, e, _⟩ => by rw [e]; exact ⟨fun _ z => (by cases z), fun _ z => (by cases z)⟩
/-- what is at an address now: its parts stand still, itself perhaps not -/
def RepN (K : PySem.W.Frag) (o : PO) (v : V) (F H : Hp) : Prop := ∃ a h, v = .ref a ∧ H a = some h ∧ RepO K o h F
/-- a value to be read now -/
def RepW (K : PySem.W.Frag) (p : P) (v : V) (F H : Hp) : Prop := match p with
  | .lst xs => ∃ a vs, v = .ref a ∧ H a = some (.lst vs) ∧ Reps K xs vs F
  | .ins c ns fs => ∃ a dx vs, v = .ref a ∧ H a = some (.ins (He.ga K c) dx (ns.zip vs)) ∧ ns.length = vs.length ∧ Reps K fs vs F
  | .dK ks fs => ∃ a vs, v = .ref a ∧ H a = some (.dK (ks.zip vs)) ∧ ks.length = vs.length ∧ Reps K fs vs F
  | .dT ks fs => ∃ a vs, v = .ref a ∧ H a = some (.dT (ks.zip vs)) ∧ ks.length = vs.length ∧ Reps K fs vs F
  | p => Rep K p v F
theorem Rep.w {K : PySem.W.Frag} {p : P} {v : V} {F H : Hp} (e : Ex F H) (r : Rep K p v F) : RepW K p v F H := by
  cases p <;> first | exact r | skip
  · obtain ⟨a, vs, h1, h2, h3⟩ := r; exact ⟨a, vs, h1, e _ _ h2, h3⟩
  · obtain ⟨a, dx, vs, h1, h2, h3⟩ := r; exact ⟨a, dx, vs, h1, e _ _ h2, h3⟩
  · obtain ⟨a, vs, h1, h2, h3⟩ := r; exact ⟨a, vs, h1, e _ _ h2, h3⟩
  · obtain ⟨a, vs, h1, h2, h3⟩ := r; exact ⟨a, vs, h1, e _ _ h2, h3⟩
theorem RepO.w {K : PySem.W.Frag} {o : PO} {a : Addr} {h : HO} {F H : Hp} (e : H a = some h) (r : RepO K o h F) : RepW K o.val (.ref a) F H := by
  cases o
  · obtain ⟨vs, rfl, h2⟩ := r; exact ⟨a, vs, rfl, e, h2⟩
  · obtain ⟨dx, vs, rfl, h2, h3⟩ := r; exact ⟨a, dx, vs, rfl, e, h2, h3⟩
  · obtain ⟨vs, rfl, h2, h3⟩ := r; exact ⟨a, vs, rfl, e, h2, h3⟩
  · obtain ⟨vs, rfl, h2, h3⟩ := r; exact ⟨a, vs, rfl, e, h2, h3⟩
/-- frozen, it is a value -/
theorem repO_val {K : PySem.W.Frag} {F : Hp} {o : PO} {h : HO} {a : Addr} (r : RepO K o h F) (n : F a = none) : Rep K o.val (.ref a) (upd F a h) := match o, r with
  | .lst _, ⟨vs, h1, h2⟩ => ⟨a, vs, rfl, by rw [← h1]; exact upd_same, reps_up (Ex.new n) h2⟩
  | .ins _ _ _, ⟨dx, vs, h1, h2, h3⟩ => ⟨a, dx, vs, rfl, by rw [← h1]; exact upd_same, h2, reps_up (Ex.new n) h3⟩
  | .dK _ _, ⟨vs, h1, h2, h3⟩ => ⟨a, vs, rfl, by rw [← h1]; exact upd_same, h2, reps_up (Ex.new n) h3⟩
  | .dT _ _, ⟨vs, h1, h2, h3⟩ => ⟨a, vs, rfl, by rw [← h1]; exact upd_same, h2, reps_up (Ex.new n) h3⟩
/-- a slot: unbound, a value, an object of the def's own, an object handed in that may be changed -/
inductive Sl where
  | un | val (p : P) | loc (o : PO) | io (o : PO)
deriving Inhabited
def Sl.obj : Sl → Option PO
  | .loc o => some o
  | .io o => some o
  | _ => none
abbrev Ro := List Sl
def sl : List Sl → Nat → Sl
  | [], _ => .un
  | s :: _, 0 => s
  | _ :: r, i + 1 => sl r i
def slset : List Sl → Nat → Sl → List Sl
  | [], _, _ => []
  | _ :: r, 0, x => x :: r
  | s :: r, i + 1, x => s :: slset r i x
omit [Tbs] in
theorem slset_eq : ∀ (ρ : List Sl) (i : Nat) (x : Sl), slset ρ i x = ρ.set i x
  | [], _, _ => rfl
  | _ :: _, 0, _ => rfl
  | s :: r, i + 1, x => congrArg (fun z => s :: z) (slset_eq r i x)
omit [Tbs] in
theorem sl_of : ∀ {ρ : List Sl} {i : Nat} {x : Sl}, sl ρ i = x → x ≠ .un → ρ[i]? = some x
  | [], _, _, h, n => absurd h.symm n
  | _ :: _, 0, _, h, _ => congrArg some h
  | _ :: r, i + 1, _, h, n => sl_of (ρ := r) h n
omit [Tbs] in
theorem sl_at : ∀ {ρ : List Sl} {i : Nat} {x : Sl}, ρ[i]? = some x → sl ρ i = x
  | [], _, _, h => by simp at h
  | _ :: _, 0, _, h => Option.some.inj h
  | _ :: r, i + 1, _, h => sl_at (ρ := r) (by simpa using h)
/-- an exception in the air: its class, its fields -/
structure Xn where
  cls : Str
  ns : List Str
  fs : List P
deriving Inhabited
def RepX (K : PySem.W.Frag) (e : Xn) (cls : Value) (d : Option Addr) (F H : Hp) : Prop := cls = .ref (He.ga K e.cls) ∧ ∃ a vs, d = some a ∧ H a = some (.xd (e.ns.zip vs)) ∧ F a = none ∧ e.ns.length = vs.length ∧ Reps K e.fs vs F
/-! ### what stays -/
/-- the tables stand; each code object that they tell is of F -/
def TabsF (T : List (Addr × Str)) (F H : Hp) : Prop := ∀ p ∈ T, ∃ ps : Array Value, H p.1 = some (.tbl ps) ∧ TriplesOk ps.toList ∧ ∀ (pos : Pos) (cv : Value), codeAmong pos ps.toList = some cv → ∃ c, cv = .ref c ∧ F c = some (LamX.CodeO c p.2)
section
variable {T : List (Addr × Str)} {F F' H H' : Hp}
omit [Tbs] in
theorem TabsF.up (e : Ex F F') (t : TabsF T F H) : TabsF T F' H := fun p hp => by
  obtain ⟨ps, h1, h2, h3⟩ := t p hp
  exact ⟨ps, h1, h2, fun pos cv hc => by obtain ⟨c, g1, g2⟩ := h3 pos cv hc; exact ⟨c, g1, e _ _ g2⟩⟩
omit [Tbs] in
theorem TabsF.hh (e : ∀ b ps, H b = some (.tbl ps) → H' b = some (.tbl ps)) (t : TabsF T F H) : TabsF T F H' := fun p hp => by
  obtain ⟨ps, h1, h2, h3⟩ := t p hp
  exact ⟨ps, e _ _ h1, h2, h3⟩
omit [Tbs] in
theorem TabsF.ext (t : TabsF T F H) (e : ∀ b o, H b = some o → H' b = some o) : TabsF T F H' := t.hh fun b ps h => e _ _ h
omit [Tbs] in
theorem TabsF.tabs (e : Ex F H) (t : TabsF T F H) : LamX.Tabs T H := fun p hp => by
  obtain ⟨ps, h1, h2, h3⟩ := t p hp
  exact ⟨ps, h1, h2, fun pos cv hc => by obtain ⟨c, g1, g2⟩ := h3 pos cv hc; exact ⟨c, g1, e _ _ g2⟩⟩
omit [Tbs] in
theorem tabs_upd {a : Addr} {h h' : HO} (t : TabsF T F H) (e : H a = some h) (n1 : ∀ ps, h ≠ .tbl ps) (n2 : ∀ f, h ≠ .ext f) : TabsF T F (upd H a h') := t.hh fun b ps q => by
  rw [upd_ne fun z => n1 ps (by rw [z, e] at q; exact Option.some.inj q)]; exact q
omit [Tbs] in
theorem tabs_new {a : Addr} {h' : HO} (t : TabsF T F H) (e : H a = none) : TabsF T F (upd H a h') := t.ext fun b o q => by rw [upd_ne (ne_of_none q e)]; exact q
end
/-- from F, H to F', H': all but what is exempt stays -/
structure Fr (A : Addr → Prop) (F H F' H' : Hp) : Prop where
  ff : Ex F F'
  fh : Ex F' H'
  hh : ∀ a o, ¬ A a → (∀ ps, o ≠ HO.tbl ps) → H a = some o → H' a = some o
  bb : ∀ a, (H a).isSome = true → (H' a).isSome = true
  nw : ∀ a, F a = none → (H a).isSome = true → F' a = none
  tk : TabsF Tbs.T F H → TabsF Tbs.T F' H'
/-- the tables stand, and are not frozen -/
structure TbOk (F H : Hp) : Prop where
  tabs : TabsF Tbs.T F H
  free : ∀ p ∈ (Tbs.T : List (Addr × Str)), F p.1 = none
theorem TbOk.fr {A : Addr → Prop} {F H F' H' : Hp} (t : TbOk F H) (x : Fr A F H F' H') : TbOk F' H' := ⟨x.tk t.tabs, fun p hp => x.nw p.1 (t.free p hp) (by obtain ⟨ps, e, _⟩ := t.tabs p hp; rw [e]; rfl)⟩
section
variable {A B : Addr → Prop} {F H F' H' F'' H'' : Hp}
theorem Fr.refl (e : Ex F H) : Fr A F H F H := ⟨fun _ _ h => h, e, fun _ _ _ _ h => h, fun _ h => h, fun _ h _ => h, id⟩
theorem Fr.trans (x : Fr A F H F' H') (y : Fr B F' H' F'' H'') (h : ∀ a, B a → A a ∨ H a = none) : Fr A F H F'' H'' :=
  ⟨x.ff.trans y.ff, y.fh, fun a o n g e => y.hh a o (fun b => (h a b).elim n fun z => by rw [e] at z; cases z) g (x.hh a o n g e), fun a e => y.bb a (x.bb a e), fun a n e => y.nw a (x.nw a n e) (x.bb a e), fun t => y.tk (x.tk t)⟩
theorem Fr.ext (x : Ext none F H F' H') : Fr A F H F' H' := ⟨x.ff, x.fh, fun a o _ _ h => x.hh a o (by simp) h, fun a h => x.some_ h, x.nw, fun t => (t.ext fun b o e => x.hh b o (by simp) e).up x.ff⟩
theorem Fr.imp (x : Fr A F H F' H') (h : ∀ a, A a → B a) : Fr B F H F' H' := ⟨x.ff, x.fh, fun a o n g e => x.hh a o (fun z => n (h a z)) g e, x.bb, x.nw, x.tk⟩
theorem Fr.back (x : Fr A F H F' H') {p : Addr} (h : H' p = none) : H p = none := by
  cases e : H p with
  | none => rfl
  | some v =>
    have := x.bb p (by rw [e]; rfl)
    rw [h] at this; cases this
end
/-- what stands about a def's run: the known part, the objects handed in, the heap at the entry, the wish of what is raised -/
structure Cc where
  K : PySem.W.Frag
  io : List (Option Addr)
  F0 : Hp
  H0 : Hp
  W : XK
  tb : TbOk F0 H0
abbrev Cc.A (C : Cc) : Addr → Prop := fun a => some a ∈ C.io
def SlR (C : Cc) (i : Nat) (s : Sl) (o : Option V) (F H : Hp) : Prop := match s with
  | .un => True
  | .val p => ∃ v, o = some v ∧ Rep C.K p v F
  | .loc po => ∃ a h, o = some (.ref a) ∧ C.H0 a = none ∧ F a = none ∧ H a = some h ∧ RepO C.K po h F
  | .io po => ∃ a h, o = some (.ref a) ∧ C.io[i]? = some (some a) ∧ F a = none ∧ H a = some h ∧ RepO C.K po h F
/-- a is an object in a slot -/
def OwnAt (ρ : Ro) (σ : L2.St) (a : Addr) : Prop := ∃ (i : Nat) (s : Sl) (o : PO), ρ[i]? = some s ∧ s.obj = some o ∧ σ[i]? = some (some (V.ref a))
/-- the state: slots and heap -/
structure Stt (C : Cc) (ρ : Ro) (σ : L2.St) (F H : Hp) : Prop where
  x : Fr C.A C.F0 C.H0 F H
  len : ρ.length = σ.length
  at_ : ∀ (i : Nat) (s : Sl), ρ[i]? = some s → ∃ o, σ[i]? = some o ∧ SlR C i s o F H
  dis : ∀ (i j : Nat) (a : Addr) (s t : Sl), i ≠ j → ρ[i]? = some s → ρ[j]? = some t → s.obj.isSome = true → t.obj.isSome = true → σ[i]? = some (some (.ref a)) → σ[j]? = some (some (.ref a)) → False
theorem SlR.obj {C : Cc} {i : Nat} {s : Sl} {o : Option V} {F H : Hp} {po : PO} (r : SlR C i s o F H) (e : s.obj = some po) : ∃ a h, o = some (.ref a) ∧ F a = none ∧ H a = some h ∧ RepO C.K po h F ∧ (C.H0 a = none ∨ C.A a) := by
  cases s with
  | loc q => cases e; obtain ⟨a, h, h1, h2, h3, h4, h5⟩ := r; exact ⟨a, h, h1, h3, h4, h5, .inl h2⟩
  | io q => cases e; obtain ⟨a, h, h1, h2, h3, h4, h5⟩ := r; exact ⟨a, h, h1, h3, h4, h5, .inr (List.mem_of_getElem? h2)⟩
  | un => cases e
  | val p => cases e
/-- a step that leaves the slots' things where they are -/
structure Stp (C : Cc) (σ : L2.St) (ρ : Ro) (F H : Hp) (ρ' : Ro) (F' H' : Hp) : Prop where
  st : Stt C ρ' σ F' H'
  x : Fr (OwnAt ρ σ) F H F' H'
  ow : ∀ a, OwnAt ρ' σ a → OwnAt ρ σ a
section
variable {C : Cc} {ρ ρ' ρ'' : Ro} {σ : L2.St} {F H F' H' F'' H'' : Hp}
theorem Stp.refl (S : Stt C ρ σ F H) : Stp C σ ρ F H ρ F H := ⟨S, Fr.refl S.x.fh, fun _ h => h⟩
theorem Stp.trans (h : Stp C σ ρ F H ρ' F' H') (k : Stp C σ ρ' F' H' ρ'' F'' H'') : Stp C σ ρ F H ρ'' F'' H'' := ⟨k.st, h.x.trans k.x fun a z => .inl (h.ow a z), fun a z => h.ow a (k.ow a z)⟩
theorem Stp.ff (h : Stp C σ ρ F H ρ' F' H') : Ex F F' := h.x.ff
/-- an object in a slot is not frozen, stands, and was none of the others' at the entry -/
theorem Stt.ownAt (S : Stt C ρ σ F H) {a : Addr} (h : OwnAt ρ σ a) : F a = none ∧ (H a).isSome = true ∧ (C.H0 a = none ∨ C.A a) := by
  obtain ⟨i, s, o, h1, h2, h3⟩ := h
  obtain ⟨q, e, r⟩ := S.at_ i s h1
  rw [h3] at e
  cases e
  obtain ⟨b, ho, e1, e2, e3, _, e5⟩ := r.obj h2
  cases e1
  exact ⟨e2, by rw [e3]; rfl, e5⟩
theorem Stt.frame (S : Stt C ρ σ F H) (x : Fr (OwnAt ρ σ) F H F' H') : Fr C.A C.F0 C.H0 F' H' := S.x.trans x fun a z => ((S.ownAt z).2.2).symm
theorem SlR.ext {i : Nat} {s : Sl} {o : Option V} (h : SlR C i s o F H) (x : Ext none F H F' H') : SlR C i s o F' H' := match s, h with
  | .un, h => h
  | .val p, ⟨v, e, h⟩ => ⟨v, e, rep_up x.ff h⟩
  | .loc po, ⟨a, h, h1, h2, h3, h4, h5⟩ => ⟨a, h, h1, h2, x.nw a h3 (by rw [h4]; rfl), x.hh a h (by simp) h4, repO_up x.ff h5⟩
  | .io po, ⟨a, h, h1, h2, h3, h4, h5⟩ => ⟨a, h, h1, h2, x.nw a h3 (by rw [h4]; rfl), x.hh a h (by simp) h4, repO_up x.ff h5⟩
/-- a step that changes nothing of the slots' things -/
theorem Stp.ext (S : Stt C ρ σ F H) (x : Ext none F H F' H') : Stp C σ ρ F H ρ F' H' :=
  ⟨⟨S.frame (Fr.ext x), S.len, fun i s h => by
    obtain ⟨o, e, k⟩ := S.at_ i s h
    exact ⟨o, e, k.ext x⟩, S.dis⟩, Fr.ext x, fun _ h => h⟩
theorem Stp.lay (S : Stt C ρ σ F H) {p : Addr} {o : HO} (hp : H p = none) : Stp C σ ρ F H ρ (upd F p o) (upd H p o) := Stp.ext S (Ext.lay S.x.fh hp)
theorem Stp.own (S : Stt C ρ σ F H) {p : Addr} {o : HO} (hp : H p = none) : Stp C σ ρ F H ρ F (upd H p o) := Stp.ext S (Ext.own S.x.fh hp)
theorem Stt.val (S : Stt C ρ σ F H) {i : Nat} {p : P} (e : sl ρ i = .val p) : ∃ v, σ[i]? = some (some v) ∧ Rep C.K p v F := by
  obtain ⟨o, h, v, rfl, k⟩ := S.at_ i _ (sl_of e (by simp))
  exact ⟨v, h, k⟩
theorem Stt.obj (S : Stt C ρ σ F H) {i : Nat} {o : PO} (e : (sl ρ i).obj = some o) : ∃ a h, σ[i]? = some (some (.ref a)) ∧ F a = none ∧ H a = some h ∧ RepO C.K o h F ∧ OwnAt ρ σ a := by
  have hs : ρ[i]? = some (sl ρ i) := sl_of rfl (fun z => by rw [z] at e; cases e)
  obtain ⟨q, h, r⟩ := S.at_ i _ hs
  obtain ⟨a, ho, rfl, h1, h2, h3, _⟩ := r.obj e
  exact ⟨a, ho, h, h1, h2, h3, i, _, o, hs, e, h⟩
end
section
variable {C : Cc} {ρ : Ro} {σ : L2.St} {F H : Hp}
omit [Tbs] in
/-- slots that are not objects have no part in the distinctness -/
theorem dis_set {ρ : Ro} {σ : L2.St} {i : Nat} {s : Sl} {o : Option V} (hs : s.obj = none) (d : ∀ (i j : Nat) (a : Addr) (s t : Sl), i ≠ j → ρ[i]? = some s → ρ[j]? = some t → s.obj.isSome = true → t.obj.isSome = true → σ[i]? = some (some (.ref a)) → σ[j]? = some (some (.ref a)) → False) :
    ∀ (k j : Nat) (a : Addr) (u t : Sl), k ≠ j → (ρ.set i s)[k]? = some u → (ρ.set i s)[j]? = some t → u.obj.isSome = true → t.obj.isSome = true → (σ.set i o)[k]? = some (some (.ref a)) → (σ.set i o)[j]? = some (some (.ref a)) → False := by
  intro k j a u t n e1 e2 h1 h2 e3 e4
  have key : ∀ {m : Nat} {z : Sl}, (ρ.set i s)[m]? = some z → z.obj.isSome = true → i ≠ m := fun {m z} e h q => by
    subst q
    rw [List.getElem?_set] at e
    simp only [if_true] at e
    split at e
    · cases e; rw [hs] at h; cases h
    · cases e
  have k1 := key e1 h1
  have k2 := key e2 h2
  rw [List.getElem?_set_ne k1] at e1 e3
  rw [List.getElem?_set_ne k2] at e2 e4
  exact d k j a u t n e1 e2 h1 h2 e3 e4
/-- a slot set to a value, or forgotten -/
theorem Stt.put (S : Stt C ρ σ F H) {i : Nat} {s : Sl} {o : Option V} (hs : s.obj = none) (h : SlR C i s o F H) : Stt C (slset ρ i s) (σ.set i o) F H := by
  rw [slset_eq]
  refine ⟨S.x, by rw [List.length_set, List.length_set]; exact S.len, fun j u e => ?_, dis_set hs S.dis⟩
  by_cases hj : i = j
  · subst hj
    by_cases hl : i < ρ.length
    · rw [List.getElem?_set_self hl] at e
      cases e
      exact ⟨o, by rw [List.getElem?_set_self (by rw [← S.len]; exact hl)], h⟩
    · rw [List.getElem?_eq_none (by rw [List.length_set]; omega)] at e
      cases e
  · rw [List.getElem?_set_ne hj] at e ⊢
    exact S.at_ j u e
theorem Stt.set (S : Stt C ρ σ F H) {i : Nat} {p : P} {v : V} (h : Rep C.K p v F) : Stt C (slset ρ i (.val p)) (σ.set i (some v)) F H := S.put rfl ⟨v, rfl, h⟩
theorem Stt.forget (S : Stt C ρ σ F H) {i : Nat} {o : Option V} : Stt C (slset ρ i .un) (σ.set i o) F H := S.put rfl True.intro
/-- a slot gets a fresh object -/
theorem Stt.putLoc (S : Stt C ρ σ F H) {i : Nat} {po : PO} {h : HO} {a : Addr} (n0 : C.H0 a = none) (nF : F a = none) (e : H a = some h) (r : RepO C.K po h F) (hn : ¬ OwnAt ρ σ a) : Stt C (slset ρ i (.loc po)) (σ.set i (some (.ref a))) F H := by
  rw [slset_eq]
  have self : ∀ {m : Nat} {s : Sl} {b : Addr}, (ρ.set i (.loc po))[m]? = some s → s.obj.isSome = true → (σ.set i (some (V.ref a)))[m]? = some (some (.ref b)) → (m = i ∧ b = a) ∨ (m ≠ i ∧ ρ[m]? = some s ∧ σ[m]? = some (some (.ref b))) := fun {m s b} h k e => by
    by_cases hm : i = m
    · subst hm
      rw [List.getElem?_set] at e
      simp only [if_true] at e
      split at e
      · cases e; exact .inl ⟨rfl, rfl⟩
      · cases e
    · rw [List.getElem?_set_ne hm] at h e
      exact .inr ⟨fun z => hm z.symm, h, e⟩
  have own : ∀ {m : Nat} {s : Sl} {b : Addr}, ρ[m]? = some s → s.obj.isSome = true → σ[m]? = some (some (.ref b)) → OwnAt ρ σ b := fun {m s b} h1 h2 h3 => by
    obtain ⟨o, ho⟩ := Option.isSome_iff_exists.mp h2
    exact ⟨m, s, o, h1, ho, h3⟩
  refine ⟨S.x, by rw [List.length_set, List.length_set]; exact S.len, fun j s h => ?_, fun j k b s t n e1 e2 h1 h2 e3 e4 => ?_⟩
  · by_cases hj : i = j
    · subst hj
      by_cases hl : i < ρ.length
      · rw [List.getElem?_set_self hl] at h
        cases h
        exact ⟨some (.ref a), by rw [List.getElem?_set_self (by rw [← S.len]; exact hl)], a, _, rfl, n0, nF, e, r⟩
      · rw [List.getElem?_eq_none (by rw [List.length_set]; omega)] at h
        cases h
    · rw [List.getElem?_set_ne hj] at h ⊢
      exact S.at_ j s h
  · rcases self e1 h1 e3 with ⟨f1, f2⟩ | ⟨f1, f2, f3⟩
    · subst f1; subst f2
      rcases self e2 h2 e4 with ⟨g1, _⟩ | ⟨_, g2, g3⟩
      · exact n g1.symm
      · exact hn (own g2 h2 g3)
    · rcases self e2 h2 e4 with ⟨g1, g2⟩ | ⟨_, g2, g3⟩
      · subst g1; subst g2
        exact hn (own f2 h1 f3)
      · exact S.dis j k b s t n f2 g2 h1 h2 f3 g3
/-- the object of a slot changes -/
def Sl.chg (s : Sl) (o : PO) : Sl := match s with
  | .loc _ => .loc o
  | .io _ => .io o
  | s => s
omit [Tbs] in
theorem chg_obj {s : Sl} {o q : PO} (e : s.obj = some o) : (s.chg q).obj = some q := by cases s <;> first | rfl | cases e
omit [Tbs] in
theorem own_chg {i : Nat} {o q : PO} (e : (sl ρ i).obj = some o) {a : Addr} (h : OwnAt (slset ρ i ((sl ρ i).chg q)) σ a) : OwnAt ρ σ a := by
  obtain ⟨j, s, u, h1, h2, h3⟩ := h
  rw [slset_eq] at h1
  by_cases hj : i = j
  · subst hj
    have hs : ρ[i]? = some (sl ρ i) := sl_of rfl (fun z => by rw [z] at e; cases e)
    exact ⟨i, _, o, hs, e, h3⟩
  · rw [List.getElem?_set_ne hj] at h1
    exact ⟨j, s, u, h1, h2, h3⟩
theorem Stt.chg (S : Stt C ρ σ F H) {i : Nat} {o q : PO} {a : Addr} {h' : HO} (e : (sl ρ i).obj = some o) (hs : σ[i]? = some (some (.ref a))) (r : RepO C.K q h' F) :
    Stp C σ ρ F H (slset ρ i ((sl ρ i).chg q)) F (upd H a h') := by
  have hρ : ρ[i]? = some (sl ρ i) := sl_of rfl (fun z => by rw [z] at e; cases e)
  have hl : i < ρ.length := (List.getElem?_eq_some_iff.mp hρ).1
  have oa : OwnAt ρ σ a := ⟨i, _, o, hρ, e, hs⟩
  have oA := S.ownAt oa
  have fr : Fr (OwnAt ρ σ) F H F (upd H a h') := by
    obtain ⟨a', ho, hs', _, ha', r0, _⟩ := S.obj e
    rw [hs] at hs'
    cases hs'
    refine ⟨fun _ _ h => h, fun b v h => ?_, fun b v n _ h => ?_, fun b h => ?_, fun b n _ => n, fun t => tabs_upd t ha' r0.nt.1 r0.nt.2⟩
    · rw [upd_ne (ne_of_none h oA.1)]; exact S.x.fh b v h
    · rw [upd_ne (fun z => n (by rw [z]; exact oa))]; exact h
    · by_cases hb : b = a
      · rw [hb, upd_same]; rfl
      · rw [upd_ne hb]; exact h
  refine ⟨⟨S.frame fr, by rw [slset_eq, List.length_set]; exact S.len, fun j s h => ?_, fun j k b s t n e1 e2 h1 h2 e3 e4 => ?_⟩, fr, fun b h => own_chg e h⟩
  · rw [slset_eq] at h
    by_cases hj : i = j
    · subst hj
      rw [List.getElem?_set_self hl] at h
      cases h
      obtain ⟨w, f1, f2⟩ := S.at_ i _ hρ
      rw [hs] at f1
      cases f1
      refine ⟨_, hs, ?_⟩
      cases hh : sl ρ i with
      | loc q0 =>
        rw [hh] at f2
        obtain ⟨a', ho, g1, g2, g3, g4, g5⟩ := f2
        cases g1
        exact ⟨a, h', rfl, g2, g3, upd_same, r⟩
      | io q0 =>
        rw [hh] at f2
        obtain ⟨a', ho, g1, g2, g3, g4, g5⟩ := f2
        cases g1
        exact ⟨a, h', rfl, g2, g3, upd_same, r⟩
      | un => rw [hh] at e; cases e
      | val p => rw [hh] at e; cases e
    · rw [List.getElem?_set_ne hj] at h
      obtain ⟨w, h1, h2⟩ := S.at_ j s h
      refine ⟨w, h1, ?_⟩
      match s, h, h2 with
      | .un, _, h2 => exact h2
      | .val p, _, h2 => exact h2
      | .loc q0, h, ⟨c, ho, g1, g2, g3, g4, g5⟩ =>
        subst g1
        exact ⟨c, ho, rfl, g2, g3, by rw [upd_ne (fun z => by subst z; exact S.dis i j c _ _ hj hρ h (by rw [e]; rfl) rfl hs h1)]; exact g4, g5⟩
      | .io q0, h, ⟨c, ho, g1, g2, g3, g4, g5⟩ =>
        subst g1
        exact ⟨c, ho, rfl, g2, g3, by rw [upd_ne (fun z => by subst z; exact S.dis i j c _ _ hj hρ h (by rw [e]; rfl) rfl hs h1)]; exact g4, g5⟩
  · have key : ∀ {m : Nat} {s : Sl}, (slset ρ i ((sl ρ i).chg q))[m]? = some s → s.obj.isSome = true → ∃ s', ρ[m]? = some s' ∧ s'.obj.isSome = true := fun {m s} h k => by
      rw [slset_eq] at h
      by_cases hm : i = m
      · subst hm
        exact ⟨_, hρ, by rw [e]; rfl⟩
      · rw [List.getElem?_set_ne hm] at h; exact ⟨s, h, k⟩
    obtain ⟨s1, f1, f2⟩ := key e1 h1
    obtain ⟨s2, g1, g2⟩ := key e2 h2
    exact S.dis j k b s1 s2 n f1 g1 f2 g2 e3 e4
/-- an object of the def's own is frozen -/
theorem Stt.freeze (S : Stt C ρ σ F H) {i : Nat} {po : PO} (e : sl ρ i = .loc po) : ∃ F', Ex F F' ∧ Stt C (slset ρ i (.val po.val)) σ F' H := by
  have hρ := sl_of e (by simp)
  have hl : i < ρ.length := (List.getElem?_eq_some_iff.mp hρ).1
  obtain ⟨w, hs, a, h, rfl, n0, nF, ha, r⟩ := S.at_ i _ hρ
  refine ⟨upd F a h, Ex.new nF, ?_⟩
  rw [slset_eq]
  refine ⟨⟨S.x.ff.trans (Ex.new nF), fun b v hb => ?_, S.x.hh, S.x.bb, fun b n k => ?_, fun t => (S.x.tk t).up (Ex.new nF)⟩, by rw [List.length_set]; exact S.len, fun j s hj' => ?_, fun j k b s t n e1 e2 h1 h2 e3 e4 => ?_⟩
  · by_cases hba : b = a
    · rw [hba, upd_same] at hb
      cases hb
      rw [hba]; exact ha
    · rw [upd_ne hba] at hb; exact S.x.fh b v hb
  · rw [upd_ne]
    · exact S.x.nw b n k
    · rintro rfl
      rw [n0] at k; cases k
  · by_cases hj : i = j
    · subst hj
      rw [List.getElem?_set_self hl] at hj'
      cases hj'
      exact ⟨_, hs, _, rfl, repO_val r nF⟩
    · rw [List.getElem?_set_ne hj] at hj'
      obtain ⟨o, h1, h2⟩ := S.at_ j s hj'
      refine ⟨o, h1, ?_⟩
      match s, hj', h2 with
      | .un, _, h2 => exact h2
      | .val p, _, ⟨v, e2, r2⟩ => exact ⟨v, e2, rep_up (Ex.new nF) r2⟩
      | .loc q0, hj', ⟨c, ho, g1, g2, g3, g4, g5⟩ =>
        subst g1
        exact ⟨c, ho, rfl, g2, by rw [upd_ne (fun z => by subst z; exact S.dis i j c _ _ hj hρ hj' rfl rfl hs h1)]; exact g3, g4, repO_up (Ex.new nF) g5⟩
      | .io q0, hj', ⟨c, ho, g1, g2, g3, g4, g5⟩ =>
        subst g1
        exact ⟨c, ho, rfl, g2, by rw [upd_ne (fun z => by subst z; exact S.dis i j c _ _ hj hρ hj' rfl rfl hs h1)]; exact g3, g4, repO_up (Ex.new nF) g5⟩
  · have key : ∀ {m : Nat} {s : Sl}, (ρ.set i (.val po.val))[m]? = some s → s.obj.isSome = true → ρ[m]? = some s := fun {m s} h k => by
      by_cases hm : i = m
      · subst hm
        rw [List.getElem?_set_self hl] at h
        cases h
        cases k
      · rw [List.getElem?_set_ne hm] at h; exact h
    exact S.dis j k b s t n (key e1 h1) (key e2 h2) h1 h2 e3 e4
end
end FX

/-! pure readings of expressions, and that the readings keep them -/
namespace FX
variable [Tbs]
open PySem PySem.Spec PyProof.Rows L2 RZ PX
/-- what comes of a reading: nothing is said, a value, an exception -/
inductive R (α : Type) where
  | bad | ok (x : α) (ρ : Ro) | ex (e : Xn) (ρ : Ro)
def R.bind {α β : Type} (m : R α) (k : α → Ro → R β) : R β := match m with
  | .bad => .bad
  | .ok x ρ => k x ρ
  | .ex e ρ => .ex e ρ
def ofO {α : Type} (o : Option α) (ρ : Ro) : R α := match o with
  | some x => .ok x ρ
  | none => .bad
def wp {α : Type} (m : R α) (Q : α → Ro → Prop) (E : Xn → Ro → Prop) : Prop := match m with
  | .bad => False
  | .ok x ρ => Q x ρ
  | .ex e ρ => E e ρ
def wo {α : Type} (o : Option α) (Q : α → Prop) : Prop := match o with
  | some x => Q x
  | none => False
def gd {α : Type} (c : Prop) [Decidable c] (x : α) : Option α := if c then some x else none
section
variable {α β : Type} {Q : β → Ro → Prop} {E : Xn → Ro → Prop} {ρ : Ro}
omit [Tbs] in
theorem wp_bind {m : R α} {k : α → Ro → R β} : wp (m.bind k) Q E = wp m (fun x ρ' => wp (k x ρ') Q E) E := by cases m <;> rfl
omit [Tbs] in
theorem wp_ok {x : β} : wp (.ok x ρ) Q E = Q x ρ := rfl
omit [Tbs] in
theorem wp_ex {e : Xn} : wp (.ex e ρ : R β) Q E = E e ρ := rfl
omit [Tbs] in
theorem wp_bad : wp (.bad : R β) Q E = False := rfl
omit [Tbs] in
theorem wp_ofO {o : Option β} : wp (ofO o ρ) Q E = wo o (fun x => Q x ρ) := by cases o <;> rfl
omit [Tbs] in
theorem wo_gd {P : β → Prop} {c : Prop} [Decidable c] {x : β} : wo (gd c x) P = (c ∧ P x) := by
  unfold gd
  by_cases h : c
  · rw [if_pos h]; exact propext ⟨fun q => ⟨h, q⟩, fun q => q.2⟩
  · rw [if_neg h]; exact propext ⟨fun q => q.elim, fun q => h q.1⟩
omit [Tbs] in
theorem wo_some {P : β → Prop} {x : β} : wo (some x) P = P x := rfl
omit [Tbs] in
theorem wo_none {P : β → Prop} : wo (none : Option β) P = False := rfl
omit [Tbs] in
theorem wo_ex {P : β → Prop} {o : Option β} (h : wo o P) : ∃ x, o = some x ∧ P x := by
  cases o with
  | none => exact h.elim
  | some x => exact ⟨x, rfl, h⟩
omit [Tbs] in
theorem wp_o {o : Option β} (h : wp (ofO o ρ) Q E) : ∃ x, o = some x ∧ Q x ρ := wo_ex (by rw [← wp_ofO]; exact h)
omit [Tbs] in
theorem wp_b {m : R α} {k : α → Ro → R β} (h : wp (m.bind k) Q E) : wp m (fun x ρ' => wp (k x ρ') Q E) E := by rw [← wp_bind]; exact h
omit [Tbs] in
theorem gd_some {c : Prop} [Decidable c] {x y : β} (h : gd c x = some y) : c ∧ x = y := by
  unfold gd at h
  by_cases k : c
  · rw [if_pos k] at h; exact ⟨k, Option.some.inj h⟩
  · rw [if_neg k] at h; cases h
omit [Tbs] in
theorem wp_mono {m : R β} {Q' : β → Ro → Prop} {E' : Xn → Ro → Prop} (h : wp m Q E) (k : ∀ x ρ, Q x ρ → Q' x ρ) (l : ∀ e ρ, E e ρ → E' e ρ) : wp m Q' E' := by
  cases m
  · exact h
  · exact k _ _ h
  · exact l _ _ h
end
abbrev PEx := Ro → R P
abbrev PAx := Ro → R (List P)
abbrev PTx := Ro → R Bool
abbrev POx := Ro → R (Option Int)
abbrev QP := P → Ro → Prop
abbrev EP := Xn → Ro → Prop
/-- what is raised is wished for -/
def XOk (C : Cc) (E : EP) : Prop := ∀ e ρ σ cls d F H, Stt C ρ σ F H → RepX C.K e cls d F H → E e ρ → C.W cls d H
/-- the same, behind what an expression does -/
def XOe (C : Cc) (σ : L2.St) (ρ : Ro) (F H : Hp) (E : EP) : Prop := ∀ e cls d ρ' F' H', Stp C σ ρ F H ρ' F' H' → RepX C.K e cls d F' H' → E e ρ' → C.W cls d H'
theorem XOe.to {C : Cc} {σ : L2.St} {ρ ρ1 : Ro} {F H F1 H1 : Hp} {E : EP} (kx : XOe C σ ρ F H E) (s : Stp C σ ρ F H ρ1 F1 H1) : XOe C σ ρ1 F1 H1 E := fun e cls d ρ' F' H' s' r q => kx e cls d ρ' F' H' (s.trans s') r q
theorem XOk.e {C : Cc} {σ : L2.St} {ρ : Ro} {F H : Hp} {E : EP} (kx : XOk C E) : XOe C σ ρ F H E := fun e cls d ρ' F' H' s r q => kx e ρ' σ cls d F' H' s.st r q
structure SndE (C : Cc) (t : TE) (e : PEx) : Prop where
  run : ∀ {ρ : Ro} {σ : L2.St} {F H : Hp} {Q : VK} {Qp : QP} {E : EP}, Stt C ρ σ F H → wp (e ρ) Qp E → XOe C σ ρ F H E → (∀ p v ρ' F' H', Stp C σ ρ F H ρ' F' H' → Rep C.K p v F' → Qp p ρ' → Q v H') → t σ H Q
instance (C : Cc) (t : TE) (e : PEx) : CoeFun (SndE C t e) (fun _ => ∀ {ρ : Ro} {σ : L2.St} {F H : Hp} {Q : VK} {Qp : QP} {E : EP}, Stt C ρ σ F H → wp (e ρ) Qp E → XOe C σ ρ F H E → (∀ p v ρ' F' H', Stp C σ ρ F H ρ' F' H' → Rep C.K p v F' → Qp p ρ' → Q v H') → t σ H Q) := ⟨SndE.run⟩
/-- a thing to be read at once -/
structure SndW (C : Cc) (t : TE) (e : PEx) : Prop where
  run : ∀ {ρ : Ro} {σ : L2.St} {F H : Hp} {Q : VK} {Qp : QP} {E : EP}, Stt C ρ σ F H → wp (e ρ) Qp E → XOe C σ ρ F H E → (∀ p v ρ' F' H', Stp C σ ρ F H ρ' F' H' → RepW C.K p v F' H' → Qp p ρ' → Q v H') → t σ H Q
instance (C : Cc) (t : TE) (e : PEx) : CoeFun (SndW C t e) (fun _ => ∀ {ρ : Ro} {σ : L2.St} {F H : Hp} {Q : VK} {Qp : QP} {E : EP}, Stt C ρ σ F H → wp (e ρ) Qp E → XOe C σ ρ F H E → (∀ p v ρ' F' H', Stp C σ ρ F H ρ' F' H' → RepW C.K p v F' H' → Qp p ρ' → Q v H') → t σ H Q) := ⟨SndW.run⟩
structure SndA (C : Cc) (t : TA) (e : PAx) : Prop where
  run : ∀ {ρ : Ro} {σ : L2.St} {F H : Hp} {Q : List V → Hp → Prop} {Qp : List P → Ro → Prop} {E : EP}, Stt C ρ σ F H → wp (e ρ) Qp E → XOe C σ ρ F H E → (∀ ps vs ρ' F' H', Stp C σ ρ F H ρ' F' H' → Reps C.K ps vs F' → Qp ps ρ' → Q vs H') → t σ H Q
instance (C : Cc) (t : TA) (e : PAx) : CoeFun (SndA C t e) (fun _ => ∀ {ρ : Ro} {σ : L2.St} {F H : Hp} {Q : List V → Hp → Prop} {Qp : List P → Ro → Prop} {E : EP}, Stt C ρ σ F H → wp (e ρ) Qp E → XOe C σ ρ F H E → (∀ ps vs ρ' F' H', Stp C σ ρ F H ρ' F' H' → Reps C.K ps vs F' → Qp ps ρ' → Q vs H') → t σ H Q) := ⟨SndA.run⟩
structure SndT (C : Cc) (t : TT) (e : PTx) : Prop where
  run : ∀ {ρ : Ro} {σ : L2.St} {F H : Hp} {Q : Bool → Hp → Prop} {Qp : Bool → Ro → Prop} {E : EP}, Stt C ρ σ F H → wp (e ρ) Qp E → XOe C σ ρ F H E → (∀ c ρ' F' H', Stp C σ ρ F H ρ' F' H' → Qp c ρ' → Q c H') → t σ H Q
instance (C : Cc) (t : TT) (e : PTx) : CoeFun (SndT C t e) (fun _ => ∀ {ρ : Ro} {σ : L2.St} {F H : Hp} {Q : Bool → Hp → Prop} {Qp : Bool → Ro → Prop} {E : EP}, Stt C ρ σ F H → wp (e ρ) Qp E → XOe C σ ρ F H E → (∀ c ρ' F' H', Stp C σ ρ F H ρ' F' H' → Qp c ρ' → Q c H') → t σ H Q) := ⟨SndT.run⟩
structure SndO (C : Cc) (t : TO) (e : POx) : Prop where
  run : ∀ {ρ : Ro} {σ : L2.St} {F H : Hp} {Q : Option Int → Hp → Prop} {Qp : Option Int → Ro → Prop} {E : EP}, Stt C ρ σ F H → wp (e ρ) Qp E → XOe C σ ρ F H E → (∀ c ρ' F' H', Stp C σ ρ F H ρ' F' H' → Qp c ρ' → Q c H') → t σ H Q
instance (C : Cc) (t : TO) (e : POx) : CoeFun (SndO C t e) (fun _ => ∀ {ρ : Ro} {σ : L2.St} {F H : Hp} {Q : Option Int → Hp → Prop} {Qp : Option Int → Ro → Prop} {E : EP}, Stt C ρ σ F H → wp (e ρ) Qp E → XOe C σ ρ F H E → (∀ c ρ' F' H', Stp C σ ρ F H ρ' F' H' → Qp c ρ' → Q c H') → t σ H Q) := ⟨SndO.run⟩
abbrev F2 := P → P → Option P
abbrev FLp := List P → Option P
def RepsW (K : PySem.W.Frag) : List P → List V → Hp → Hp → Prop
  | [], vs, _, _ => vs = []
  | p :: ps, vs, F, H => ∃ v ws, vs = v :: ws ∧ RepW K p v F H ∧ RepsW K ps ws F H
theorem Reps.w {K : PySem.W.Frag} {F H : Hp} (e : Ex F H) : ∀ {ps : List P} {vs : List V}, Reps K ps vs F → RepsW K ps vs F H
  | [], _, h => h
  | _ :: _, _, ⟨v, ws, h1, h2, h3⟩ => ⟨v, ws, h1, h2.w e, Reps.w e h3⟩
/-- an operator of two values -/
structure SndR (C : Cc) (r : R2) (f : F2) : Prop where
  run : ∀ {F H : Hp} {Q : VK} {x y p : P} {v w : V}, Ex F H → RepW C.K x v F H → RepW C.K y w F H → f x y = some p → (∀ u F' H', Ext none F H F' H' → Rep C.K p u F' → Q u H') → r v w H Q
instance (C : Cc) (r : R2) (f : F2) : CoeFun (SndR C r f) (fun _ => ∀ {F H : Hp} {Q : VK} {x y p : P} {v w : V}, Ex F H → RepW C.K x v F H → RepW C.K y w F H → f x y = some p → (∀ u F' H', Ext none F H F' H' → Rep C.K p u F' → Q u H') → r v w H Q) := ⟨SndR.run⟩
/-- a function of values -/
structure SndL (C : Cc) (r : List V → Hp → VK → Prop) (f : FLp) : Prop where
  run : ∀ {F H : Hp} {Q : VK} {xs : List P} {p : P} {vs : List V}, Ex F H → RepsW C.K xs vs F H → f xs = some p → (∀ u F' H', Ext none F H F' H' → Rep C.K p u F' → Q u H') → r vs H Q
instance (C : Cc) (r : List V → Hp → VK → Prop) (f : FLp) : CoeFun (SndL C r f) (fun _ => ∀ {F H : Hp} {Q : VK} {xs : List P} {p : P} {vs : List V}, Ex F H → RepsW C.K xs vs F H → f xs = some p → (∀ u F' H', Ext none F H F' H' → Rep C.K p u F' → Q u H') → r vs H Q) := ⟨SndL.run⟩
abbrev F3 := P → Option Int → Option Int → Option P
structure SndCut (C : Cc) (rr : V → Option Int → Option Int → Hp → VK → Prop) (f : F3) : Prop where
  run : ∀ {F H : Hp} {Q : VK} {x p : P} {v : V} {i j : Option Int}, Ex F H → RepW C.K x v F H → f x i j = some p → (∀ u F' H', Ext none F H F' H' → Rep C.K p u F' → Q u H') → rr v i j H Q
instance (C : Cc) (rr : V → Option Int → Option Int → Hp → VK → Prop) (f : F3) : CoeFun (SndCut C rr f) (fun _ => ∀ {F H : Hp} {Q : VK} {x p : P} {v : V} {i j : Option Int}, Ex F H → RepW C.K x v F H → f x i j = some p → (∀ u F' H', Ext none F H F' H' → Rep C.K p u F' → Q u H') → rr v i j H Q) := ⟨SndCut.run⟩
/-! ### pure readings -/
def toB : P → Option Bool
  | .bl c => some c
  | _ => none
def toI : P → Option Int
  | .int c => some c
  | _ => none
def pIte {α : Type} (c : Bool) (a b : α) : α := match c with
  | true => a
  | false => b
omit [Tbs] in
theorem pIte_t {α : Type} {a b : α} : pIte true a b = a := rfl
omit [Tbs] in
theorem pIte_f {α : Type} {a b : α} : pIte false a b = b := rfl
omit [Tbs] in
theorem ite_p {c : Bool} {A B : Prop} (h1 : c = true → A) (h2 : c = false → B) : pIte c A B := by
  cases c with
  | true => exact h1 rfl
  | false => exact h2 rfl
def vSl : Sl → Option P
  | .val p => some p
  | _ => none
def wSl : Sl → Option P
  | .val p => some p
  | .loc o => some o.val
  | .io o => some o.val
  | .un => none
def pV (i : Nat) : PEx := fun ρ => ofO (vSl (sl ρ i)) ρ
/-- a slot's content, to be read at once -/
def pW (i : Nat) : PEx := fun ρ => ofO (wSl (sl ρ i)) ρ
def pC (p : P) : PEx := fun ρ => .ok p ρ
def pOp (f : F2) (a b : PEx) : PEx := fun ρ => (a ρ).bind fun x ρ => (b ρ).bind fun y ρ => ofO (f x y) ρ
/-- the left one is slot i's content behind the right one -/
def pOpL (f : F2) (i : Nat) (b : PEx) : PEx := fun ρ => (pW i ρ).bind fun _ ρ => (b ρ).bind fun y ρ => (pW i ρ).bind fun x ρ => ofO (f x y) ρ
def aNil : PAx := fun ρ => .ok [] ρ
def aCons (a : PEx) (r : PAx) : PAx := fun ρ => (a ρ).bind fun x ρ => (r ρ).bind fun xs ρ => .ok (x :: xs) ρ
def pF (f : FLp) (a : PAx) : PEx := fun ρ => (a ρ).bind fun xs ρ => ofO (f xs) ρ
def pF1 (f : FLp) (a : PEx) : PEx := fun ρ => (a ρ).bind fun x ρ => ofO (f [x]) ρ
def pNeg (a : PEx) : PEx := fun ρ => (a ρ).bind fun x ρ => (ofO (toI x) ρ).bind fun i ρ => .ok (.int (-i)) ρ
def pAnd (a b : PEx) : PEx := fun ρ => (a ρ).bind fun x ρ => (ofO (toB x) ρ).bind fun c ρ => pIte c (b ρ) (.ok (.bl false) ρ)
def pOr (a b : PEx) : PEx := fun ρ => (a ρ).bind fun x ρ => (ofO (toB x) ρ).bind fun c ρ => pIte c (.ok (.bl true) ρ) (b ρ)
def pNot (a : PEx) : PEx := fun ρ => (a ρ).bind fun x ρ => (ofO (toB x) ρ).bind fun c ρ => .ok (.bl (!c)) ρ
def tru : P → Option Bool
  | .non => some false
  | .bl b => some b
  | .int i => some (i != 0)
  | .str cs => gd (cs.length ≤ 100000) (!cs.isEmpty)
  | .lst xs => some (!xs.isEmpty)
  | .tup xs => some (!xs.isEmpty)
  | _ => none
def pAndT (a b : PEx) : PEx := fun ρ => (a ρ).bind fun x ρ => (ofO (tru x) ρ).bind fun c ρ => pIte c (b ρ) (.ok x ρ)
def pOrT (a b : PEx) : PEx := fun ρ => (a ρ).bind fun x ρ => (ofO (tru x) ρ).bind fun c ρ => pIte c (.ok x ρ) (b ρ)
def pNotT (a : PEx) : PEx := fun ρ => (a ρ).bind fun x ρ => (ofO (tru x) ρ).bind fun c ρ => .ok (.bl (!c)) ρ
def pIf (t : PTx) (a b : PEx) : PEx := fun ρ => (t ρ).bind fun c ρ => pIte c (a ρ) (b ρ)
def tVal (a : PEx) : PTx := fun ρ => (a ρ).bind fun x ρ => ofO (toB x) ρ
def tTr (a : PEx) : PTx := fun ρ => (a ρ).bind fun x ρ => ofO (tru x) ρ
def tNt (a : PTx) : PTx := fun ρ => (a ρ).bind fun c ρ => .ok (!c) ρ
def tAn (a b : PTx) : PTx := fun ρ => (a ρ).bind fun c ρ => pIte c (b ρ) (.ok false ρ)
def tO (a b : PTx) : PTx := fun ρ => (a ρ).bind fun c ρ => pIte c (.ok true ρ) (b ρ)
def tYs : PTx := fun ρ => .ok true ρ
def pTup (a : PAx) : PEx := fun ρ => (a ρ).bind fun xs ρ => ofO (gd (xs.length ≤ 100000) (.tup xs)) ρ
def oNo : POx := fun ρ => .ok none ρ
def oSome (a : PEx) : POx := fun ρ => (a ρ).bind fun x ρ => (ofO (toI x) ρ).bind fun i ρ => .ok (some i) ρ
def pSlice (f : F3) (a : PEx) (l u : POx) : PEx := fun ρ => (a ρ).bind fun x ρ => (l ρ).bind fun i ρ => (u ρ).bind fun j ρ => ofO (f x i j) ρ
def pSliceL (f : F3) (i : Nat) (l u : POx) : PEx := fun ρ => (pW i ρ).bind fun _ ρ => (l ρ).bind fun a ρ => (u ρ).bind fun b ρ => (pW i ρ).bind fun x ρ => ofO (f x a b) ρ
def pChain (f g : F2) (a b c : PEx) : PEx := fun ρ => (a ρ).bind fun x ρ => (b ρ).bind fun y ρ => (ofO (f x y) ρ).bind fun z ρ => (ofO (toB z) ρ).bind fun k ρ => pIte k ((c ρ).bind fun w ρ => ofO (g y w) ρ) (.ok (.bl false) ρ)
/-! ### they are kept -/
section
variable {C : Cc} {ta tb tc : TE} {a b c : PEx} {t u : TA} {x y : PAx} {tt tu : TT} {m n : PTx}
theorem SndE.w (h : SndE C ta a) : SndW C ta a := .mk fun S w kx k => h S w kx fun p v ρ' F' H' s r q => k p v ρ' F' H' s (r.w s.x.fh) q
theorem s_var {i : Nat} : SndE C (tVar i) (pV i) := .mk fun {ρ σ F H Q Qp E} S h kx k => by
  have h' : wo (vSl (sl ρ i)) (fun x => Qp x ρ) := by rw [← wp_ofO]; exact h
  cases e : sl ρ i with
  | val p =>
    rw [e] at h'
    obtain ⟨v, hv, r⟩ := S.val e
    exact ⟨v, hv, k p v ρ F H (Stp.refl S) r h'⟩
  | un => rw [e] at h'; exact h'.elim
  | loc _ => rw [e] at h'; exact h'.elim
  | io _ => rw [e] at h'; exact h'.elim
theorem w_slot {ρ : Ro} {σ : L2.St} {F H : Hp} {i : Nat} {p : P} (S : Stt C ρ σ F H) (h : wSl (sl ρ i) = some p) : ∃ v, σ[i]? = some (some v) ∧ RepW C.K p v F H := by
  cases e : sl ρ i with
  | val q =>
    rw [e] at h
    cases h
    obtain ⟨v, hv, r⟩ := S.val e
    exact ⟨v, hv, r.w S.x.fh⟩
  | un => rw [e] at h; cases h
  | loc o =>
    rw [e] at h; cases h
    obtain ⟨a, h, h1, _, h3, h4, _⟩ := S.obj (i := i) (o := o) (by rw [e]; rfl)
    exact ⟨_, h1, h4.w h3⟩
  | io o =>
    rw [e] at h; cases h
    obtain ⟨a, h, h1, _, h3, h4, _⟩ := S.obj (i := i) (o := o) (by rw [e]; rfl)
    exact ⟨_, h1, h4.w h3⟩
theorem w_var {i : Nat} : SndW C (tVar i) (pW i) := .mk fun {ρ σ F H Q Qp E} S h kx k => by
  obtain ⟨p, e, q⟩ := wp_o h
  obtain ⟨v, hv, r⟩ := w_slot S e
  exact ⟨v, hv, k p v ρ F H (Stp.refl S) r q⟩
theorem s_c {v : V} (p : P) (r : ∀ F, Rep C.K p v F) : SndE C (tC v) (pC p) := .mk fun {ρ σ F H Q Qp E} S h kx k => k p v ρ F H (Stp.refl S) (r F) h
theorem s_int {i : Int} : SndE C (tC (.int i)) (pC (.int i)) := s_c (.int i) fun _ => rfl
theorem s_bl {i : Bool} : SndE C (tC (.bl i)) (pC (.bl i)) := s_c (.bl i) fun _ => rfl
theorem s_non : SndE C (tC .non) (pC .non) := s_c .non fun _ => rfl
theorem s_str (cs : List Nat) {z : Str} (e : z = SX.S cs := by rfl) : SndE C (tC (.str z)) (pC (.str cs)) := s_c (.str cs) fun _ => congrArg V.str e
theorem s_op {r : R2} {f : F2} (hr : SndR C r f) (ha : SndE C ta a) (hb : SndE C tb b) : SndE C (tOp r ta tb) (pOp f a b) := .mk fun S h kx k => ha S (wp_b h) kx fun x v ρ1 F1 H1 s1 rx h => hb s1.st (wp_b h) (kx.to s1) fun y w ρ2 F2 H2 s2 ry h => by
  obtain ⟨p, e, q⟩ := wp_o h
  exact hr s2.x.fh ((rep_up s2.x.ff rx).w s2.x.fh) (ry.w s2.x.fh) e fun u F3 H3 x3 ru => k p u ρ2 F3 H3 ((s1.trans s2).trans (Stp.ext s2.st x3)) ru q
/-- the right one to be read at once -/
theorem s_opW {r : R2} {f : F2} (hr : SndR C r f) (ha : SndE C ta a) (hb : SndW C tb b) : SndE C (tOp r ta tb) (pOp f a b) := .mk fun S h kx k => ha S (wp_b h) kx fun x v ρ1 F1 H1 s1 rx h => hb s1.st (wp_b h) (kx.to s1) fun y w ρ2 F2 H2 s2 ry h => by
  obtain ⟨p, e, q⟩ := wp_o h
  exact hr s2.x.fh ((rep_up s2.x.ff rx).w s2.x.fh) ry e fun u F3 H3 x3 ru => k p u ρ2 F3 H3 ((s1.trans s2).trans (Stp.ext s2.st x3)) ru q
/-- the left one a slot -/
theorem s_opL {r : R2} {f : F2} {i : Nat} (hr : SndR C r f) (hb : SndE C tb b) : SndE C (tOp r (tVar i) tb) (pOpL f i b) := .mk fun {ρ σ F H Q Qp E} S h kx k => by
  obtain ⟨x0, e0, h⟩ := wp_o (wp_b h)
  obtain ⟨v, hv, _⟩ := w_slot S e0
  refine ⟨v, hv, hb S (wp_b h) kx fun y w ρ1 F1 H1 s1 ry h => ?_⟩
  obtain ⟨x, e, h⟩ := wp_o (wp_b h)
  obtain ⟨v', hv', rx⟩ := w_slot s1.st e
  rw [hv] at hv'
  cases hv'
  obtain ⟨p, e, q⟩ := wp_o h
  exact hr s1.x.fh rx (ry.w s1.x.fh) e fun u F3 H3 x3 ru => k p u ρ1 F3 H3 (s1.trans (Stp.ext s1.st x3)) ru q
theorem s_nil : SndA C tNil aNil := .mk fun {ρ σ F H Q Qp E} S h kx k => k [] [] ρ F H (Stp.refl S) rfl h
theorem s_cons (ha : SndE C ta a) (hx : SndA C t x) : SndA C (tCons ta t) (aCons a x) := .mk fun S h kx k => ha S (wp_b h) kx fun p v ρ1 F1 H1 s1 rp h => hx s1.st (wp_b h) (kx.to s1) fun ps vs ρ2 F2 H2 s2 rs h =>
  k (p :: ps) (v :: vs) ρ2 F2 H2 (s1.trans s2) ⟨v, vs, rfl, rep_up s2.x.ff rp, rs⟩ h
theorem s_cb {r : List V → Hp → VK → Prop} {f : FLp} (hr : SndL C r f) (hx : SndA C t x) : SndE C (tCB r t) (pF f x) := .mk fun S h kx k => hx S (wp_b h) kx fun ps vs ρ1 F1 H1 s1 rs h => by
  obtain ⟨p, e, q⟩ := wp_o h
  exact hr s1.x.fh (rs.w s1.x.fh) e fun u F2 H2 x2 ru => k p u ρ1 F2 H2 (s1.trans (Stp.ext s1.st x2)) ru q
theorem s_cb1 {r : List V → Hp → VK → Prop} {f : FLp} (hr : SndL C r f) (ha : SndW C ta a) : SndE C (tCB r (tCons ta tNil)) (pF1 f a) := .mk fun S h kx k => ha S (wp_b h) kx fun x v ρ1 F1 H1 s1 rx h => by
  obtain ⟨p, e, q⟩ := wp_o h
  exact hr (xs := [x]) s1.x.fh ⟨v, [], rfl, rx, rfl⟩ e fun u F2 H2 x2 ru => k p u ρ1 F2 H2 (s1.trans (Stp.ext s1.st x2)) ru q
omit [Tbs] in
theorem toI_some {p : P} {i : Int} (h : toI p = some i) : p = .int i := by cases p <;> first | (cases h; rfl) | cases h
omit [Tbs] in
theorem toB_some {p : P} {i : Bool} (h : toB p = some i) : p = .bl i := by cases p <;> first | (cases h; rfl) | cases h
theorem s_neg (ha : SndE C ta a) : SndE C (tUn (rU fun i => .int (-i)) ta) (pNeg a) := .mk fun S h kx k => ha S (wp_b h) kx fun p v ρ1 F1 H1 s1 rp h => by
  obtain ⟨i, e, h⟩ := wp_o (wp_b h)
  cases toI_some e
  exact ⟨i, rp, k (.int (-i)) _ ρ1 F1 H1 s1 rfl h⟩
theorem s_and (ha : SndE C ta a) (hb : SndE C tb b) : SndE C (tAndV ta tb) (pAnd a b) := .mk fun S h kx k => ha S (wp_b h) kx fun p v ρ1 F1 H1 s1 rp h => by
  obtain ⟨c, e, h⟩ := wp_o (wp_b h)
  cases toB_some e
  refine ⟨c, rp, ?_⟩
  cases c with
  | true => exact hb s1.st h (kx.to s1) fun q w ρ2 F2 H2 s2 rq h => k q w ρ2 F2 H2 (s1.trans s2) rq h
  | false => exact k (.bl false) _ ρ1 F1 H1 s1 rfl h
theorem s_or (ha : SndE C ta a) (hb : SndE C tb b) : SndE C (tOrV ta tb) (pOr a b) := .mk fun S h kx k => ha S (wp_b h) kx fun p v ρ1 F1 H1 s1 rp h => by
  obtain ⟨c, e, h⟩ := wp_o (wp_b h)
  cases toB_some e
  refine ⟨c, rp, ?_⟩
  cases c with
  | false => exact hb s1.st h (kx.to s1) fun q w ρ2 F2 H2 s2 rq h => k q w ρ2 F2 H2 (s1.trans s2) rq h
  | true => exact k (.bl true) _ ρ1 F1 H1 s1 rfl h
theorem s_not (ha : SndE C ta a) : SndE C (tNotV ta) (pNot a) := .mk fun S h kx k => ha S (wp_b h) kx fun p v ρ1 F1 H1 s1 rp h => by
  obtain ⟨c, e, h⟩ := wp_o (wp_b h)
  cases toB_some e
  exact ⟨c, rp, k (.bl !c) _ ρ1 F1 H1 s1 rfl h⟩
theorem tru_ok {p : P} {v : V} {F H : Hp} {c : Bool} (e : Ex F H) (r : RepW C.K p v F H) (h : tru p = some c) : TruV C.K v H c := by
  cases p with
  | non => cases r; cases h; rfl
  | bl b => cases r; cases h; rfl
  | int i => cases r; cases h; rfl
  | str cs =>
    cases r
    obtain ⟨h1, h2⟩ := gd_some h
    refine ⟨small (by rw [SX.S_len]; exact h1), ?_⟩
    rw [SX.S_len, ← h2]
    cases cs with
    | nil => rfl
    | cons c cs => simp; omega
  | lst xs =>
    obtain ⟨a, vs, rfl, h1, h2⟩ := r
    cases h
    have := reps_len h2
    refine .inl ⟨vs, SqL.of h1, ?_⟩
    cases xs <;> cases vs <;> first | rfl | (simp at this)
  | tup xs =>
    obtain ⟨a, vs, rfl, h1, h2⟩ := r
    cases h
    have := reps_len h2
    refine .inr (.inl ⟨vs, e.sqT h1.sq, ?_⟩)
    cases xs <;> cases vs <;> first | rfl | (simp at this)
  | _ => cases h
theorem s_andT (ha : SndE C ta a) (hb : SndE C tb b) : SndE C (tAndT C.K ta tb) (pAndT a b) := .mk fun S h kx k => ha S (wp_b h) kx fun p v ρ1 F1 H1 s1 rp h => by
  obtain ⟨c, e, h⟩ := wp_o (wp_b h)
  refine ⟨c, tru_ok s1.x.fh (rp.w s1.x.fh) e, ?_⟩
  cases c with
  | true => exact hb s1.st h (kx.to s1) fun q w ρ2 F2 H2 s2 rq h => k q w ρ2 F2 H2 (s1.trans s2) rq h
  | false => exact k _ _ ρ1 F1 H1 s1 rp h
theorem s_orT (ha : SndE C ta a) (hb : SndE C tb b) : SndE C (tOrT C.K ta tb) (pOrT a b) := .mk fun S h kx k => ha S (wp_b h) kx fun p v ρ1 F1 H1 s1 rp h => by
  obtain ⟨c, e, h⟩ := wp_o (wp_b h)
  refine ⟨c, tru_ok s1.x.fh (rp.w s1.x.fh) e, ?_⟩
  cases c with
  | false => exact hb s1.st h (kx.to s1) fun q w ρ2 F2 H2 s2 rq h => k q w ρ2 F2 H2 (s1.trans s2) rq h
  | true => exact k _ _ ρ1 F1 H1 s1 rp h
theorem s_notT (ha : SndW C ta a) : SndE C (tNotT C.K ta) (pNotT a) := .mk fun S h kx k => ha S (wp_b h) kx fun p v ρ1 F1 H1 s1 rp h => by
  obtain ⟨c, e, h⟩ := wp_o (wp_b h)
  exact ⟨c, tru_ok s1.x.fh rp e, k (.bl !c) _ ρ1 F1 H1 s1 rfl h⟩
theorem s_if (ht : SndT C tt m) (ha : SndE C ta a) (hb : SndE C tb b) : SndE C (tIf tt ta tb) (pIf m a b) := .mk fun S h kx k => ht S (wp_b h) kx fun c ρ1 F1 H1 s1 h => by
  show if c = true then _ else _
  cases c with
  | true => exact ha s1.st h (kx.to s1) fun q w ρ2 F2 H2 s2 rq h => k q w ρ2 F2 H2 (s1.trans s2) rq h
  | false => exact hb s1.st h (kx.to s1) fun q w ρ2 F2 H2 s2 rq h => k q w ρ2 F2 H2 (s1.trans s2) rq h
theorem s_test (ha : SndE C ta a) : SndT C (tTest ta) (tVal a) := .mk fun S h kx k => ha S (wp_b h) kx fun p v ρ1 F1 H1 s1 rp h => by
  obtain ⟨c, e, h⟩ := wp_o h
  cases toB_some e
  exact ⟨c, rp, k _ _ F1 H1 s1 h⟩
theorem s_tB (ha : SndE C ta a) : SndT C (tB ta) (tVal a) := .mk fun S h kx k => ha S (wp_b h) kx fun p v ρ1 F1 H1 s1 rp h => by
  obtain ⟨c, e, h⟩ := wp_o h
  cases toB_some e
  exact ⟨c, rp, k _ _ F1 H1 s1 h⟩
theorem s_tru (ha : SndW C ta a) : SndT C (tTru C.K ta) (tTr a) := .mk fun S h kx k => ha S (wp_b h) kx fun p v ρ1 F1 H1 s1 rp h => by
  obtain ⟨c, e, h⟩ := wp_o h
  exact ⟨c, tru_ok s1.x.fh rp e, k _ _ F1 H1 s1 h⟩
theorem s_tnot (ht : SndT C tt m) : SndT C (tNot tt) (tNt m) := .mk fun S h kx k => ht S (wp_b h) kx fun c ρ1 F1 H1 s1 h => k _ _ F1 H1 s1 h
theorem s_tand (ht : SndT C tt m) (hu : SndT C tu n) : SndT C (tAnd tt tu) (tAn m n) := .mk fun S h kx k => ht S (wp_b h) kx fun c ρ1 F1 H1 s1 h => by
  show if c = true then _ else _
  cases c with
  | true => exact hu s1.st h (kx.to s1) fun c ρ2 F2 H2 s2 h => k c ρ2 F2 H2 (s1.trans s2) h
  | false => exact k _ _ F1 H1 s1 h
theorem s_tor (ht : SndT C tt m) (hu : SndT C tu n) : SndT C (tOr tt tu) (tO m n) := .mk fun S h kx k => ht S (wp_b h) kx fun c ρ1 F1 H1 s1 h => by
  show if c = true then _ else _
  cases c with
  | false => exact hu s1.st h (kx.to s1) fun c ρ2 F2 H2 s2 h => k c ρ2 F2 H2 (s1.trans s2) h
  | true => exact k _ _ F1 H1 s1 h
theorem s_yes : SndT C tYes tYs := .mk fun {ρ σ F H Q Qp E} S h kx k => k true ρ F H (Stp.refl S) h
theorem s_tup (hx : SndA C t x) : SndE C (tTup t) (pTup x) := .mk fun S h kx k => hx S (wp_b h) kx fun ps vs ρ1 F1 H1 s1 rs h => by
  obtain ⟨q, e, h⟩ := wp_o h
  obtain ⟨hz, rfl⟩ := gd_some e
  refine ⟨small (by rw [← reps_len rs]; exact hz), fun p hp => ?_⟩
  have s2 := Stp.lay (o := .tup vs) s1.st hp
  exact k (.tup ps) (.ref p) _ _ _ (s1.trans s2) ⟨p, vs, rfl, .inl upd_same, reps_up s2.x.ff rs⟩ h
theorem s_no : SndO C tNoPart oNo := .mk fun {ρ σ F H Q Qp E} S h kx k => k none ρ F H (Stp.refl S) h
theorem s_part (ha : SndE C ta a) : SndO C (tPart ta) (oSome a) := .mk fun S h kx k => ha S (wp_b h) kx fun p v ρ1 F1 H1 s1 rp h => by
  obtain ⟨i, e, h⟩ := wp_o (wp_b h)
  cases toI_some e
  exact ⟨i, rp, k _ _ F1 H1 s1 h⟩
theorem s_slice {tl th : TO} {l r : POx} {f : F3} {rr : V → Option Int → Option Int → Hp → VK → Prop} (hr : SndCut C rr f)
    (ha : SndE C ta a) (hl : SndO C tl l) (hu : SndO C th r) : SndE C (tSl rr ta tl th) (pSlice f a l r) := .mk fun S h kx k => ha S (wp_b h) kx fun p v ρ1 F1 H1 s1 rp h => hl s1.st (wp_b h) (kx.to s1) fun i ρ2 F2 H2 s2 h => hu s2.st (wp_b h) (kx.to (s1.trans s2)) fun j ρ3 F3 H3 s3 h => by
  obtain ⟨q, e, h⟩ := wp_o h
  exact hr s3.x.fh ((rep_up (s2.x.ff.trans s3.x.ff) rp).w s3.x.fh) e fun u F4 H4 x4 ru => k q u _ F4 H4 (((s1.trans s2).trans s3).trans (Stp.ext s3.st x4)) ru h
theorem s_sliceL {tl th : TO} {l r : POx} {f : F3} {i : Nat} {rr : V → Option Int → Option Int → Hp → VK → Prop} (hr : SndCut C rr f)
    (hl : SndO C tl l) (hu : SndO C th r) : SndE C (tSl rr (tVar i) tl th) (pSliceL f i l r) := .mk fun {ρ σ F H Q Qp E} S h kx k => by
  obtain ⟨x0, e0, h⟩ := wp_o (wp_b h)
  obtain ⟨v, hv, _⟩ := w_slot S e0
  refine ⟨v, hv, hl S (wp_b h) kx fun i ρ2 F2 H2 s2 h => hu s2.st (wp_b h) (kx.to s2) fun j ρ3 F3 H3 s3 h => ?_⟩
  obtain ⟨x, e, h⟩ := wp_o (wp_b h)
  obtain ⟨v', hv', rx⟩ := w_slot s3.st e
  rw [hv] at hv'
  cases hv'
  obtain ⟨q, e, h⟩ := wp_o h
  exact hr s3.x.fh rx e fun u F4 H4 x4 ru => k q u _ F4 H4 ((s2.trans s3).trans (Stp.ext s3.st x4)) ru h
theorem s_chain {r r' : R2} {f g : F2} (hr : SndR C r f) (hr' : SndR C r' g) (ha : SndE C ta a) (hb : SndE C tb b) (hc : SndE C tc c) : SndE C (tChain r r' ta tb tc) (pChain f g a b c) := .mk fun S h kx k =>
  ha S (wp_b h) kx fun x v ρ1 F1 H1 s1 rx h => hb s1.st (wp_b h) (kx.to s1) fun y w ρ2 F2 H2 s2 ry h => by
    obtain ⟨z, e, h⟩ := wp_o (wp_b h)
    obtain ⟨c, e2, h⟩ := wp_o (wp_b h)
    cases toB_some e2
    refine hr s2.x.fh ((rep_up s2.x.ff rx).w s2.x.fh) (ry.w s2.x.fh) e fun u F3 H3 x3 ru => ⟨c, ru, ?_⟩
    have s3 := Stp.ext s2.st x3
    cases c with
    | true =>
      refine hc s3.st (wp_b h) (kx.to ((s1.trans s2).trans s3)) fun q w ρ4 F4 H4 s4 rq h => ?_
      obtain ⟨z, e, h⟩ := wp_o h
      exact hr' s4.x.fh ((rep_up (s3.x.ff.trans s4.x.ff) ry).w s4.x.fh) (rq.w s4.x.fh) e fun u F5 H5 x5 ru => k z u ρ4 F5 H5 ((((s1.trans s2).trans s3).trans s4).trans (Stp.ext s4.st x5)) ru h
    | false => exact k (.bl false) _ _ F3 H3 ((s1.trans s2).trans s3) rfl h
end
end FX

/-! sets and sorted lists in the pure layer -/
namespace FX
variable [Tbs]
open PySem PySem.Spec PyProof.Rows L2 RZ PX
/-! ### distinct signs -/
def putN (l : List Nat) (c : Nat) : List Nat := if c ∈ l then l else c :: l
def dedN (cs l : List Nat) : List Nat := cs.foldl putN l
omit [Tbs] in
theorem mem_putN {l : List Nat} {c d : Nat} : d ∈ putN l c ↔ d = c ∨ d ∈ l := by
  unfold putN
  split
  · rename_i h
    exact ⟨.inr, fun z => z.elim (fun e => e ▸ h) id⟩
  · exact List.mem_cons
omit [Tbs] in
theorem mem_dedN {d : Nat} : ∀ {cs l : List Nat}, d ∈ dedN cs l ↔ d ∈ cs ∨ d ∈ l
  | [], l => ⟨.inr, fun z => z.elim (fun h => (List.not_mem_nil h).elim) id⟩
  | c :: cs, l => by
    show d ∈ dedN cs (putN l c) ↔ _
    rw [mem_dedN, mem_putN, List.mem_cons]
    constructor
    · rintro (h | h | h)
      · exact .inl (.inr h)
      · exact .inl (.inl h)
      · exact .inr h
    · rintro ((h | h) | h)
      · exact .inr (.inl h)
      · exact .inl h
      · exact .inr (.inr h)
omit [Tbs] in
theorem nodup_dedN : ∀ {cs l : List Nat}, l.Nodup → (dedN cs l).Nodup
  | [], _, h => h
  | c :: cs, l, h => nodup_dedN (cs := cs) (by
    unfold putN
    split
    · exact h
    · rename_i n
      exact List.nodup_cons.mpr ⟨n, h⟩)
omit [Tbs] in
theorem len_dedN_le : ∀ (cs l : List Nat), (dedN cs l).length ≤ cs.length + l.length
  | [], l => by show l.length ≤ _; simp
  | c :: cs, l => by
    have := len_dedN_le cs (putN l c)
    have h2 : (putN l c).length ≤ l.length + 1 := by unfold putN; split <;> simp <;> omega
    show (dedN cs (putN l c)).length ≤ _
    rw [List.length_cons]
    omega
omit [Tbs] in
/-- as many distinct signs as signs: no sign twice -/
theorem len_dedN {cs : List Nat} : ∀ {l : List Nat}, (dedN cs l).length = cs.length + l.length ↔ cs.Nodup ∧ ∀ c ∈ cs, c ∉ l := by
  induction cs with
  | nil => intro l; exact ⟨fun _ => ⟨List.nodup_nil, fun _ h => (List.not_mem_nil h).elim⟩, fun _ => by show l.length = _; simp⟩
  | cons c cs ih =>
    intro l
    show (dedN cs (putN l c)).length = _ ↔ _
    by_cases h : c ∈ l
    · have e : putN l c = l := if_pos h
      rw [e]
      constructor
      · intro z
        have := len_dedN_le cs l
        rw [List.length_cons] at z
        omega
      · intro z
        exact absurd h (z.2 c (List.mem_cons_self ..))
    · have e : putN l c = c :: l := if_neg h
      rw [e, show (c :: cs).length + l.length = cs.length + (c :: l).length by simp; omega, ih, List.nodup_cons]
      constructor
      · rintro ⟨h1, h2⟩
        refine ⟨⟨fun z => h2 c z (List.mem_cons_self ..), h1⟩, fun d hd => ?_⟩
        rcases List.mem_cons.mp hd with e | hd
        · rw [e]; exact h
        · exact fun z => h2 d hd (List.mem_cons_of_mem _ z)
      · rintro ⟨⟨h1, h2⟩, h3⟩
        refine ⟨h2, fun d hd z => ?_⟩
        rcases List.mem_cons.mp z with e | z
        · exact h1 (e ▸ hd)
        · exact h3 d (List.mem_cons_of_mem _ hd) z
omit [Tbs] in
theorem signsT_eq : ∀ (cs l : List Nat), signsT cs (l.map fun c => SX.S [c]) = (dedN cs l).map fun c => SX.S [c]
  | [], l => rfl
  | c :: cs, l => by
    have e : putT (l.map fun c => SX.S [c]) ⟨#[c]⟩ = (putN l c).map fun c => SX.S [c] := by
      unfold putT putN
      have hm : (⟨#[c]⟩ : Str) ∈ l.map (fun c => SX.S [c]) ↔ c ∈ l := by
        rw [List.mem_map]
        exact ⟨fun ⟨d, hd, h⟩ => by
          have e2 : d = c := (List.cons.inj (SX.S_inj (b := [c]) h)).1
          exact e2 ▸ hd, fun h => ⟨c, h, rfl⟩⟩
      by_cases h : c ∈ l
      · rw [if_pos (hm.mpr h), if_pos h]
      · rw [if_neg (fun z => h (hm.mp z)), if_neg h]; rfl
    show signsT cs (putT (l.map fun c => SX.S [c]) ⟨#[c]⟩) = (dedN cs (putN l c)).map fun c => SX.S [c]
    rw [e]
    exact signsT_eq cs (putN l c)
/-! ### in order -/
def insN (c : Nat) : List Nat → List Nat
  | [] => [c]
  | d :: r => if c < d then c :: d :: r else if c = d then d :: r else d :: insN c r
/-- the distinct signs in order -/
def ordN (cs : List Nat) : List Nat := cs.foldr insN []
omit [Tbs] in
theorem mem_insN {c d : Nat} : ∀ {l : List Nat}, d ∈ insN c l ↔ d = c ∨ d ∈ l
  | [] => by show d ∈ [c] ↔ _; simp
  | e :: r => by
    unfold insN
    split
    · exact List.mem_cons
    · split
      · rename_i h; subst h; rw [List.mem_cons]; exact ⟨fun z => z.elim .inl fun h => .inr (.inr h), fun z => z.elim .inl id⟩
      · rw [List.mem_cons, List.mem_cons, mem_insN]
        constructor
        · rintro (h | h | h)
          · exact .inr (.inl h)
          · exact .inl h
          · exact .inr (.inr h)
        · rintro (h | h | h)
          · exact .inr (.inl h)
          · exact .inl h
          · exact .inr (.inr h)
omit [Tbs] in
theorem mem_ordN {d : Nat} : ∀ {cs : List Nat}, d ∈ ordN cs ↔ d ∈ cs
  | [] => Iff.rfl
  | c :: cs => by
    show d ∈ insN c (ordN cs) ↔ _
    rw [mem_insN, mem_ordN, List.mem_cons]
omit [Tbs] in
theorem ris_insN {c : Nat} : ∀ {l : List Nat}, l.Pairwise (· < ·) → (insN c l).Pairwise (· < ·)
  | [], _ => List.pairwise_singleton _ _
  | d :: r, h => by
    obtain ⟨h1, h2⟩ := List.pairwise_cons.mp h
    unfold insN
    split
    · rename_i hc
      refine List.pairwise_cons.mpr ⟨fun e he => ?_, h⟩
      rcases List.mem_cons.mp he with z | z
      · rw [z]; exact hc
      · have := h1 e z; omega
    · split
      · exact h
      · rename_i n1 n2
        refine List.pairwise_cons.mpr ⟨fun e he => ?_, ris_insN h2⟩
        rcases mem_insN.mp he with z | z
        · omega
        · exact h1 e z
omit [Tbs] in
theorem ris_ordN : ∀ cs : List Nat, (ordN cs).Pairwise (· < ·)
  | [] => List.Pairwise.nil
  | c :: cs => ris_insN (ris_ordN cs)
omit [Tbs] in
/-- two rising lists of the same signs are one -/
theorem ris_uniq : ∀ {a b : List Nat}, a.Pairwise (· < ·) → b.Pairwise (· < ·) → (∀ c, c ∈ a ↔ c ∈ b) → a = b
  | [], [], _, _, _ => rfl
  | [], d :: r, _, _, h => absurd ((h d).mpr (List.mem_cons_self ..)) List.not_mem_nil
  | c :: r, [], _, _, h => absurd ((h c).mp (List.mem_cons_self ..)) List.not_mem_nil
  | c :: r, d :: q, h1, h2, h => by
    obtain ⟨a1, a2⟩ := List.pairwise_cons.mp h1
    obtain ⟨b1, b2⟩ := List.pairwise_cons.mp h2
    have e : c = d := by
      rcases List.mem_cons.mp ((h c).mp (List.mem_cons_self ..)) with z | z
      · exact z
      · rcases List.mem_cons.mp ((h d).mpr (List.mem_cons_self ..)) with y | y
        · exact y.symm
        · have := b1 c z; have := a1 d y; omega
    subst e
    refine congrArg (fun z => c :: z) (ris_uniq a2 b2 fun x => ⟨fun hx => ?_, fun hx => ?_⟩)
    · rcases List.mem_cons.mp ((h x).mp (List.mem_cons_of_mem _ hx)) with z | z
      · have := a1 x hx; omega
      · exact z
    · rcases List.mem_cons.mp ((h x).mpr (List.mem_cons_of_mem _ hx)) with z | z
      · have := b1 x hx; omega
      · exact z
omit [Tbs] in
theorem len_insN (c : Nat) : ∀ l : List Nat, (insN c l).length ≤ l.length + 1
  | [] => Nat.le_refl _
  | d :: r => by
    unfold insN
    split
    · simp
    · split
      · simp
      · have := len_insN c r
        rw [List.length_cons, List.length_cons]; omega
omit [Tbs] in
theorem len_ordN : ∀ cs : List Nat, (ordN cs).length ≤ cs.length
  | [] => Nat.le_refl _
  | c :: cs => by
    have := len_insN c (ordN cs)
    have := len_ordN cs
    show (insN c (ordN cs)).length ≤ _
    rw [List.length_cons]; omega
end FX

/-! pure operators and built-ins -/
namespace FX
variable [Tbs]
open PySem PySem.Spec PyProof.Rows L2 RZ PX
/-! ### operators -/
def fAdd : F2
  | .int i, .int j => some (.int (i + j))
  | .str a, .str b => gd (a.length + b.length ≤ 100000) (.str (a ++ b))
  | .lst a, .lst b => gd (a.length + b.length ≤ 100000) (.lst (a ++ b))
  | .tup a, .tup b => gd (0 < a.length ∧ a.length + b.length ≤ 100000) (.tup (a ++ b))
  | _, _ => none
def fSub : F2
  | .int i, .int j => some (.int (i - j))
  | _, _ => none
def fMul : F2
  | .int i, .int j => gd ((-(2 ^ 64) < i ∧ i < 2 ^ 64) ∨ (-(2 ^ 64) < j ∧ j < 2 ^ 64)) (.int (i * j))
  | .lst a, .int k => gd (0 ≤ k ∧ k < 100000 ∧ a.length * k.toNat ≤ 100000) (.lst (List.replicate k.toNat a).flatten)
  | _, _ => none
def fFdiv : F2
  | .int i, .int j => gd (0 < j ∧ j < 1073741824) (.int (i / j))
  | _, _ => none
def fMod : F2
  | .int i, .int j => gd (0 < j) (.int (i % j))
  | _, _ => none
def fPow : F2
  | .int i, .int j => gd (0 ≤ j ∧ j ≤ 1000000 ∧ i.natAbs < 2 ^ 64) (.int (i ^ j.toNat))
  | _, _ => none
def fLt : F2
  | .int i, .int j => some (.bl (decide (i < j)))
  | .str i, .str j => some (.bl (decide (i < j)))
  | _, _ => none
def fLe : F2
  | .int i, .int j => some (.bl (decide (i ≤ j)))
  | _, _ => none
def fGt : F2
  | .int i, .int j => some (.bl (decide (j < i)))
  | _, _ => none
def fGe : F2
  | .int i, .int j => some (.bl (decide (j ≤ i)))
  | _, _ => none
def isNon : P → Bool
  | .non => true
  | _ => false
def fIs : F2
  | x, .non => some (.bl (isNon x))
  | _, _ => none
def fIsNot : F2
  | x, .non => some (.bl (!isNon x))
  | _, _ => none
mutual
def toD : P → PyData
  | .bl b => .bool b
  | .int i => .int i
  | .str cs => .str (SX.S cs)
  | .lst xs => .list (toDs xs)
  | .tup xs => .tuple (toDs xs)
  | _ => .none
def toDs : List P → List PyData
  | [] => []
  | x :: xs => toD x :: toDs xs
end
mutual
/-- plain data, texts of signs -/
def plain : P → Bool
  | .non => true
  | .bl _ => true
  | .int _ => true
  | .str cs => cs.all fun c => decide (c < 1114112)
  | .lst xs => plains xs
  | .tup xs => plains xs
  | _ => false
def plains : List P → Bool
  | [] => true
  | x :: xs => plain x && plains xs
end
mutual
def pdep : P → Nat
  | .lst xs => pdeps xs + 1
  | .tup xs => pdeps xs + 1
  | _ => 0
def pdeps : List P → Nat
  | [] => 0
  | x :: xs => max (pdep x) (pdeps xs)
end
mutual
/-- == of plain data -/
def peq : P → P → Bool
  | .non, .non => true
  | .bl a, .bl b => a == b
  | .bl a, .int j => (if a then 1 else 0) == j
  | .int i, .bl b => i == (if b then 1 else 0)
  | .int i, .int j => i == j
  | .str x, .str y => decide (x = y)
  | .lst xs, .lst ys => peqs xs ys
  | .tup xs, .tup ys => peqs xs ys
  | _, _ => false
def peqs : List P → List P → Bool
  | [], [] => true
  | x :: xs, y :: ys => peq x y && peqs xs ys
  | _, _ => false
end
def pflat : P → Bool
  | .non => true
  | .bl _ => true
  | .int _ => true
  | .str _ => true
  | _ => false
def okEq (x y : P) : Bool := (pflat x && pflat y) || (plain x && plain y && decide (pdep x ≤ 64) && decide (pdep y ≤ 64))
def fEq : F2 := fun x y => gd (okEq x y = true) (.bl (peq x y))
def fNe : F2 := fun x y => gd (okEq x y = true) (.bl (!peq x y))
def inP : P → P → Option Bool
  | .str [c], .str cs => some (decide (c ∈ cs))
  | x, .lst xs => gd (pflat x = true ∧ xs.all pflat = true) (xs.any fun y => peq y x)
  | x, .tup xs => gd (pflat x = true ∧ xs.all pflat = true) (xs.any fun y => peq y x)
  | _, _ => none
def fIn : F2 := fun x y => (inP x y).map fun b => .bl b
def fNin : F2 := fun x y => (inP x y).map fun b => .bl (!b)
def fIx : F2
  | .lst xs, .int i => atI xs i
  | .tup xs, .int i => atI xs i
  | .str cs, .int i => (gd (cs.length ≤ 100000) ()).bind fun _ => (atI cs i).map fun c => .str [c]
  | _, _ => none
def cutL {α : Type} (xs : List α) (lo hi : Option Int) : List α := (xs.drop (HT.sIx xs.length 0 lo)).take (HT.sIx xs.length xs.length hi - HT.sIx xs.length 0 lo)
def fCut : F3
  | .lst xs, lo, hi => some (.lst (cutL xs lo hi))
  | .str cs, lo, hi => gd (cs.length ≤ 100000) (.str (cutL cs lo hi))
  | .scr ns, lo, hi => some (.lst ((cutL ns lo hi).map P.int))
  | _, _, _ => none
def strsOf : List P → Option (List (List Nat))
  | [] => some []
  | .str c :: r => (strsOf r).map (c :: ·)
  | _ :: _ => none
def intsOf : List P → Option (List Int)
  | [] => some []
  | .int c :: r => (intsOf r).map (c :: ·)
  | _ :: _ => none
def blsOf : List P → Option (List Bool)
  | [] => some []
  | .bl c :: r => (blsOf r).map (c :: ·)
  | _ :: _ => none
def fJoin : F2
  | .str a, .lst xs => (strsOf xs).bind fun ys => gd ((ys.map (·.length)).sum + ys.length * a.length ≤ 100000) (.str (TL.joinL a ys))
  | .str a, .tup xs => (strsOf xs).bind fun ys => gd ((ys.map (·.length)).sum + ys.length * a.length ≤ 100000) (.str (TL.joinL a ys))
  | _, _ => none
/-! ### built-ins -/
def fLen : FLp
  | [.str cs] => gd (cs.length ≤ 100000) (.int (cs.length : Nat))
  | [.lst xs] => some (.int (xs.length : Nat))
  | [.tup xs] => some (.int (xs.length : Nat))
  | [.scr xs] => some (.int (xs.length : Nat))
  | _ => none
def fIntOf : FLp
  | [.int i] => some (.int i)
  | [.bl k] => some (.int (if k then 1 else 0))
  | _ => none
def fAll : FLp
  | [.lst xs] => (blsOf xs).map fun bs => .bl (bs.all id)
  | _ => none
def fAny : FLp
  | [.lst xs] => (blsOf xs).map fun bs => .bl (bs.any id)
  | _ => none
def fSum : FLp
  | [.lst xs] => (intsOf xs).map fun ns => .int ns.sum
  | _ => none
def maxI : List Int → Int
  | [] => 0
  | [a] => a
  | a :: r => if maxI r ≤ a then a else maxI r
def minI : List Int → Int
  | [] => 0
  | [a] => a
  | a :: r => if a ≤ minI r then a else minI r
def fMax : FLp
  | [.lst xs] => (intsOf xs).bind fun ns => gd (0 < ns.length) (.int (maxI ns))
  | _ => none
def fMin : FLp
  | [.lst xs] => (intsOf xs).bind fun ns => gd (0 < ns.length) (.int (minI ns))
  | _ => none
def fListOf : FLp
  | [.lst xs] => some (.lst xs)
  | [.tup xs] => some (.lst xs)
  | [.scr xs] => some (.lst (xs.map P.int))
  | _ => none
def fTupOf : FLp
  | [.lst xs] => some (.tup xs)
  | [.tup xs] => some (.tup xs)
  | _ => none
def fBool : FLp
  | [x] => (tru x).map fun b => .bl b
  | _ => none
/-- the kind of a value -/
def kindP : P → String
  | .non => "NoneType"
  | .bl _ => "bool"
  | .int _ => "int"
  | .str _ => "str"
  | .lst _ => "list"
  | .tup _ => "tuple"
  | _ => ""
def isP (T : String) (d : P) : Bool := kindP d == T || (kindP d == "bool" && T == "int")
def okTy (T : String) : Bool := T == "bool" || T == "int" || T == "str" || T == "list" || T == "tuple"
def fIsi : FLp
  | [x, .ty T] => gd (kindP x ≠ "" ∧ okTy T = true) (.bl (isP T x))
  | _ => none
/-! ### sorting -/
def insB {α : Type} (le : α → α → Bool) (x : α) : List α → List α
  | [] => [x]
  | y :: r => match le x y with
    | true => x :: y :: r
    | false => y :: insB le x r
def sortB {α : Type} (le : α → α → Bool) : List α → List α
  | [] => []
  | x :: r => insB le x (sortB le r)
omit [Tbs] in
theorem insB_perm {α : Type} {le : α → α → Bool} {x : α} : ∀ {l : List α}, (insB le x l).Perm (x :: l)
  | [] => .refl _
  | y :: r => by
    unfold insB
    cases le x y with
    | true => exact .refl _
    | false => exact (insB_perm.cons y).trans (.swap ..)
omit [Tbs] in
theorem sortB_perm {α : Type} {le : α → α → Bool} : ∀ {l : List α}, (sortB le l).Perm l
  | [] => .refl _
  | x :: r => insB_perm.trans (sortB_perm.cons x)
omit [Tbs] in
theorem insB_pw {α : Type} {le : α → α → Bool} (tot : ∀ a b, le a b = true ∨ le b a = true) (tr : ∀ a b c, le a b = true → le b c = true → le a c = true) {x : α} : ∀ {l : List α}, l.Pairwise (fun a b => le a b = true) → (insB le x l).Pairwise fun a b => le a b = true
  | [], _ => List.pairwise_singleton _ _
  | y :: r, h => by
    obtain ⟨h1, h2⟩ := List.pairwise_cons.mp h
    unfold insB
    cases e : le x y with
    | true =>
      refine List.pairwise_cons.mpr ⟨fun z hz => ?_, h⟩
      rcases List.mem_cons.mp hz with q | q
      · rw [q]; exact e
      · exact tr _ _ _ e (h1 z q)
    | false =>
      refine List.pairwise_cons.mpr ⟨fun z hz => ?_, insB_pw tot tr h2⟩
      rcases List.mem_cons.mp (insB_perm.mem_iff.mp hz) with q | q
      · rw [q]; rcases tot x y with t | t
        · rw [e] at t; cases t
        · exact t
      · exact h1 z q
omit [Tbs] in
theorem sortB_pw {α : Type} {le : α → α → Bool} (tot : ∀ a b, le a b = true ∨ le b a = true) (tr : ∀ a b c, le a b = true → le b c = true → le a c = true) : ∀ {l : List α}, (sortB le l).Pairwise fun a b => le a b = true
  | [] => .nil
  | x :: r => insB_pw tot tr (sortB_pw tot tr)
omit [Tbs] in
theorem sortB_uniq {α : Type} {le : α → α → Bool} (tot : ∀ a b, le a b = true ∨ le b a = true) (tr : ∀ a b c, le a b = true → le b c = true → le a c = true) (an : ∀ a b, le a b = true → le b a = true → a = b) {l m : List α} (p : m.Perm l) (h : m.Pairwise fun a b => le a b = true) : m = sortB le l :=
  List.Perm.eq_of_pairwise (fun a b _ _ => an a b) h (sortB_pw tot tr) (p.trans sortB_perm.symm)
def leI (a b : Int) : Bool := decide (a ≤ b)
omit [Tbs] in
theorem sortI_uniq {l m : List Int} (p : m.Perm l) (h : m.Pairwise (· ≤ ·)) : m = sortB leI l :=
  sortB_uniq (fun a b => by unfold leI; simp only [decide_eq_true_eq]; omega) (fun a b c => by unfold leI; simp only [decide_eq_true_eq]; omega) (fun a b => by unfold leI; simp only [decide_eq_true_eq]; omega) p (h.imp fun h => decide_eq_true h)
def leT (a b : List Nat) : Bool := !ltCps b a
omit [Tbs] in
theorem lt_irr : ∀ a : List Nat, ltCps a a = false
  | [] => rfl
  | x :: r => by unfold ltCps; rw [lt_irr r]; simp
omit [Tbs] in
theorem lt_as : ∀ {a b : List Nat}, ltCps a b = true → ltCps b a = false
  | [], [], h => by cases h
  | [], _ :: _, _ => rfl
  | _ :: _, [], h => by cases h
  | x :: r, y :: t, h => by
    unfold ltCps at h ⊢
    simp only [Bool.or_eq_true, decide_eq_true_eq, Bool.and_eq_true, beq_iff_eq, Bool.or_eq_false_iff, decide_eq_false_iff_not, Bool.and_eq_false_iff, beq_eq_false_iff_ne] at h ⊢
    rcases h with h | ⟨h1, h2⟩
    · exact ⟨by omega, .inl (by omega)⟩
    · exact ⟨by omega, .inr (lt_as h2)⟩
omit [Tbs] in
theorem lt_tr : ∀ {a b c : List Nat}, ltCps a b = true → ltCps b c = true → ltCps a c = true
  | [], [], _, h, _ => by cases h
  | [], _ :: _, [], _, h => by cases h
  | [], _ :: _, _ :: _, _, _ => rfl
  | _ :: _, [], _, h, _ => by cases h
  | _ :: _, _ :: _, [], _, h => by cases h
  | x :: r, y :: t, z :: u, h, k => by
    unfold ltCps at h k ⊢
    simp only [Bool.or_eq_true, decide_eq_true_eq, Bool.and_eq_true, beq_iff_eq] at h k ⊢
    rcases h with h | ⟨h1, h2⟩
    · rcases k with k | ⟨k1, k2⟩
      · exact .inl (by omega)
      · exact .inl (by omega)
    · rcases k with k | ⟨k1, k2⟩
      · exact .inl (by omega)
      · exact .inr ⟨by omega, lt_tr h2 k2⟩
omit [Tbs] in
theorem lt_tri : ∀ {a b : List Nat}, ltCps a b = false → ltCps b a = false → a = b
  | [], [], _, _ => rfl
  | [], _ :: _, h, _ => by cases h
  | _ :: _, [], _, h => by cases h
  | x :: r, y :: t, h, k => by
    unfold ltCps at h k
    simp only [Bool.or_eq_false_iff, decide_eq_false_iff_not, Bool.and_eq_false_iff, beq_eq_false_iff_ne] at h k
    have e : x = y := by omega
    subst e
    rw [lt_tri (h.2.resolve_left fun z => z rfl) (k.2.resolve_left fun z => z rfl)]
omit [Tbs] in
theorem leT_tot (a b : List Nat) : leT a b = true ∨ leT b a = true := by
  unfold leT
  cases h : ltCps b a with
  | false => exact .inl rfl
  | true => rw [lt_as h]; exact .inr rfl
omit [Tbs] in
theorem leT_tr (a b c : List Nat) (h : leT a b = true) (k : leT b c = true) : leT a c = true := by
  unfold leT at *
  rw [Bool.not_eq_true'] at *
  cases e : ltCps c a with
  | false => rfl
  | true =>
    cases f : ltCps a b with
    | true => rw [lt_tr e f] at k; cases k
    | false => rw [lt_tri h f] at k; rw [k] at e; cases e
omit [Tbs] in
theorem sortT_uniq {l m : List (List Nat)} (p : m.Perm l) (h : m.Pairwise fun a b => leT a b = true) : m = sortB leT l :=
  sortB_uniq leT_tot leT_tr (fun a b h k => by
    unfold leT at h k
    rw [Bool.not_eq_true'] at h k
    exact lt_tri k h) p h
omit [Tbs] in
theorem rising_pw : ∀ {p : List Nat} {l : List (List Nat)}, risingS (SX.S p) (l.map SX.S) = true → (p :: l).Pairwise fun a b => leT a b = true
  | p, [], _ => List.pairwise_singleton _ _
  | p, x :: r, h => by
    have h' : (!ltCps x p && risingS (SX.S x) (r.map SX.S)) = true := h
    rw [Bool.and_eq_true] at h'
    have h2 := rising_pw (p := x) (l := r) h'.2
    refine List.pairwise_cons.mpr ⟨fun y hy => ?_, h2⟩
    rcases List.mem_cons.mp hy with e | e
    · rw [e]; exact h'.1
    · exact leT_tr _ _ _ h'.1 ((List.pairwise_cons.mp h2).1 y e)
omit [Tbs] in
theorem sortedS_pw {l : List (List Nat)} (h : sortedS (l.map SX.S) = true) : l.Pairwise fun a b => leT a b = true := by
  cases l with
  | nil => exact .nil
  | cons x r => exact rising_pw h
/-- sorted(ints), sorted(texts) -/
def fSort : FLp
  | [.lst xs] => match intsOf xs with
    | some ns => gd (ns.length < 64) (.lst ((sortB leI ns).map P.int))
    | none => (strsOf xs).bind fun zs => gd (zs.length < 64) (.lst ((sortB leT zs).map P.str))
  | _ => none
/-! ### they are kept -/
section
variable {C : Cc}
omit [Tbs] in
theorem intsOf_map : ∀ ns : List Int, intsOf (ns.map P.int) = some ns
  | [] => rfl
  | n :: ns => by show (intsOf (ns.map P.int)).map (n :: ·) = _; rw [intsOf_map ns]; rfl
omit [Tbs] in
theorem strsOf_map : ∀ ns : List (List Nat), strsOf (ns.map P.str) = some ns
  | [] => rfl
  | n :: ns => by show (strsOf (ns.map P.str)).map (n :: ·) = _; rw [strsOf_map ns]; rfl
omit [Tbs] in
theorem blsOf_map : ∀ ns : List Bool, blsOf (ns.map P.bl) = some ns
  | [] => rfl
  | n :: ns => by show (blsOf (ns.map P.bl)).map (n :: ·) = _; rw [blsOf_map ns]; rfl
omit [Tbs] in
theorem intsOf_some : ∀ {xs : List P} {ns : List Int}, intsOf xs = some ns → xs = ns.map P.int
  | [], _, h => by cases h; rfl
  | .int i :: r, ns, h => by
    obtain ⟨m, h1, h2⟩ := Option.map_eq_some_iff.mp (show (intsOf r).map (i :: ·) = some ns from h)
    rw [← h2, intsOf_some h1]; rfl
  | .non :: _, _, h | .bl _ :: _, _, h | .str _ :: _, _, h | .lst _ :: _, _, h | .tup _ :: _, _, h | .ins _ _ _ :: _, _, h | .scr _ :: _, _, h | .ty _ :: _, _, h | .glo _ :: _, _, h | .dK _ _ :: _, _, h | .dT _ _ :: _, _, h => by cases h
omit [Tbs] in
theorem strsOf_some : ∀ {xs : List P} {ns : List (List Nat)}, strsOf xs = some ns → xs = ns.map P.str
  | [], _, h => by cases h; rfl
  | .str i :: r, ns, h => by
    obtain ⟨m, h1, h2⟩ := Option.map_eq_some_iff.mp (show (strsOf r).map (i :: ·) = some ns from h)
    rw [← h2, strsOf_some h1]; rfl
  | .non :: _, _, h | .bl _ :: _, _, h | .int _ :: _, _, h | .lst _ :: _, _, h | .tup _ :: _, _, h | .ins _ _ _ :: _, _, h | .scr _ :: _, _, h | .ty _ :: _, _, h | .glo _ :: _, _, h | .dK _ _ :: _, _, h | .dT _ _ :: _, _, h => by cases h
omit [Tbs] in
theorem blsOf_some : ∀ {xs : List P} {ns : List Bool}, blsOf xs = some ns → xs = ns.map P.bl
  | [], _, h => by cases h; rfl
  | .bl i :: r, ns, h => by
    obtain ⟨m, h1, h2⟩ := Option.map_eq_some_iff.mp (show (blsOf r).map (i :: ·) = some ns from h)
    rw [← h2, blsOf_some h1]; rfl
  | .non :: _, _, h | .str _ :: _, _, h | .int _ :: _, _, h | .lst _ :: _, _, h | .tup _ :: _, _, h | .ins _ _ _ :: _, _, h | .scr _ :: _, _, h | .ty _ :: _, _, h | .glo _ :: _, _, h | .dK _ _ :: _, _, h | .dT _ _ :: _, _, h => by cases h
theorem reps_int {K : PySem.W.Frag} {F : Hp} : ∀ {ns : List Int} {vs : List V}, Reps K (ns.map P.int) vs F → vs = ns.map V.int
  | [], _, h => h
  | n :: ns, _, ⟨v, ws, h1, h2, h3⟩ => by rw [h1, show v = _ from h2, reps_int h3]; rfl
theorem reps_bl {K : PySem.W.Frag} {F : Hp} : ∀ {ns : List Bool} {vs : List V}, Reps K (ns.map P.bl) vs F → vs = ns.map V.bl
  | [], _, h => h
  | n :: ns, _, ⟨v, ws, h1, h2, h3⟩ => by rw [h1, show v = _ from h2, reps_bl h3]; rfl
theorem reps_str {K : PySem.W.Frag} {F : Hp} : ∀ {ns : List (List Nat)} {vs : List V}, Reps K (ns.map P.str) vs F → vs = (ns.map SX.S).map V.str
  | [], _, h => h
  | n :: ns, _, ⟨v, ws, h1, h2, h3⟩ => by rw [h1, show v = _ from h2, reps_str h3]; rfl
theorem reps_ints {K : PySem.W.Frag} {F : Hp} : ∀ (ns : List Int), Reps K (ns.map P.int) (ns.map V.int) F
  | [] => rfl
  | n :: ns => ⟨_, _, rfl, rfl, reps_ints ns⟩
theorem reps_strs {K : PySem.W.Frag} {F : Hp} : ∀ (l : List (List Nat)), Reps K (l.map P.str) ((l.map SX.S).map V.str) F
  | [] => rfl
  | c :: l => ⟨_, _, rfl, rfl, reps_strs l⟩
theorem reps_S1 {K : PySem.W.Frag} {F : Hp} : ∀ (l : List Nat), Reps K (l.map fun c => P.str [c]) ((l.map fun c => SX.S [c]).map V.str) F
  | [] => rfl
  | c :: l => ⟨_, _, rfl, rfl, reps_S1 l⟩
theorem r_add : SndR C (rAdd C.K) fAdd := .mk fun {F H Q x y p v w} e rx ry h k => by
  cases x <;> cases y <;> first | (cases h; done) | skip
  · cases rx; cases ry; cases h; exact add_i (k (.int _) F H (Ext.refl e) rfl)
  · cases rx; cases ry; obtain ⟨h1, rfl⟩ := gd_some h; exact add_t2 h1 (k (.str _) F H (Ext.refl e) rfl)
  · obtain ⟨c, vs, rfl, h1, h2⟩ := rx
    obtain ⟨d, ws, rfl, h3, h4⟩ := ry
    obtain ⟨hz, rfl⟩ := gd_some h
    exact add_l (b := none) e bagI_none h1 h3 (small (by rw [← reps_len h2, ← reps_len h4]; exact hz)) fun p F' H' x' _ hp => k (.ref p) F' H' x' ⟨p, _, rfl, hp, reps_app (reps_up x'.ff h2) (reps_up x'.ff h4)⟩
  · obtain ⟨c, vs, rfl, h1, h2⟩ := rx
    obtain ⟨d, ws, rfl, h3, h4⟩ := ry
    obtain ⟨⟨hn, hz⟩, rfl⟩ := gd_some h
    refine .inr (.inr (.inr ⟨c, d, vs, ws, rfl, rfl, Ex.sqT e h1.sq, Ex.sqT e h3.sq, ?_, small (by rw [← reps_len h2, ← reps_len h4]; exact hz), fun e' => ?_, fun _ p hp => ?_⟩))
    · intro z
      subst z
      have := reps_len h2
      simp at this
      rw [this] at hn
      simp at hn
    · subst e'
      have e2 := List.eq_nil_of_length_eq_zero (reps_len h4)
      subst e2
      exact k _ F H (Ext.refl e) ⟨c, vs, rfl, h1, by rw [List.append_nil]; exact h2⟩
    · have x2 := Ext.lay (b := none) (o := .tup (vs ++ ws)) e hp
      exact k _ _ _ x2 ⟨p, _, rfl, .inl upd_same, reps_app (reps_up x2.ff h2) (reps_up x2.ff h4)⟩
theorem r_sub : SndR C PX.rSub fSub := .mk fun {F H Q x y p v w} e rx ry h k => by
  cases x <;> cases y <;> first | (cases h; done) | skip
  cases rx; cases ry; cases h; exact sub_i (k (.int _) F H (Ext.refl e) rfl)
theorem r_mul : SndR C rMul fMul := .mk fun {F H Q x y p v w} e rx ry h k => by
  cases x <;> cases y <;> first | (cases h; done) | skip
  · cases rx; cases ry
    obtain ⟨h1, rfl⟩ := gd_some h
    exact .inl ⟨_, _, rfl, rfl, h1, k (.int _) F H (Ext.refl e) rfl⟩
  · rename_i xs i
    obtain ⟨a, vs, rfl, h1, h2⟩ := rx
    cases ry
    obtain ⟨⟨k0, k1, k2⟩, rfl⟩ := gd_some h
    obtain ⟨n, rfl⟩ := Int.eq_ofNat_of_zero_le k0
    refine rep_l (b := none) e bagI_none h1 (by omega) (small (by rw [← reps_len h2]; exact k2)) fun p F' H' x' B' hp => k _ F' H' x' ⟨p, _, rfl, hp, ?_⟩
    have h2' := reps_up x'.ff h2
    show Reps C.K (List.replicate n xs).flatten (List.replicate n vs).flatten F'
    clear k0 k1 k2 h hp k
    induction n with
    | zero => rfl
    | succ n ih => rw [List.replicate_succ, List.replicate_succ, List.flatten_cons, List.flatten_cons]; exact reps_app h2' ih
theorem r_fdiv : SndR C rFdiv fFdiv := .mk fun {F H Q x y p v w} e rx ry h k => by
  cases x <;> cases y <;> first | (cases h; done) | skip
  cases rx; cases ry; obtain ⟨h1, rfl⟩ := gd_some h; exact fdiv_i h1.1 h1.2 (k (.int _) F H (Ext.refl e) rfl)
theorem r_mod : SndR C rMod fMod := .mk fun {F H Q x y p v w} e rx ry h k => by
  cases x <;> cases y <;> first | (cases h; done) | skip
  cases rx; cases ry; obtain ⟨h1, rfl⟩ := gd_some h; exact mod_i h1 (k (.int _) F H (Ext.refl e) rfl)
theorem r_pow : SndR C rPow fPow := .mk fun {F H Q x y p v w} e rx ry h k => by
  cases x <;> cases y <;> first | (cases h; done) | skip
  · cases rx; cases ry
    obtain ⟨⟨h1, h2, h3⟩, rfl⟩ := gd_some h
    obtain ⟨n, rfl⟩ := Int.eq_ofNat_of_zero_le h1
    exact pow_i (by omega) h3 (k (.int _) F H (Ext.refl e) rfl)
theorem r_lt : SndR C rLt fLt := .mk fun {F H Q x y p v w} e rx ry h k => by
  cases x <;> cases y <;> first | (cases h; done) | skip
  · cases rx; cases ry; cases h; exact lt_i (k (.bl _) F H (Ext.refl e) rfl)
  · cases rx; cases ry; cases h; exact .inr ⟨_, _, rfl, rfl, k (.bl _) F H (Ext.refl e) rfl⟩
theorem r_le : SndR C rLe fLe := .mk fun {F H Q x y p v w} e rx ry h k => by
  cases x <;> cases y <;> first | (cases h; done) | skip
  cases rx; cases ry; cases h; exact le_i (k (.bl _) F H (Ext.refl e) rfl)
theorem r_gt : SndR C PX.rGt fGt := .mk fun {F H Q x y p v w} e rx ry h k => by
  cases x <;> cases y <;> first | (cases h; done) | skip
  cases rx; cases ry; cases h; exact gt_i (k (.bl _) F H (Ext.refl e) rfl)
theorem r_ge : SndR C PX.rGe fGe := .mk fun {F H Q x y p v w} e rx ry h k => by
  cases x <;> cases y <;> first | (cases h; done) | skip
  cases rx; cases ry; cases h; exact ge_i (k (.bl _) F H (Ext.refl e) rfl)
theorem rep_non {p : P} {v : V} {F H : Hp} (r : RepW C.K p v F H) : decide (v = .non) = isNon p := by
  cases p <;> first | (obtain ⟨_, h⟩ := r; first | (obtain ⟨h1, h2⟩ := h; subst h2; rfl) | (obtain ⟨_, h⟩ := h; first | (obtain ⟨h1, _⟩ := h; subst h1; rfl) | (obtain ⟨_, h1, _⟩ := h; subst h1; rfl)) | (obtain ⟨h1, _⟩ := h; subst h1; rfl)) | (cases r; rfl)
theorem r_is : SndR C rIsN fIs := .mk fun {F H Q x y p v w} e rx ry h k => by
  cases y <;> first | (cases h; done) | skip
  cases ry
  cases h
  exact ⟨rfl, by rw [rep_non rx]; exact k (.bl _) F H (Ext.refl e) rfl⟩
theorem r_isNot : SndR C rNotN fIsNot := .mk fun {F H Q x y p v w} e rx ry h k => by
  cases y <;> first | (cases h; done) | skip
  cases ry
  cases h
  exact ⟨rfl, by rw [rep_non rx]; exact k (.bl _) F H (Ext.refl e) rfl⟩
end
end FX

namespace FX
variable [Tbs]
open PySem PySem.Spec PyProof.Rows L2 RZ PX
omit [Tbs] in
mutual
theorem plain_lay : ∀ {x : P}, plain x = true → (toD x).canLay0 = true
  | .non, _ => rfl
  | .bl _, _ => rfl
  | .int _, _ => rfl
  | .str cs, h => by
    show ((SX.S cs).cps.all (· < 0x110000)) = true
    rw [← Array.all_toList]
    exact h
  | .lst xs, h => plains_lay (xs := xs) h
  | .tup xs, h => plains_lay (xs := xs) h
  | .ins _ _ _, h | .scr _, h | .ty _, h | .glo _, h | .dK _ _, h | .dT _ _, h => by cases h
theorem plains_lay : ∀ {xs : List P}, plains xs = true → PyData.canLayAll0 (toDs xs) = true
  | [], _ => rfl
  | x :: xs, h => by
    have h' : (plain x && plains xs) = true := h
    rw [Bool.and_eq_true] at h'
    show (PyData.canLay0 (toD x) && PyData.canLayAll0 (toDs xs)) = true
    rw [plain_lay h'.1, plains_lay h'.2] <;> rfl
end
omit [Tbs] in
mutual
theorem pdep_eq : ∀ {x : P}, plain x = true → (toD x).depth = pdep x
  | .non, _ => rfl
  | .bl _, _ => rfl
  | .int _, _ => rfl
  | .str cs, h => rfl
  | .lst xs, h => congrArg (· + 1) (pdeps_eq (xs := xs) h)
  | .tup xs, h => congrArg (· + 1) (pdeps_eq (xs := xs) h)
  | .ins _ _ _, h | .scr _, h | .ty _, h | .glo _, h | .dK _ _, h | .dT _ _, h => by cases h
theorem pdeps_eq : ∀ {xs : List P}, plains xs = true → PyData.depthAll (toDs xs) = pdeps xs
  | [], _ => rfl
  | x :: xs, h => by
    have h' : (plain x && plains xs) = true := h
    rw [Bool.and_eq_true] at h'
    show max (PyData.depth (toD x)) (PyData.depthAll (toDs xs)) = max (pdep x) (pdeps xs)
    rw [pdep_eq h'.1, pdeps_eq h'.2]
end
omit [Tbs] in
mutual
theorem peq_eqv : ∀ {x y : P}, plain x = true → plain y = true → PyData.eqv (toD x) (toD y) = peq x y
  | .ins _ _ _, _, h, _ | .scr _, _, h, _ | .ty _, _, h, _ | .glo _, _, h, _ | .dK _ _, _, h, _ | .dT _ _, _, h, _ => by cases h
  | .non, y, _, k => by cases y <;> first | rfl | cases k
  | .bl _, y, _, k => by cases y <;> first | rfl | cases k
  | .int _, y, _, k => by cases y <;> first | rfl | cases k
  | .str cs, y, _, k => by
    cases y <;> first | rfl | (cases k; done) | skip
    rename_i ds
    show (SX.S cs == SX.S ds) = decide (cs = ds)
    exact SX.S_beq_eq
  | .lst xs, y, h, k => by
    cases y <;> first | rfl | (cases k; done) | skip
    rename_i ys
    exact peqs_eqv (xs := xs) (ys := ys) h k
  | .tup xs, y, h, k => by
    cases y <;> first | rfl | (cases k; done) | skip
    rename_i ys
    exact peqs_eqv (xs := xs) (ys := ys) h k
theorem peqs_eqv : ∀ {xs ys : List P}, plains xs = true → plains ys = true → PyData.eqvAll (toDs xs) (toDs ys) = peqs xs ys
  | [], [], _, _ => rfl
  | [], _ :: _, _, _ => rfl
  | _ :: _, [], _, _ => rfl
  | x :: xs, y :: ys, h, k => by
    have h' : (plain x && plains xs) = true := h
    have k' : (plain y && plains ys) = true := k
    rw [Bool.and_eq_true] at h' k'
    show (PyData.eqv (toD x) (toD y) && PyData.eqvAll (toDs xs) (toDs ys)) = (peq x y && peqs xs ys)
    rw [peq_eqv h'.1 k'.1, peqs_eqv h'.2 k'.2]
end
section
variable {K : PySem.W.Frag} {F H : Hp}
mutual
theorem rep_dp : ∀ {x : P} {v : V}, plain x = true → Rep K x v F → Dp K F v (toD x)
  | .ins _ _ _, _, h, _ | .scr _, _, h, _ | .ty _, _, h, _ | .glo _, _, h, _ | .dK _ _, _, h, _ | .dT _ _, _, h, _ => by cases h
  | .non, _, _, r => by cases r; exact .non
  | .bl _, _, _, r => by cases r; exact .bl _
  | .int _, _, _, r => by cases r; exact .int _
  | .str cs, _, _, r => by cases r; exact .str _
  | .lst xs, _, h, ⟨a, vs, e, h1, h2⟩ => by rw [e]; exact .lst (SqL.of h1) (reps_dp (xs := xs) h h2)
  | .tup xs, _, h, ⟨a, vs, e, h1, h2⟩ => by rw [e]; exact .tup h1.sq (reps_dp (xs := xs) h h2)
theorem reps_dp : ∀ {xs : List P} {vs : List V}, plains xs = true → Reps K xs vs F → DpAll K F vs (toDs xs)
  | [], _, _, h => by cases h; exact .nil
  | x :: xs, _, h, ⟨v, ws, e, h1, h2⟩ => by
    have h' : (plain x && plains xs) = true := h
    rw [Bool.and_eq_true] at h'
    rw [e]
    exact .cons (rep_dp h'.1 h1) (reps_dp h'.2 h2)
end
theorem repw_dp {x : P} {v : V} (e : Ex F H) (h : plain x = true) (r : RepW K x v F H) : Dp K H v (toD x) := by
  cases x with
  | lst xs =>
    obtain ⟨a, vs, rfl, h1, h2⟩ := r
    exact .lst (SqL.of h1) (reps_dp (xs := xs) h (reps_up e h2))
  | non => exact rep_dp (F := H) h r
  | bl b => exact rep_dp (F := H) h r
  | int i => exact rep_dp (F := H) h r
  | str cs => exact rep_dp (F := H) h r
  | tup xs => exact rep_dp (F := H) h (rep_up (p := .tup xs) e r)
  | _ => cases h
theorem flat_w {p : P} {v : V} (hp : pflat p = true) (r : RepW K p v F H) : Rep K p v F := by
  cases p <;> first | exact r | cases hp
theorem flat_eqV {p q : P} {v w : V} (r : Rep K p v F) (s : Rep K q w F) (hp : pflat p = true) (hq : pflat q = true) : flatV v = true ∧ flatV w = true ∧ eqV v w = peq p q := by
  cases p <;> first | (cases hp; done) | skip
  all_goals cases q <;> first | (cases hq; done) | skip
  all_goals cases r
  all_goals cases s
  all_goals first | exact ⟨rfl, rfl, rfl⟩ | exact ⟨rfl, rfl, SX.S_beq_eq⟩
theorem flat_flatV {p : P} {v : V} (r : Rep K p v F) (hp : pflat p = true) : flatV v = true := by
  cases p <;> first | (cases hp; done) | skip
  all_goals cases r
  all_goals rfl
theorem flats_in {p : P} {v : V} (r : Rep K p v F) (hp : pflat p = true) : ∀ {xs : List P} {vs : List V}, Reps K xs vs F → xs.all pflat = true → vs.all flatV = true ∧ inV v vs = xs.any fun y => peq y p
  | [], _, h, _ => by cases h; exact ⟨rfl, rfl⟩
  | x :: xs, _, ⟨w, ws, e, h1, h2⟩, ha => by
    rw [List.all_cons, Bool.and_eq_true] at ha
    obtain ⟨k1, k2⟩ := flats_in r hp h2 ha.2
    obtain ⟨_, _, k3⟩ := flat_eqV h1 r ha.1 hp
    subst e
    refine ⟨by rw [List.all_cons, flat_flatV h1 ha.1, k1] <;> rfl, ?_⟩
    show (eqV w v || inV v ws) = (peq x p || _)
    rw [k2, k3] <;> rfl
theorem peq_scal {p q : P} {v w : V} (r : Rep K p v F) (s : Rep K q w F) (hp : pflat p = true) (hq : pflat q = true) : (scal v w = true ∧ decide (v = w) = peq p q) ∨ (plain p = true ∧ plain q = true ∧ pdep p = 0 ∧ pdep q = 0) := by
  cases p <;> first | (cases hp; done) | skip
  all_goals cases q <;> first | (cases hq; done) | skip
  all_goals cases r
  all_goals cases s
  all_goals first
    | exact .inr ⟨rfl, rfl, rfl, rfl⟩
    | exact .inl ⟨rfl, rfl⟩
    | (refine .inl ⟨rfl, ?_⟩; rw [dvs]; exact decide_eq_decide.mpr ⟨fun h => SX.S_inj h, fun h => congrArg SX.S h⟩)
    | exact .inl ⟨rfl, decide_eq_false (fun h => by cases h)⟩
theorem eq_go {p q : P} {v w : V} {Q : VK} (e : Ex F H) (r : RepW K p v F H) (s : RepW K q w F H) (h : okEq p q = true) (k : Q (.bl (peq p q)) H) : rEqq K v w H Q := by
  have dat : plain p = true → plain q = true → pdep p ≤ 64 → pdep q ≤ 64 → rEqq K v w H Q := fun h1 h2 h3 h4 =>
    eq_d (repw_dp e h1 r) (repw_dp e h2 s) (by unfold SeqAt.shaped; rw [plain_lay h1, pdep_eq h1, decide_eq_true h3]; rfl) (by unfold SeqAt.shaped; rw [plain_lay h2, pdep_eq h2, decide_eq_true h4]; rfl) (by rw [peq_eqv h1 h2]; exact k)
  unfold okEq at h
  rw [Bool.or_eq_true, Bool.and_eq_true, Bool.and_eq_true, Bool.and_eq_true, Bool.and_eq_true] at h
  rcases h with ⟨h1, h2⟩ | ⟨⟨⟨h1, h2⟩, h3⟩, h4⟩
  · rcases peq_scal (flat_w h1 r) (flat_w h2 s) h1 h2 with ⟨k1, k2⟩ | ⟨k1, k2, k3, k4⟩
    · exact eq_v k1 (by rw [k2]; exact k)
    · exact dat k1 k2 (by omega) (by omega)
  · exact dat h1 h2 (of_decide_eq_true h3) (of_decide_eq_true h4)
theorem ne_go {p q : P} {v w : V} {Q : VK} (e : Ex F H) (r : RepW K p v F H) (s : RepW K q w F H) (h : okEq p q = true) (k : Q (.bl (!peq p q)) H) : rNee K v w H Q := by
  have dat : plain p = true → plain q = true → pdep p ≤ 64 → pdep q ≤ 64 → rNee K v w H Q := fun h1 h2 h3 h4 =>
    ne_d (repw_dp e h1 r) (repw_dp e h2 s) (by unfold SeqAt.shaped; rw [plain_lay h1, pdep_eq h1, decide_eq_true h3]; rfl) (by unfold SeqAt.shaped; rw [plain_lay h2, pdep_eq h2, decide_eq_true h4]; rfl) (by rw [peq_eqv h1 h2]; exact k)
  unfold okEq at h
  rw [Bool.or_eq_true, Bool.and_eq_true, Bool.and_eq_true, Bool.and_eq_true, Bool.and_eq_true] at h
  rcases h with ⟨h1, h2⟩ | ⟨⟨⟨h1, h2⟩, h3⟩, h4⟩
  · rcases peq_scal (flat_w h1 r) (flat_w h2 s) h1 h2 with ⟨k1, k2⟩ | ⟨k1, k2, k3, k4⟩
    · exact ne_v k1 (by rw [k2]; exact k)
    · exact dat k1 k2 (by omega) (by omega)
  · exact dat h1 h2 (of_decide_eq_true h3) (of_decide_eq_true h4)
end
section
variable {C : Cc}
theorem r_eq : SndR C (rEqq C.K) fEq := .mk fun {F H Q x y p v w} e rx ry h k => by
  obtain ⟨h1, rfl⟩ := gd_some h
  exact eq_go e rx ry h1 (k (.bl _) F H (Ext.refl e) rfl)
theorem r_ne : SndR C (rNee C.K) fNe := .mk fun {F H Q x y p v w} e rx ry h k => by
  obtain ⟨h1, rfl⟩ := gd_some h
  exact ne_go e rx ry h1 (k (.bl _) F H (Ext.refl e) rfl)
omit [Tbs] in
/-- what in asks: a sign in a text, a flat thing in a list or a tuple -/
theorem inP_cases {x y : P} {b : Bool} (h : inP x y = some b) : (∃ c cs, x = .str [c] ∧ y = .str cs ∧ b = decide (c ∈ cs)) ∨
    (∃ xs, (y = .lst xs ∨ y = .tup xs) ∧ pflat x = true ∧ xs.all pflat = true ∧ b = xs.any fun y => peq y x) := by
  cases y with
  | str cs =>
    unfold inP at h
    split at h <;> first | (cases h; done) | skip
    · rename_i c cs' e1; cases e1; cases h; exact .inl ⟨c, _, rfl, rfl, rfl⟩
    · rename_i e; cases e
    · rename_i e; cases e
  | lst xs =>
    have h' : gd (pflat x = true ∧ xs.all pflat = true) (xs.any fun y => peq y x) = some b := by
      cases x <;> first | exact h | skip
      rename_i cs
      cases cs <;> first | exact h | skip
      rename_i c cs
      cases cs <;> exact h
    obtain ⟨⟨h1, h2⟩, h3⟩ := gd_some h'
    exact .inr ⟨xs, .inl rfl, h1, h2, h3.symm⟩
  | tup xs =>
    have h' : gd (pflat x = true ∧ xs.all pflat = true) (xs.any fun y => peq y x) = some b := by
      cases x <;> first | exact h | skip
      rename_i cs
      cases cs <;> first | exact h | skip
      rename_i c cs
      cases cs <;> exact h
    obtain ⟨⟨h1, h2⟩, h3⟩ := gd_some h'
    exact .inr ⟨xs, .inr rfl, h1, h2, h3.symm⟩
  | _ =>
    exfalso
    cases x <;> first | (cases h; done) | skip
    rename_i cs
    cases cs <;> first | (cases h; done) | skip
    rename_i c cs
    cases cs <;> cases h
theorem in_lt {F H : Hp} {x y : P} {v w : V} {xs : List P} {Q : VK} (neg : Bool) (e : Ex F H) (rx : RepW C.K x v F H) (ry : RepW C.K y w F H) (hy : y = .lst xs ∨ y = .tup xs) (hx : pflat x = true) (ha : xs.all pflat = true)
    (k : Q (.bl (if neg then !(xs.any fun y => peq y x) else xs.any fun y => peq y x)) H) : rIn C.K neg v w H Q := by
  have go : ∀ {a vs}, w = .ref a → (SqL C.K H a vs ∨ SqT C.K H a vs) → Reps C.K xs vs F → rIn C.K neg v w H Q := fun {a vs} e1 h1 h2 => by
    subst e1
    obtain ⟨k1, k2⟩ := flats_in (flat_w hx rx) hx h2 ha
    exact ⟨a, vs, rfl, h1, flat_flatV (flat_w hx rx) hx, k1, by rw [k2]; exact k⟩
  rcases hy with e1 | e1 <;> subst e1 <;> obtain ⟨a, vs, h0, h1, h2⟩ := ry
  · exact go h0 (.inl (SqL.of h1)) h2
  · exact go h0 (.inr (Ex.sqT e h1.sq)) h2
theorem r_in : SndR C (rInn C.K) fIn := .mk fun {F H Q x y p v w} e rx ry h k => by
  obtain ⟨b, h1, rfl⟩ := Option.map_eq_some_iff.mp h
  rcases inP_cases h1 with ⟨c, cs, rfl, rfl, rfl⟩ | ⟨xs, hy, hx, ha, rfl⟩
  · cases rx; cases ry; exact in_c (k (.bl _) F H (Ext.refl e) rfl)
  · exact .inr (in_lt false e rx ry hy hx ha (k (.bl _) F H (Ext.refl e) rfl))
theorem r_nin : SndR C (rNin C.K) fNin := .mk fun {F H Q x y p v w} e rx ry h k => by
  obtain ⟨b, h1, rfl⟩ := Option.map_eq_some_iff.mp h
  rcases inP_cases h1 with ⟨c, cs, rfl, rfl, rfl⟩ | ⟨xs, hy, hx, ha, rfl⟩
  · cases rx; cases ry; exact nin_c (k (.bl _) F H (Ext.refl e) rfl)
  · exact .inr (in_lt true e rx ry hy hx ha (k (.bl _) F H (Ext.refl e) rfl))
theorem atI_rep {K : PySem.W.Frag} {F : Hp} {xs : List P} {vs : List V} {i : Int} {p : P} (r : Reps K xs vs F) (e : atI xs i = some p) : ∃ v, atI vs i = some v ∧ Rep K p v F := by
  unfold atI at e ⊢
  rw [← reps_len r]
  cases h : ixN xs.length i with
  | none => rw [h] at e; cases e
  | some j =>
    rw [h] at e
    exact reps_get r e
theorem r_ix : SndR C (rIx C.K) fIx := .mk fun {F H Q x y p v w} e rx ry h k => by
  cases x <;> cases y <;> first | (cases h; done) | skip
  · cases rx; cases ry
    obtain ⟨_, h1, h2⟩ := Option.bind_eq_some_iff.mp h
    obtain ⟨c, e2, rfl⟩ := Option.map_eq_some_iff.mp h2
    exact ix_si (small (by rw [SX.S_len]; exact (gd_some h1).1)) e2 (k (.str (SX.S [c])) F H (Ext.refl e) rfl)
  · cases ry
    obtain ⟨a, vs, rfl, h3, h4⟩ := rx
    obtain ⟨u, e2, r⟩ := atI_rep h4 h
    exact ix_li h3 e2 (k u F H (Ext.refl e) r)
  · cases ry
    obtain ⟨a, vs, rfl, h3, h4⟩ := rx
    obtain ⟨u, e2, r⟩ := atI_rep h4 h
    exact .inr (.inl ⟨a, vs, _, u, rfl, rfl, Ex.sqT e h3.sq, e2, k u F H (Ext.refl e) r⟩)
theorem reps_cut {K : PySem.W.Frag} {F : Hp} {xs : List P} {vs : List V} {lo hi : Option Int} (r : Reps K xs vs F) : Reps K (cutL xs lo hi) (cutV vs lo hi) F := by
  unfold cutL cutV
  rw [← reps_len r]
  exact reps_take _ (reps_drop _ r)
omit [Tbs] in
theorem cut_S {cs : List Nat} {lo hi : Option Int} : cutS (SX.S cs) lo hi = SX.S (cutL cs lo hi) := by
  unfold cutS cutL
  rw [SX.S_len]
theorem r_cut : SndCut C (rSl C.K) fCut := .mk fun {F H Q x p v i j} e rx h k => by
  cases x <;> first | (cases h; done) | skip
  · cases rx
    obtain ⟨h1, rfl⟩ := gd_some h
    exact sl_s (small (by rw [SX.S_len]; exact h1)) (by rw [cut_S]; exact k (.str _) F H (Ext.refl e) rfl)
  · cases h
    obtain ⟨a, vs, rfl, h1, h2⟩ := rx
    exact sl_l (b := none) e bagI_none h1 fun p F' H' x' B' hp => k (.ref p) F' H' x' ⟨p, _, rfl, hp, reps_up x'.ff (reps_cut h2)⟩
  · cases h
    obtain ⟨a, rfl, h1⟩ := rx
    rename_i ns
    refine sl_lq (b := none) e bagI_none (Ex.sqL e h1) fun p F' H' x' B' hp => k (.ref p) F' H' x' ⟨p, _, rfl, hp, ?_⟩
    have e2 : cutV (ns.map V.int) i j = (cutL ns i j).map V.int := by
      unfold cutV cutL
      rw [List.length_map, List.map_take, List.map_drop]
    rw [e2]
    exact reps_ints _
theorem join_go {F H : Hp} {Q : VK} {a : List Nat} {ys : List (List Nat)} {p : Addr} (h : SqL C.K H p ((ys.map SX.S).map V.str) ∨ SqT C.K H p ((ys.map SX.S).map V.str)) (hz : (ys.map (·.length)).sum + ys.length * a.length ≤ 100000) (q : Q (.str (SX.S (TL.joinL a ys))) H) : rJoin C.K (.str (SX.S a)) [.ref p] H Q :=
  ⟨SX.S a, p, ys.map SX.S, rfl, rfl, h, by rw [SX.lens, List.length_map, SX.S_len]; omega, by rw [SX.join_S]; exact q⟩
/-- sep.join(list): the separator a text, whatever it is -/
theorem s_join {ta tb : TE} {a b : PEx} (ha : SndE C ta a) (hb : SndW C tb b) (hs : ∀ ρ x ρ', a ρ = .ok x ρ' → ∃ cs, x = .str cs) : SndE C (tM1 (rJoin C.K) ta tb) (pOp fJoin a b) := .mk fun {ρ σ F H Q Qp E} S h kx k => by
  refine ha S (Qp := fun x ρ1 => (∃ cs, x = .str cs) ∧ wp ((b ρ1).bind fun y ρ => ofO (fJoin x y) ρ) Qp E) ?_ kx fun x v ρ1 F1 H1 s1 rx ⟨⟨cs, e⟩, h⟩ => ?_
  · have h' := wp_b h
    cases hq : a ρ with
    | bad => rw [hq] at h'; exact h'
    | ok x ρ1 => rw [hq] at h'; exact ⟨hs _ _ _ hq, h'⟩
    | ex e ρ1 => rw [hq] at h'; exact h'
  subst e
  refine ⟨⟨_, rx⟩, hb s1.st (wp_b h) (kx.to s1) fun y w ρ2 F2 H2 s2 ry h => ?_⟩
  obtain ⟨p, e, h9⟩ := wp_o h
  cases rx
  cases y <;> first | (cases e; done) | skip
  · obtain ⟨ys, e1, e2⟩ := Option.bind_eq_some_iff.mp e
    obtain ⟨hz, rfl⟩ := gd_some e2
    cases strsOf_some e1
    obtain ⟨q, vs, rfl, h1, h2⟩ := ry
    rw [reps_str h2] at h1
    exact join_go (F := F2) (.inl (SqL.of h1)) hz (k (.str _) _ ρ2 F2 H2 (s1.trans s2) rfl h9)
  · obtain ⟨ys, e1, e2⟩ := Option.bind_eq_some_iff.mp e
    obtain ⟨hz, rfl⟩ := gd_some e2
    cases strsOf_some e1
    obtain ⟨q, vs, rfl, h1, h2⟩ := ry
    rw [reps_str h2] at h1
    exact join_go (F := F2) (.inr (Ex.sqT s2.x.fh h1.sq)) hz (k (.str _) _ ρ2 F2 H2 (s1.trans s2) rfl h9)
theorem repsW1 {K : PySem.W.Frag} {xs : List P} {vs : List V} {F H : Hp} {x : P} (r : RepsW K [x] vs F H) : ∃ v, vs = [v] ∧ RepW K x v F H := by
  obtain ⟨v, ws, rfl, h, h2⟩ := r
  cases h2
  exact ⟨v, rfl, h⟩
omit [Tbs] in
/-- a function of one value -/
theorem one_of {xs : List P} {f : P → Option P} {g : FLp} (hg : ∀ x, g [x] = f x) (h0 : g [] = none) (h2 : ∀ x y r, g (x :: y :: r) = none) {p : P} (h : g xs = some p) : ∃ x, xs = [x] ∧ f x = some p := by
  match xs, h with
  | [], h => rw [h0] at h; cases h
  | [x], h => exact ⟨x, rfl, by rw [← hg]; exact h⟩
  | x :: y :: r, h => rw [h2] at h; cases h
theorem r_len : SndL C (PX.rLen C.K) fLen := .mk fun {F H Q xs p vs} e rs h k => by
  obtain ⟨x, rfl, h⟩ := one_of (f := fun x => fLen [x]) (fun _ => rfl) rfl (fun x y r => by cases x <;> rfl) h
  obtain ⟨v, rfl, r⟩ := repsW1 (xs := []) rs
  cases x <;> first | (cases h; done) | skip
  · cases r
    obtain ⟨h1, rfl⟩ := gd_some h
    exact len_S h1 (k (.int _) F H (Ext.refl e) rfl)
  · cases h
    obtain ⟨a, us, rfl, h1, h3⟩ := r
    exact len_l h1 (by rw [← reps_len h3]; exact k (.int _) F H (Ext.refl e) rfl)
  · cases h
    obtain ⟨a, us, rfl, h1, h3⟩ := r
    exact len_tq (Ex.sqT e h1.sq) (by rw [← reps_len h3]; exact k (.int _) F H (Ext.refl e) rfl)
  · cases h
    obtain ⟨a, rfl, h1⟩ := r
    exact len_lq (Ex.sqL e h1) (by rw [List.length_map]; exact k (.int _) F H (Ext.refl e) rfl)
theorem r_intOf : SndL C rInt1 fIntOf := .mk fun {F H Q xs p vs} e rs h k => by
  obtain ⟨x, rfl, h⟩ := one_of (f := fun x => fIntOf [x]) (fun _ => rfl) rfl (fun x y r => by cases x <;> rfl) h
  obtain ⟨v, rfl, r⟩ := repsW1 (xs := []) rs
  cases x <;> first | (cases h; done) | skip
  · cases r; cases h
    exact .inr ⟨_, rfl, k (.int _) F H (Ext.refl e) rfl⟩
  · cases r; cases h
    exact int_i (k (.int _) F H (Ext.refl e) rfl)
theorem r_all : SndL C (rAll C.K) fAll := .mk fun {F H Q xs p vs} e rs h k => by
  obtain ⟨x, rfl, h⟩ := one_of (f := fun x => fAll [x]) (fun _ => rfl) rfl (fun x y r => by cases x <;> rfl) h
  obtain ⟨v, rfl, r⟩ := repsW1 (xs := []) rs
  cases x <;> first | (cases h; done) | skip
  obtain ⟨bs, h1, rfl⟩ := Option.map_eq_some_iff.mp h
  cases blsOf_some h1
  obtain ⟨a, us, rfl, h1, h3⟩ := r
  rw [reps_bl h3] at h1
  exact all_go h1 (k (.bl _) F H (Ext.refl e) rfl)
theorem r_any : SndL C (rAny C.K) fAny := .mk fun {F H Q xs p vs} e rs h k => by
  obtain ⟨x, rfl, h⟩ := one_of (f := fun x => fAny [x]) (fun _ => rfl) rfl (fun x y r => by cases x <;> rfl) h
  obtain ⟨v, rfl, r⟩ := repsW1 (xs := []) rs
  cases x <;> first | (cases h; done) | skip
  obtain ⟨bs, h1, rfl⟩ := Option.map_eq_some_iff.mp h
  cases blsOf_some h1
  obtain ⟨a, us, rfl, h1, h3⟩ := r
  rw [reps_bl h3] at h1
  exact any_go h1 (k (.bl _) F H (Ext.refl e) rfl)
theorem r_sum : SndL C (rSum C.K) fSum := .mk fun {F H Q xs p vs} e rs h k => by
  obtain ⟨x, rfl, h⟩ := one_of (f := fun x => fSum [x]) (fun _ => rfl) rfl (fun x y r => by cases x <;> rfl) h
  obtain ⟨v, rfl, r⟩ := repsW1 (xs := []) rs
  cases x <;> first | (cases h; done) | skip
  obtain ⟨bs, h1, rfl⟩ := Option.map_eq_some_iff.mp h
  cases intsOf_some h1
  obtain ⟨a, us, rfl, h1, h3⟩ := r
  rw [reps_int h3] at h1
  exact ⟨a, bs, rfl, SqL.of h1, k (.int _) F H (Ext.refl e) rfl⟩
omit [Tbs] in
theorem maxI_ge : ∀ {ns : List Int} {y : Int}, y ∈ ns → y ≤ maxI ns
  | [a], y, h => by rw [List.mem_singleton.mp h]; exact Int.le_refl _
  | a :: b :: r, y, h => by
    have ih : ∀ z, z ∈ b :: r → z ≤ maxI (b :: r) := fun z hz => maxI_ge hz
    unfold maxI
    split
    · rename_i c
      rcases List.mem_cons.mp h with e | e
      · omega
      · have := ih y e; omega
    · rename_i c
      rcases List.mem_cons.mp h with e | e
      · omega
      · exact ih y e
omit [Tbs] in
theorem maxI_mem : ∀ {ns : List Int}, 0 < ns.length → maxI ns ∈ ns
  | [a], _ => List.mem_singleton.mpr rfl
  | a :: b :: r, _ => by
    have ih : maxI (b :: r) ∈ b :: r := maxI_mem (by simp)
    unfold maxI
    split
    · exact List.mem_cons_self ..
    · exact List.mem_cons_of_mem _ ih
omit [Tbs] in
theorem minI_le : ∀ {ns : List Int} {y : Int}, y ∈ ns → minI ns ≤ y
  | [a], y, h => by rw [List.mem_singleton.mp h]; exact Int.le_refl _
  | a :: b :: r, y, h => by
    have ih : ∀ z, z ∈ b :: r → minI (b :: r) ≤ z := fun z hz => minI_le hz
    unfold minI
    split
    · rename_i c
      rcases List.mem_cons.mp h with e | e
      · omega
      · have := ih y e; omega
    · rename_i c
      rcases List.mem_cons.mp h with e | e
      · omega
      · exact ih y e
omit [Tbs] in
theorem minI_mem : ∀ {ns : List Int}, 0 < ns.length → minI ns ∈ ns
  | [a], _ => List.mem_singleton.mpr rfl
  | a :: b :: r, _ => by
    have ih : minI (b :: r) ∈ b :: r := minI_mem (by simp)
    unfold minI
    split
    · exact List.mem_cons_self ..
    · exact List.mem_cons_of_mem _ ih
theorem r_max : SndL C (rMax C.K) fMax := .mk fun {F H Q xs p vs} e rs h k => by
  obtain ⟨x, rfl, h⟩ := one_of (f := fun x => fMax [x]) (fun _ => rfl) rfl (fun x y r => by cases x <;> rfl) h
  obtain ⟨v, rfl, r⟩ := repsW1 (xs := []) rs
  cases x <;> first | (cases h; done) | skip
  obtain ⟨bs, h1, h2⟩ := Option.bind_eq_some_iff.mp h
  obtain ⟨h0, rfl⟩ := gd_some h2
  cases intsOf_some h1
  obtain ⟨a, us, rfl, h1, h3⟩ := r
  rw [reps_int h3] at h1
  refine ⟨a, bs, rfl, SqL.of h1, h0, fun m hm hy => ?_⟩
  have e1 : m = maxI bs := Int.le_antisymm (maxI_ge hm) (hy _ (maxI_mem h0))
  rw [e1]
  exact k (.int _) F H (Ext.refl e) rfl
theorem r_min : SndL C (rMin C.K) fMin := .mk fun {F H Q xs p vs} e rs h k => by
  obtain ⟨x, rfl, h⟩ := one_of (f := fun x => fMin [x]) (fun _ => rfl) rfl (fun x y r => by cases x <;> rfl) h
  obtain ⟨v, rfl, r⟩ := repsW1 (xs := []) rs
  cases x <;> first | (cases h; done) | skip
  obtain ⟨bs, h1, h2⟩ := Option.bind_eq_some_iff.mp h
  obtain ⟨h0, rfl⟩ := gd_some h2
  cases intsOf_some h1
  obtain ⟨a, us, rfl, h1, h3⟩ := r
  rw [reps_int h3] at h1
  refine ⟨a, bs, rfl, SqL.of h1, h0, fun m hm hy => ?_⟩
  have e1 : m = minI bs := Int.le_antisymm (hy _ (minI_mem h0)) (minI_le hm)
  rw [e1]
  exact k (.int _) F H (Ext.refl e) rfl
theorem r_tupOf : SndL C (rToT C.K) fTupOf := .mk fun {F H Q xs p vs} e rs h k => by
  obtain ⟨x, rfl, h⟩ := one_of (f := fun x => fTupOf [x]) (fun _ => rfl) rfl (fun x y r => by cases x <;> rfl) h
  obtain ⟨v, rfl, r⟩ := repsW1 (xs := []) rs
  cases x <;> first | (cases h; done) | skip
  · cases h
    obtain ⟨a, us, rfl, h1, h3⟩ := r
    exact ⟨a, us, rfl, .inl ⟨SqL.of h1, fun l hl => have x2 := Ext.lay (b := none) (o := .tup us) e hl; k _ _ _ x2 ⟨l, us, rfl, .inl upd_same, reps_up x2.ff h3⟩⟩⟩
  · cases h
    obtain ⟨a, us, rfl, h1, h3⟩ := r
    exact ⟨a, us, rfl, .inr ⟨Ex.sqT e h1.sq, k _ F H (Ext.refl e) ⟨a, us, rfl, h1, h3⟩⟩⟩
theorem rep_ty {K : PySem.W.Frag} {p : P} {v : V} {F H : Hp} (e : Ex F H) (r : RepW K p v F H) (hk : kindP p ≠ "") : TyX K H v (.type (kindP p)) := by
  cases p with
  | non => cases r; exact .base .non
  | bl b => cases r; exact .base (.bl b)
  | int i => cases r; exact .base (.int i)
  | str x => cases r; exact .base (.str _)
  | lst xs => obtain ⟨a, vs, rfl, h1, h2⟩ := r; exact .base (.lst h1)
  | tup xs =>
    obtain ⟨a, vs, rfl, h1, h2⟩ := r
    rcases Ex.sqT e h1.sq with (h | ⟨o, h⟩) | ⟨o, its, n, hk, hc, _⟩
    · exact .base (.tup h)
    · exact .fTuple h
    · exact .kTuple hk hc
  | _ => exact absurd rfl hk
omit [Tbs] in
theorem kind_six {p : P} (hk : kindP p ≠ "") : kindP p = "NoneType" ∨ kindP p = "bool" ∨ kindP p = "int" ∨ kindP p = "str" ∨ kindP p = "list" ∨ kindP p = "tuple" := by
  cases p <;> first | exact absurd rfl hk | simp [kindP]
omit [Tbs] in
theorem okTy_five {T : String} (h : okTy T = true) : T = "bool" ∨ T = "int" ∨ T = "str" ∨ T = "list" ∨ T = "tuple" := by
  unfold okTy at h
  simp only [Bool.or_eq_true, beq_iff_eq] at h
  rcases h with (((h | h) | h) | h) | h <;> simp [h]
omit [Tbs] in
theorem kit_p {K : PySem.W.Frag} {p : P} {T : String} (hk : kindP p ≠ "") (hT : okTy T = true) : PySem.W.kitOne K (.type (kindP p)) (.type T) = some (isP T p) := by
  unfold isP
  rcases kind_six hk with e | e | e | e | e | e <;> rw [e] <;> rcases okTy_five hT with e2 | e2 | e2 | e2 | e2 <;> subst e2 <;> exact kit_ty (by decide +kernel)
omit [Tbs] in
theorem two_of {xs : List P} {g : FLp} (h0 : g [] = none) (h1 : ∀ x, g [x] = none) (h2 : ∀ x y z r, g (x :: y :: z :: r) = none) {p : P} (h : g xs = some p) : ∃ x y, xs = [x, y] := by
  cases xs with
  | nil => rw [h0] at h; cases h
  | cons x xs =>
    cases xs with
    | nil => rw [h1] at h; cases h
    | cons y xs =>
      cases xs with
      | nil => exact ⟨x, y, rfl⟩
      | cons z xs => rw [h2] at h; cases h
theorem r_isi : SndL C (rIsi C.K) fIsi := .mk fun {F H Q xs p vs} e rs h k => by
  obtain ⟨x, y, rfl⟩ := two_of rfl (fun x => rfl) (fun x y z r => by cases y <;> rfl) h
  cases y <;> first | (cases h; done) | skip
  rename_i T
  obtain ⟨⟨h1, h2⟩, rfl⟩ := gd_some h
  obtain ⟨v, ws, rfl, rx, w, us, rfl, ry, rn⟩ := rs
  cases ry; cases rn
  exact ⟨v, .ty T, _, _, _, rfl, .ty T, rep_ty e rx h1, kit_p h1 h2, k (.bl _) F H (Ext.refl e) rfl⟩
/-- isinstance(x, (S, T)) -/
def fIsi2 (S T : String) (x : P) : Option P := gd (kindP x ≠ "" ∧ okTy S = true ∧ okTy T = true) (.bl (isP S x || isP T x))
def pIsi2 (S T : String) (a : PEx) : PEx := fun ρ => (a ρ).bind fun x ρ => ofO (fIsi2 S T x) ρ
omit [Tbs] in
theorem kit_p2 {K : PySem.W.Frag} {p : P} {S T : String} (hk : kindP p ≠ "") (hS : okTy S = true) (hT : okTy T = true) : PySem.W.kitAny K (.type (kindP p)) [.type S, .type T] = some (isP S p || isP T p) := by
  refine kitAny_cons (kit_p hk hS) (fun e => ?_) (fun e => by rw [e]; rfl)
  rw [e, Bool.false_or]
  refine kitAny_cons (kit_p hk hT) (fun e => ?_) (fun e => e)
  rw [e]
  rfl
theorem s_isi2 {ta : TE} {a : PEx} {S T : String} (ha : SndE C ta a) : SndE C (tCB (rIsiT C.K) (tCons ta (tCons (tTup (tCons (tC (.ty S)) (tCons (tC (.ty T)) tNil))) tNil))) (pIsi2 S T a) := .mk fun St h kx k =>
  ha St (wp_b h) kx fun x v ρ1 F1 H1 s1 rx h => by
    obtain ⟨p, e, h⟩ := wp_o h
    obtain ⟨⟨h1, h2, h3⟩, rfl⟩ := gd_some e
    refine ⟨sz rfl, fun tp htp => ?_⟩
    have s2 := Stp.lay (o := .tup [.ty S, .ty T]) s1.st htp
    exact ⟨v, tp, [.ty S, .ty T], _, [.type S, .type T], _, rfl, upd_same, .cons (.ty S) (.cons (.ty T) .nil), rep_ty s2.x.fh ((rep_up s2.x.ff rx).w s2.x.fh) h1, kit_p2 h1 h2 h3, k (.bl _) _ _ _ _ (s1.trans s2) rfl h⟩
end
end FX

/-! fresh objects, what is walked, targets, comprehensions -/
namespace FX
open PySem PySem.Spec PyProof.Rows L2 RZ PX
variable [Tbs]
/-! ### a walk over a list, a tuple or a text, whichever it is -/
def WD (K : PySem.W.Frag) (R : It → Hp → Prop) (x : V) (H : Hp) : Prop := WL K R x H ∨ WT K R x H ∨ WS R x H
def iDyn (K : PySem.W.Frag) (tl : TE) : TI := fun σ H R => tl σ H (WD K R)
omit [Tbs] in
theorem pi_dyn (K : PySem.W.Frag) {X : Cx} {tg l : Expr} {tl : TE} (hl : PE X l tl) (hK : X.K = K := by rfl) : PI X tg l (iDyn K tl) := ⟨fun pins s σ H R I h => thn (hl.run pins s σ H _ I h) fun v s1 ⟨y, H1, J, ry, hd⟩ => by
  subst hK
  rcases hd with ⟨a, rfl, ⟨xs, hx⟩, q⟩ | ⟨a, rfl, ⟨xs, hx⟩, q⟩ | ⟨z, rfl, q⟩
  · cases ry
    obtain ⟨its, rv, p, _⟩ := J.list hx
    exact wpAny_pyIter_list p.isList (pi_one (tk := s1.toks) J _ (turn_list a _) ⟨_, Heap.get?_push_size _ rfl, rfl, rfl⟩ q)
  · cases ry
    obtain ⟨its, rv, p, _⟩ := J.tuple hx
    exact wpAny_pyIter_tuple (show s1.heap.IsTuple a its.toArray from p) (pi_one (tk := s1.toks) J _ (turn_tuple a _) ⟨_, Heap.get?_push_size _ rfl, rfl, rfl⟩ q)
  · obtain ⟨t, rfl⟩ := ry
    cases e : z.cps.all (· < 128) with
    | false => exact wpAny_pyIter_wide e (pi_one (tk := s1.toks) J _ (turn_str _ z t "str_iterator" (.inr rfl)) ⟨_, Heap.get?_push_size _ rfl, rfl, rfl⟩ q)
    | true => exact wpAny_pyIter_ascii e (pi_one (tk := s1.toks) J _ (turn_str _ z t "str_ascii_iterator" (.inl rfl)) ⟨_, Heap.get?_push_size _ rfl, rfl, rfl⟩ q)⟩
/-! ### fresh objects -/
abbrev PNx := Ro → R PO
structure SndN (C : Cc) (t : TE) (e : PNx) : Prop where
  run : ∀ {ρ : Ro} {σ : L2.St} {F H : Hp} {Q : VK} {Qp : PO → Ro → Prop} {E : EP}, Stt C ρ σ F H → wp (e ρ) Qp E → XOe C σ ρ F H E →
    (∀ o a h ρ' F' H', Stp C σ ρ F H ρ' F' H' → H a = none → F' a = none → H' a = some h → RepO C.K o h F' → Qp o ρ' → Q (.ref a) H') → t σ H Q
instance (C : Cc) (t : TE) (e : PNx) : CoeFun (SndN C t e) (fun _ => ∀ {ρ : Ro} {σ : L2.St} {F H : Hp} {Q : VK} {Qp : PO → Ro → Prop} {E : EP}, Stt C ρ σ F H → wp (e ρ) Qp E → XOe C σ ρ F H E →
    (∀ o a h ρ' F' H', Stp C σ ρ F H ρ' F' H' → H a = none → F' a = none → H' a = some h → RepO C.K o h F' → Qp o ρ' → Q (.ref a) H') → t σ H Q) := ⟨SndN.run⟩
def pFz (n : PNx) : PEx := fun ρ => (n ρ).bind fun o ρ => .ok o.val ρ
section
variable {C : Cc} {ρ ρ' : Ro} {σ : L2.St} {F H F' H' : Hp} {a : Addr} {h : HO}
theorem Stt.noOwn (S : Stt C ρ σ F H) (n : H a = none) : ¬ OwnAt ρ σ a := fun z => by
  have := (S.ownAt z).2.1
  rw [n] at this; cases this
/-- what is no slot's object is frozen -/
theorem Stt.frzAt (S : Stt C ρ σ F H) (n0 : C.H0 a = none) (nF : F a = none) (e : H a = some h) (no : ¬ OwnAt ρ σ a) : Stt C ρ σ (upd F a h) H := by
  refine ⟨⟨S.x.ff.trans (Ex.new nF), fun b v hb => ?_, S.x.hh, S.x.bb, fun b n k => ?_, fun t => (S.x.tk t).up (Ex.new nF)⟩, S.len, fun j s hj => ?_, S.dis⟩
  · by_cases hba : b = a
    · rw [hba, upd_same] at hb
      cases hb
      rw [hba]; exact e
    · rw [upd_ne hba] at hb; exact S.x.fh b v hb
  · rw [upd_ne]
    · exact S.x.nw b n k
    · rintro rfl
      rw [n0] at k; cases k
  · obtain ⟨o, h1, h2⟩ := S.at_ j s hj
    refine ⟨o, h1, ?_⟩
    match s, hj, h2 with
    | .un, _, h2 => exact h2
    | .val p, _, ⟨v, e2, r2⟩ => exact ⟨v, e2, rep_up (Ex.new nF) r2⟩
    | .loc q0, hj, ⟨c, ho, g1, g2, g3, g4, g5⟩ =>
      subst g1
      exact ⟨c, ho, rfl, g2, by rw [upd_ne (fun z => no ⟨j, _, q0, hj, rfl, by rw [← z]; exact h1⟩)]; exact g3, g4, repO_up (Ex.new nF) g5⟩
    | .io q0, hj, ⟨c, ho, g1, g2, g3, g4, g5⟩ =>
      subst g1
      exact ⟨c, ho, rfl, g2, by rw [upd_ne (fun z => no ⟨j, _, q0, hj, rfl, by rw [← z]; exact h1⟩)]; exact g3, g4, repO_up (Ex.new nF) g5⟩
theorem Stp.frz (S : Stt C ρ σ F H) (s : Stp C σ ρ F H ρ' F' H') (n : H a = none) (nF : F' a = none) (e : H' a = some h) : Stp C σ ρ F H ρ' (upd F' a h) H' := by
  have no : ¬ OwnAt ρ' σ a := fun z => S.noOwn n (s.ow a z)
  refine ⟨s.st.frzAt (S.x.back n) nF e no, ⟨s.x.ff.trans (Ex.new nF), (s.st.frzAt (S.x.back n) nF e no).x.fh, s.x.hh, s.x.bb, fun b n1 k => ?_, fun t => (s.x.tk t).up (Ex.new nF)⟩, s.ow⟩
  rw [upd_ne]
  · exact s.x.nw b n1 k
  · rintro rfl
    rw [n] at k; cases k
/-- what is no slot's object changes -/
theorem Stt.updAt {h1 : HO} (S : Stt C ρ σ F H) (n0 : C.H0 a = none) (nF : F a = none) (no : ¬ OwnAt ρ σ a) (e1 : H a = some h1) (t1 : ∀ ps, h1 ≠ .tbl ps) (t2 : ∀ f, h1 ≠ .ext f) : Stt C ρ σ F (upd H a h) := by
  refine ⟨⟨S.x.ff, fun b v hb => ?_, fun b o nb g hb => ?_, fun b k => ?_, S.x.nw, fun t => tabs_upd (S.x.tk t) e1 t1 t2⟩, S.len, fun j s hj => ?_, S.dis⟩
  · rw [upd_ne (ne_of_none hb nF)]; exact S.x.fh b v hb
  · rw [upd_ne (ne_of_none hb n0)]; exact S.x.hh b o nb g hb
  · by_cases hb : b = a
    · rw [hb, upd_same]; rfl
    · rw [upd_ne hb]; exact S.x.bb b k
  · obtain ⟨o, h1, h2⟩ := S.at_ j s hj
    refine ⟨o, h1, ?_⟩
    match s, hj, h2 with
    | .un, _, h2 => exact h2
    | .val p, _, h2 => exact h2
    | .loc q0, hj, ⟨c, ho, g1, g2, g3, g4, g5⟩ =>
      subst g1
      exact ⟨c, ho, rfl, g2, g3, by rw [upd_ne (fun z => no ⟨j, _, q0, hj, rfl, by rw [← z]; exact h1⟩)]; exact g4, g5⟩
    | .io q0, hj, ⟨c, ho, g1, g2, g3, g4, g5⟩ =>
      subst g1
      exact ⟨c, ho, rfl, g2, g3, by rw [upd_ne (fun z => no ⟨j, _, q0, hj, rfl, by rw [← z]; exact h1⟩)]; exact g4, g5⟩
end
section
variable {C : Cc} {ta tb : TE} {a b : PEx} {t u : TA} {x y : PAx} {tt : TT} {m : PTx} {n : PNx}
theorem s_fz (h : SndN C ta n) : SndE C ta (pFz n) := .mk fun S w kx k => h S (wp_b w) kx fun o a ho ρ' F' H' s n0 nF e r q => k o.val (.ref a) ρ' _ H' (Stp.frz S s n0 nF e) (repO_val r nF) q
def nLst (x : PAx) : PNx := fun ρ => (x ρ).bind fun xs ρ => ofO (gd (xs.length ≤ 100000) (.lst xs)) ρ
theorem n_lst (hx : SndA C t x) : SndN C (tLst t) (nLst x) := .mk fun {ρ σ F H Q Qp E} S h kx k => hx S (wp_b h) kx fun ps vs ρ1 F1 H1 s1 rs h => by
  obtain ⟨q, e, h⟩ := wp_o h
  obtain ⟨hz, rfl⟩ := gd_some e
  refine ⟨small (by rw [← reps_len rs]; exact hz), fun p hp => ?_⟩
  exact k (.lst ps) p _ ρ1 F1 _ (s1.trans (Stp.own s1.st hp)) (s1.x.back hp) (Same.free s1.x.fh hp) upd_same ⟨vs, rfl, rs⟩ h
/-- list(x) -/
def nListOf (a : PEx) : PNx := fun ρ => (a ρ).bind fun x ρ => ofO (match x with
  | .lst xs => some (.lst xs)
  | .tup xs => some (.lst xs)
  | .scr xs => some (.lst (xs.map P.int))
  | _ => none) ρ
theorem n_listOf (ha : SndW C ta a) : SndN C (tCB (rToL C.K) (tCons ta tNil)) (nListOf a) := .mk fun {ρ σ F H Q Qp E} S h kx k => ha S (wp_b h) kx fun x v ρ1 F1 H1 s1 r h => by
  obtain ⟨q, e, h⟩ := wp_o h
  have go : ∀ {us xs}, RepO C.K (.lst xs) (.lst us) F1 → q = .lst xs → ∀ l, H1 l = none → Q (.ref l) (upd H1 l (.lst us)) := fun {us xs} ro eq l hl => by
    subst eq
    exact k (.lst xs) l _ ρ1 F1 _ (s1.trans (Stp.own s1.st hl)) (s1.x.back hl) (Same.free s1.x.fh hl) upd_same ro h
  cases x <;> first | (cases e; done) | skip
  · cases e
    obtain ⟨c, us, rfl, h1, h3⟩ := r
    exact ⟨c, us, rfl, .inl (SqL.of h1), go ⟨us, rfl, h3⟩ rfl⟩
  · cases e
    obtain ⟨c, us, rfl, h1, h3⟩ := r
    exact ⟨c, us, rfl, .inr (Ex.sqT s1.x.fh h1.sq), go ⟨us, rfl, h3⟩ rfl⟩
  · cases e
    obtain ⟨c, rfl, h1⟩ := r
    exact ⟨c, _, rfl, .inl (Ex.sqL s1.x.fh h1), go ⟨_, rfl, reps_ints _⟩ rfl⟩
/-- sorted(x) -/
def nSort (a : PEx) : PNx := fun ρ => (a ρ).bind fun x ρ => ofO (match x with
  | .lst xs => (strsOf xs).bind fun zs => gd (zs.length < 64) (.lst ((sortB leT zs).map P.str))
  | _ => none) ρ
theorem n_sortT (ha : SndW C ta a) : SndN C (tCB (rSortedS C.K) (tCons ta tNil)) (nSort a) := .mk fun {ρ σ F H Q Qp E} S h kx k => ha S (wp_b h) kx fun x v ρ1 F1 H1 s1 r h => by
  obtain ⟨q, e, h9⟩ := wp_o h
  cases x <;> first | (cases e; done) | skip
  obtain ⟨zs, e1, e2⟩ := Option.bind_eq_some_iff.mp e
  obtain ⟨hz, rfl⟩ := gd_some e2
  cases strsOf_some e1
  obtain ⟨c, us, rfl, h1, h3⟩ := r
  rw [reps_str h3] at h1
  refine ⟨c, zs.map SX.S, rfl, SqL.of h1, by rw [List.length_map]; exact hz, fun ys p hp hs hf => ?_⟩
  obtain ⟨zs', rfl⟩ : ∃ zs' : List (List Nat), ys = zs'.map SX.S := ⟨ys.map fun s => s.cps.toList, by
    rw [List.map_map]
    exact ((List.map_congr_left fun s _ => SX.S_tl s).trans (List.map_id ys)).symm⟩
  have pm := hp.map fun s : Str => s.cps.toList
  rw [List.map_map, List.map_map, show zs'.map ((fun s : Str => s.cps.toList) ∘ SX.S) = zs' from (List.map_congr_left fun _ _ => rfl).trans (List.map_id zs'), show zs.map ((fun s : Str => s.cps.toList) ∘ SX.S) = zs from (List.map_congr_left fun _ _ => rfl).trans (List.map_id zs)] at pm
  rw [sortT_uniq pm (sortedS_pw hs)]
  exact k (.lst _) p _ ρ1 F1 _ (s1.trans (Stp.own s1.st hf)) (s1.x.back hf) (Same.free s1.x.fh hf) upd_same ⟨_, rfl, reps_strs _⟩ h9
end
/-! ### what is walked: its items -/
abbrev PIx := Ro → R (List P)
def WkP (K : PySem.W.Frag) (F H : Hp) (J : It) (xs : List P) : Prop := Wk none F H J xs.length fun i v F2 => ∃ x, xs[i]? = some x ∧ Rep K x v F2
structure SndI (C : Cc) (t : TI) (e : PIx) : Prop where
  run : ∀ {ρ : Ro} {σ : L2.St} {F H : Hp} {Q : It → Hp → Prop} {Qp : List P → Ro → Prop} {E : EP}, Stt C ρ σ F H → wp (e ρ) Qp E → XOe C σ ρ F H E → (∀ xs J ρ' F' H', Stp C σ ρ F H ρ' F' H' → WkP C.K F' H' J xs → Qp xs ρ' → Q J H') → t σ H Q
instance (C : Cc) (t : TI) (e : PIx) : CoeFun (SndI C t e) (fun _ => ∀ {ρ : Ro} {σ : L2.St} {F H : Hp} {Q : It → Hp → Prop} {Qp : List P → Ro → Prop} {E : EP}, Stt C ρ σ F H → wp (e ρ) Qp E → XOe C σ ρ F H E → (∀ xs J ρ' F' H', Stp C σ ρ F H ρ' F' H' → WkP C.K F' H' J xs → Qp xs ρ' → Q J H') → t σ H Q) := ⟨SndI.run⟩
omit [Tbs] in
theorem wk_conv {F H : Hp} {J : It} {n m : Nat} {A B : Nat → V → Hp → Prop} (w : Wk none F H J n A) (e : n = m) (h : ∀ i v F2, i < n → Ex F F2 → A i v F2 → B i v F2) : Wk none F H J m B := by
  subst e
  exact ⟨w.goes, w.stops, fun i F1 H1 v H2 hi x y => by
    obtain ⟨F2, x2, a⟩ := w.yields i F1 H1 v H2 hi x y
    exact ⟨F2, x2, h i v F2 hi (x.ff.trans x2.ff) a⟩⟩
omit [Tbs] in
/-- the items of a value that is walked -/
def itemsP : P → Option (List P)
  | .lst xs => some xs
  | .tup xs => some xs
  | .str cs => some (cs.map fun c => .str [c])
  | _ => none
def iVal (a : PEx) : PIx := fun ρ => (a ρ).bind fun x ρ => ofO (itemsP x) ρ
def enumP (n : Nat) : List P → List P
  | [] => []
  | x :: xs => .tup [.int (n : Nat), x] :: enumP (n + 1) xs
def enuP : P → Option (List P)
  | .lst xs => some (enumP 0 xs)
  | .tup xs => some (enumP 0 xs)
  | _ => none
def iEnu (a : PEx) : PIx := fun ρ => (a ρ).bind fun x ρ => ofO (enuP x) ρ
def zipP : List P → List P → List P
  | x :: xs, y :: ys => .tup [x, y] :: zipP xs ys
  | _, _ => []
def zipV : P → P → Option (List P)
  | .lst xs, .lst ys => some (zipP xs ys)
  | .tup xs, .tup ys => some (zipP xs ys)
  | _, _ => none
def iZi (a b : PEx) : PIx := fun ρ => (a ρ).bind fun x ρ => (b ρ).bind fun y ρ => ofO (zipV x y) ρ
def rangeP (lo : Int) (n : Nat) : List P := (List.range n).map fun k => .int (lo + (k : Nat))
def rangeN (n : Nat) : List P := (List.range n).map fun k => .int (k : Nat)
omit [Tbs] in
theorem rangeN_eq (n : Nat) : rangeP 0 n = rangeN n := List.map_congr_left fun k _ => by rw [Int.zero_add]
def iRg1 (a : PEx) : PIx := fun ρ => (a ρ).bind fun x ρ => (ofO (toI x) ρ).bind fun n ρ => ofO (gd (-100000 ≤ n ∧ n < 100000) (rangeN n.toNat)) ρ
def iRg2 (a b : PEx) : PIx := fun ρ => (a ρ).bind fun x ρ => (b ρ).bind fun y ρ => (ofO (toI x) ρ).bind fun i ρ => (ofO (toI y) ρ).bind fun j ρ => ofO (gd (-100000 ≤ i ∧ i ≤ 100000 ∧ -100000 ≤ j ∧ j ≤ 100000) (rangeP i (j - i).toNat)) ρ
omit [Tbs] in
theorem zipP_len : ∀ xs ys : List P, (zipP xs ys).length = min xs.length ys.length
  | [], _ => by simp [zipP]
  | _ :: _, [] => by simp [zipP]
  | x :: xs, y :: ys => by show (zipP xs ys).length + 1 = _; rw [zipP_len xs ys, List.length_cons, List.length_cons]; omega
omit [Tbs] in
theorem zipP_get : ∀ {xs ys : List P} {i : Nat} {x y : P}, xs[i]? = some x → ys[i]? = some y → (zipP xs ys)[i]? = some (.tup [x, y])
  | _ :: _, _ :: _, 0, _, _, h1, h2 => by
    simp at h1 h2; subst h1; subst h2; rfl
  | a :: xs, c :: ys, i + 1, x, y, h1, h2 => zipP_get (xs := xs) (ys := ys) (i := i) (by simpa using h1) (by simpa using h2)
omit [Tbs] in
theorem enumP_len : ∀ (n : Nat) (xs : List P), (enumP n xs).length = xs.length
  | _, [] => rfl
  | n, x :: xs => congrArg (· + 1) (enumP_len (n + 1) xs)
omit [Tbs] in
theorem enumP_get : ∀ {n i : Nat} {xs : List P} {x : P}, xs[i]? = some x → (enumP n xs)[i]? = some (.tup [.int ((n + i : Nat)), x])
  | n, 0, a :: xs, x, h => by simp at h; subst h; rfl
  | n, i + 1, a :: xs, x, h => by
    have := enumP_get (n := n + 1) (i := i) (xs := xs) (x := x) (by simpa using h)
    rw [show n + 1 + i = n + (i + 1) by omega] at this
    exact this
omit [Tbs] in
theorem rangeP_get {lo : Int} {n i : Nat} (h : i < n) : (rangeP lo n)[i]? = some (.int (lo + (i : Nat))) := by
  unfold rangeP
  rw [List.getElem?_map, List.getElem?_range h]; rfl
section
variable {C : Cc} {K : PySem.W.Frag} {ta tb : TE} {a b : PEx}
theorem wkp_lst {F H : Hp} {xs : List P} {vs : List V} {p : Addr} (h : F p = some (.lst vs)) (r : Reps K xs vs F) : WkP K F H (Itl K p) xs :=
  wk_conv (wk_list h) (reps_len r).symm fun i v F2 hi e hv => by
    obtain ⟨x, hx, rx⟩ := reps_back r hv
    exact ⟨x, hx, rep_up e rx⟩
omit [Tbs] in
theorem wk_tupq {F H : Hp} {a : Addr} {vs : List V} (h : SqT K F a vs) : Wk none F H (Itt K a) vs.length (fun i v _ => vs[i]? = some v) :=
  ⟨fun i F1 H1 hi x => ⟨vs, vs[i], Ex.sqT (x.ff.trans x.fh) h, by simp [hi]⟩, fun F1 H1 x => ⟨vs, Ex.sqT (x.ff.trans x.fh) h, Nat.le_refl _⟩,
    fun i F1 H1 v H2 hi x y => by
      obtain ⟨e, y⟩ := y
      subst e
      exact ⟨F1, Ext.refl x.fh, y vs (Ex.sqT (x.ff.trans x.fh) h)⟩⟩
theorem wkp_tup {F H : Hp} {xs : List P} {vs : List V} {p : Addr} (h : TupAt K F p vs) (r : Reps K xs vs F) : WkP K F H (Itt K p) xs :=
  wk_conv (wk_tupq h.sq) (reps_len r).symm fun i v F2 hi e hv => by
    obtain ⟨x, hx, rx⟩ := reps_back r hv
    exact ⟨x, hx, rep_up e rx⟩
theorem wkp_str {F H : Hp} (cs : List Nat) : WkP K F H (Its (SX.S cs)) (cs.map fun c => P.str [c]) :=
  wk_conv (wk_str (z := SX.S cs)) (by rw [List.length_map]) fun i v F2 hi e ⟨c, hc, hv⟩ => ⟨.str [c], by rw [List.getElem?_map, show cs[i]? = some c from hc]; rfl, hv⟩
theorem i_val (ha : SndE C ta a) : SndI C (iDyn C.K ta) (iVal a) := .mk fun {ρ σ F H Q Qp E} S h kx k => ha S (wp_b h) kx fun p v ρ1 F1 H1 s1 rp h => by
  obtain ⟨xs, e, h9⟩ := wp_o h
  cases p <;> first | (cases e; done) | skip
  · cases e
    cases rp
    exact .inr (.inr ⟨_, rfl, k _ _ ρ1 F1 H1 s1 (wkp_str _) h9⟩)
  · cases e
    obtain ⟨p, vs, rfl, h1, h2⟩ := rp
    exact .inl ⟨p, rfl, ⟨vs, SqL.of (s1.x.fh _ _ h1)⟩, k _ _ ρ1 F1 H1 s1 (wkp_lst h1 h2) h9⟩
  · cases e
    obtain ⟨p, vs, rfl, h1, h2⟩ := rp
    exact .inr (.inl ⟨p, rfl, ⟨vs, Ex.sqT s1.x.fh h1.sq⟩, k _ _ ρ1 F1 H1 s1 (wkp_tup h1 h2) h9⟩)
omit [Tbs] in
theorem wk_enumT {b : Option Addr} {K : PySem.W.Frag} {F H : Hp} {a : Addr} {vs : List V} (h : SqT K F a vs) : Wk b F H (IteT K a) vs.length (fun i v F2 => ∃ T x, v = .ref T ∧ F2 T = some (.tup [.int (i : Nat), x]) ∧ vs[i]? = some x) :=
  ⟨fun i F1 H1 hi x => ⟨vs, vs[i], Ex.sqT (x.ff.trans x.fh) h, by simp [hi]⟩, fun F1 H1 x => ⟨vs, Ex.sqT (x.ff.trans x.fh) h, rfl⟩,
    fun i F1 H1 v H2 hi x y => by
      obtain ⟨T, z, h1, h2, h3, h4⟩ := y
      subst h1 h3
      exact ⟨_, Ext.lay x.fh h2, T, z, rfl, upd_same, h4 vs (Ex.sqT (x.ff.trans x.fh) h)⟩⟩
theorem i_enu (ha : SndE C ta a) : SndI C (iEnumD C.K (tCons ta tNil)) (iEnu a) := .mk fun {ρ σ F H Q Qp E} S h kx k => ha S (wp_b h) kx fun p v ρ1 F1 H1 s1 rp h => by
  obtain ⟨xs, e, h9⟩ := wp_o h
  cases p <;> first | (cases e; done) | skip
  · cases e
    obtain ⟨p, vs, rfl, h1, h2⟩ := rp
    refine .inl ⟨p, vs, rfl, SqL.of (s1.x.fh _ _ h1), k _ _ ρ1 F1 H1 s1 ?_ h9⟩
    refine wk_conv (wk_enum h1) (by rw [enumP_len]; exact (reps_len h2).symm) fun i v F2 hi e ⟨T, x, ev, hT, hx⟩ => ?_
    obtain ⟨q, hq, rq⟩ := reps_back h2 hx
    have := enumP_get (n := 0) hq
    rw [Nat.zero_add] at this
    exact ⟨_, this, T, _, ev, Or.inl hT, _, _, rfl, rfl, _, _, rfl, rep_up e rq, rfl⟩
  · cases e
    obtain ⟨p, vs, rfl, h1, h2⟩ := rp
    refine .inr ⟨p, vs, rfl, Ex.sqT s1.x.fh h1.sq, k _ _ ρ1 F1 H1 s1 ?_ h9⟩
    refine wk_conv (wk_enumT h1.sq) (by rw [enumP_len]; exact (reps_len h2).symm) fun i v F2 hi e ⟨T, x, ev, hT, hx⟩ => ?_
    obtain ⟨q, hq, rq⟩ := reps_back h2 hx
    have := enumP_get (n := 0) hq
    rw [Nat.zero_add] at this
    exact ⟨_, this, T, _, ev, Or.inl hT, _, _, rfl, rfl, _, _, rfl, rep_up e rq, rfl⟩
theorem i_zi (ha : SndE C ta a) (hb : SndE C tb b) : SndI C (iZipB C.K (tCons ta (tCons tb tNil))) (iZi a b) := .mk fun {ρ σ F H Q Qp E} S h kx k => ha S (wp_b h) kx fun p v ρ1 F1 H1 s1 rp h => hb s1.st (wp_b h) (kx.to s1) fun q w ρ2 F2 H2 s2 rq h => by
  obtain ⟨xs, e, h9⟩ := wp_o h
  cases p <;> cases q <;> first | (cases e; done) | skip
  · cases e
    obtain ⟨p, vs, rfl, h1, h2⟩ := rep_up s2.x.ff rp
    obtain ⟨q, ws, rfl, h3, h4⟩ := rq
    refine ⟨p, q, vs, ws, rfl, .inl ⟨SqL.of (s2.x.fh _ _ h1), SqL.of (s2.x.fh _ _ h3), k _ _ ρ2 F2 H2 (s1.trans s2) ?_ h9⟩⟩
    refine wk_conv (wk_zip (SqL.of h1) (SqL.of h3) rfl) (by rw [zipP_len, reps_len h2, reps_len h4]) fun i v F3 hi e ⟨T, x, y, ev, hT, hx, hy⟩ => ?_
    obtain ⟨x', hx', rx⟩ := reps_back h2 hx
    obtain ⟨y', hy', ry⟩ := reps_back h4 hy
    exact ⟨_, zipP_get hx' hy', T, _, ev, Or.inl hT, _, _, rfl, rep_up e rx, _, _, rfl, rep_up e ry, rfl⟩
  · cases e
    obtain ⟨p, vs, rfl, h1, h2⟩ := rep_up s2.x.ff rp
    obtain ⟨q, ws, rfl, h3, h4⟩ := rq
    refine ⟨p, q, vs, ws, rfl, .inr ⟨Ex.sqT s2.x.fh h1.sq, Ex.sqT s2.x.fh h3.sq, k _ _ ρ2 F2 H2 (s1.trans s2) ?_ h9⟩⟩
    refine wk_conv (wk_zipT h1.sq h3.sq rfl) (by rw [zipP_len, reps_len h2, reps_len h4]) fun i v F3 hi e ⟨T, x, y, ev, hT, hx, hy⟩ => ?_
    obtain ⟨x', hx', rx⟩ := reps_back h2 hx
    obtain ⟨y', hy', ry⟩ := reps_back h4 hy
    exact ⟨_, zipP_get hx' hy', T, _, ev, Or.inl hT, _, _, rfl, rep_up e rx, _, _, rfl, rep_up e ry, rfl⟩
theorem wkp_range {F H : Hp} {lo : Int} {n : Nat} : WkP K F H (Itr lo n) (rangeP lo n) :=
  wk_conv wk_range (by unfold rangeP; rw [List.length_map, List.length_range]) fun i v F2 hi e ev => ⟨_, rangeP_get hi, ev⟩
theorem i_rg1 (ha : SndE C ta a) : SndI C (iRng1 (tCons ta tNil)) (iRg1 a) := .mk fun {ρ σ F H Q Qp E} S h kx k => ha S (wp_b h) kx fun p v ρ1 F1 H1 s1 rp h => by
  obtain ⟨n, e, h⟩ := wp_o (wp_b h)
  cases toI_some e
  obtain ⟨xs, e2, h⟩ := wp_o h
  obtain ⟨h1, rfl⟩ := gd_some e2
  cases rp
  exact ⟨n, rfl, by omega, by omega, k _ _ ρ1 F1 H1 s1 wkp_range (by rw [rangeN_eq]; exact h)⟩
theorem i_rg2 (ha : SndE C ta a) (hb : SndE C tb b) : SndI C (iRng2 (tCons ta (tCons tb tNil))) (iRg2 a b) := .mk fun {ρ σ F H Q Qp E} S h kx k => ha S (wp_b h) kx fun p v ρ1 F1 H1 s1 rp h => hb s1.st (wp_b h) (kx.to s1) fun q w ρ2 F2 H2 s2 rq h => by
  obtain ⟨i, e, h⟩ := wp_o (wp_b h)
  obtain ⟨j, e3, h⟩ := wp_o (wp_b h)
  cases toI_some e
  cases toI_some e3
  obtain ⟨xs, e2, h⟩ := wp_o h
  obtain ⟨h1, rfl⟩ := gd_some e2
  cases rp; cases rq
  exact ⟨_, _, rfl, by omega, k _ _ ρ2 F2 H2 (s1.trans s2) wkp_range h⟩
end
/-! ### slots wiped -/
theorem wipe_in {σ : L2.St} {j : Nat} : ∀ {vs : List Nat}, j ∈ vs → j < σ.length → (wipe σ vs)[j]? = some none
  | v :: vs, h, hl => by
    show ((wipe σ vs).set v none)[j]? = some none
    by_cases e : v = j
    · subst e
      exact List.getElem?_set_self (by rw [wipe_length]; exact hl)
    · rw [List.getElem?_set_ne e]
      exact wipe_in ((List.mem_cons.mp h).resolve_left fun z => e z.symm) hl
theorem wipe_ext {σ τ : L2.St} {vs : List Nat} (hl : σ.length = τ.length) (h : ∀ j, j ∉ vs → σ[j]? = τ[j]?) : wipe σ vs = wipe τ vs := by
  apply List.ext_getElem?
  intro j
  by_cases hj : j ∈ vs
  · by_cases hk : j < σ.length
    · rw [wipe_in hj hk, wipe_in hj (by rw [← hl]; exact hk)]
    · rw [List.getElem?_eq_none (by rw [wipe_length]; omega), List.getElem?_eq_none (by rw [wipe_length]; omega)]
  · rw [wipe_out hj, wipe_out hj]; exact h j hj
theorem wipe_set {σ : L2.St} {i : Nat} {x : Option V} {vs : List Nat} (h : i ∈ vs) : wipe (σ.set i x) vs = wipe σ vs :=
  wipe_ext (by rw [List.length_set]) fun j hj => List.getElem?_set_ne (by rintro rfl; exact hj h)
theorem wipe_wipe {σ : L2.St} {vs : List Nat} : wipe (wipe σ vs) vs = wipe σ vs :=
  wipe_ext (by rw [wipe_length]) fun j hj => wipe_out hj
def wipeP (ρ : Ro) : List Nat → Ro
  | [] => ρ
  | v :: vs => slset (wipeP ρ vs) v .un
/-- the slots of a comprehension as they were -/
def unw (ρ : Ro) (r : Ro) : List Nat → Ro
  | [] => r
  | v :: vs => slset (unw ρ r vs) v (sl ρ v)
omit [Tbs] in
theorem slset_len {r : Ro} {i : Nat} {s : Sl} : (slset r i s).length = r.length := by rw [slset_eq, List.length_set]
omit [Tbs] in
theorem wipeP_len {ρ : Ro} : ∀ {vs : List Nat}, (wipeP ρ vs).length = ρ.length
  | [] => rfl
  | v :: vs => slset_len.trans wipeP_len
omit [Tbs] in
theorem unw_len {ρ r : Ro} : ∀ {vs : List Nat}, (unw ρ r vs).length = r.length
  | [] => rfl
  | v :: vs => slset_len.trans unw_len
omit [Tbs] in
theorem wipeP_out {ρ : Ro} {j : Nat} : ∀ {vs : List Nat}, j ∉ vs → (wipeP ρ vs)[j]? = ρ[j]?
  | [], _ => rfl
  | v :: vs, h => by
    show (slset (wipeP ρ vs) v .un)[j]? = _
    rw [slset_eq, List.getElem?_set_ne (fun z => h (by rw [z]; exact List.mem_cons_self ..)), wipeP_out fun z => h (List.mem_cons_of_mem _ z)]
omit [Tbs] in
theorem wipeP_in {ρ : Ro} {j : Nat} {s : Sl} : ∀ {vs : List Nat}, j ∈ vs → (wipeP ρ vs)[j]? = some s → s = .un
  | v :: vs, h, e => by
    have e' : (slset (wipeP ρ vs) v .un)[j]? = some s := e
    rw [slset_eq] at e'
    by_cases hv : v = j
    · subst hv
      rw [List.getElem?_set] at e'
      simp only [if_true] at e'
      split at e'
      · cases e'; rfl
      · cases e'
    · rw [List.getElem?_set_ne hv] at e'
      exact wipeP_in ((List.mem_cons.mp h).resolve_left fun z => hv z.symm) e'
omit [Tbs] in
theorem unw_out {ρ r : Ro} {j : Nat} : ∀ {vs : List Nat}, j ∉ vs → (unw ρ r vs)[j]? = r[j]?
  | [], _ => rfl
  | v :: vs, h => by
    show (slset (unw ρ r vs) v (sl ρ v))[j]? = _
    rw [slset_eq, List.getElem?_set_ne (fun z => h (by rw [z]; exact List.mem_cons_self ..)), unw_out fun z => h (List.mem_cons_of_mem _ z)]
omit [Tbs] in
theorem unw_in {ρ r : Ro} {j : Nat} {s : Sl} : ∀ {vs : List Nat}, j ∈ vs → (unw ρ r vs)[j]? = some s → s = sl ρ j
  | v :: vs, h, e => by
    have e' : (slset (unw ρ r vs) v (sl ρ v))[j]? = some s := e
    rw [slset_eq] at e'
    by_cases hv : v = j
    · subst hv
      rw [List.getElem?_set] at e'
      simp only [if_true] at e'
      split at e'
      · cases e'; rfl
      · cases e'
    · rw [List.getElem?_set_ne hv] at e'
      exact unw_in ((List.mem_cons.mp h).resolve_left fun z => hv z.symm) e'
section
variable {C : Cc} {ρ r : Ro} {σ : L2.St} {F H F' H' : Hp} {vs : List Nat}
theorem Stt.wipe (S : Stt C ρ σ F H) : ∀ vs : List Nat, Stt C (wipeP ρ vs) (wipe σ vs) F H
  | [] => S
  | v :: vs => (S.wipe vs).forget
omit [Tbs] in
theorem own_wipe {a : Addr} (h : OwnAt (wipeP ρ vs) (wipe σ vs) a) : OwnAt ρ σ a := by
  obtain ⟨i, s, o, h1, h2, h3⟩ := h
  by_cases hi : i ∈ vs
  · rw [wipeP_in hi h1] at h2; cases h2
  · rw [wipeP_out hi] at h1
    rw [wipe_out hi] at h3
    exact ⟨i, s, o, h1, h2, h3⟩
/-- back to the slots as they were -/
theorem Stt.unw (S0 : Stt C ρ σ F H) (S : Stt C r (L2.wipe σ vs) F' H') (e : Ex F F') (hn : ∀ v ∈ vs, (sl ρ v).obj = none) : Stt C (FX.unw ρ r vs) σ F' H' := by
  refine ⟨S.x, by rw [unw_len, S.len, wipe_length], fun j s h => ?_, fun i j a s t n e1 e2 h1 h2 e3 e4 => ?_⟩
  · by_cases hj : j ∈ vs
    · have hs := unw_in hj h
      subst hs
      cases hq : sl ρ j with
      | un =>
        have hl : j < σ.length := by
          have := (List.getElem?_eq_some_iff.mp h).1
          rw [unw_len, S.len, wipe_length] at this
          exact this
        exact ⟨σ[j], List.getElem?_eq_getElem hl, True.intro⟩
      | val p =>
        obtain ⟨v, h1, h2⟩ := S0.val hq
        exact ⟨some v, h1, v, rfl, rep_up e h2⟩
      | loc o => have := hn j hj; rw [hq] at this; cases this
      | io o => have := hn j hj; rw [hq] at this; cases this
    · rw [unw_out hj] at h
      obtain ⟨o, h1, h2⟩ := S.at_ j s h
      rw [wipe_out hj] at h1
      exact ⟨o, h1, h2⟩
  · have key : ∀ {m : Nat} {s : Sl}, (FX.unw ρ r vs)[m]? = some s → s.obj.isSome = true → m ∉ vs := fun {m s} h k z => by
      rw [unw_in z h, hn m z] at k; cases k
    have k1 := key e1 h1
    have k2 := key e2 h2
    rw [unw_out k1] at e1
    rw [unw_out k2] at e2
    exact S.dis i j a s t n e1 e2 h1 h2 (by rw [wipe_out k1]; exact e3) (by rw [wipe_out k2]; exact e4)
omit [Tbs] in
theorem own_unw {a : Addr} (hn : ∀ v ∈ vs, (sl ρ v).obj = none) (h : OwnAt (unw ρ r vs) σ a) : OwnAt r (wipe σ vs) a := by
  obtain ⟨i, s, o, h1, h2, h3⟩ := h
  by_cases hi : i ∈ vs
  · rw [unw_in hi h1, hn i hi] at h2; cases h2
  · rw [unw_out hi] at h1
    exact ⟨i, s, o, h1, h2, by rw [wipe_out hi]; exact h3⟩
end
/-! ### targets: names, tuples of them -/
abbrev PGx := P → Ro → Option Ro
abbrev PGsx := List P → Ro → Option Ro
structure SndG (C : Cc) (vs : List Nat) (g : TG) (e : PGx) : Prop where
  run : ∀ {ρ ρ' : Ro} {σ : L2.St} {F H : Hp} {QS : L2.St → Hp → Prop} {p : P} {v : V}, Stt C ρ σ F H → Rep C.K p v F → e p ρ = some ρ' →
    (∀ σ', Stt C ρ' σ' F H → wipe σ' vs = wipe σ vs → (∀ a, OwnAt ρ' σ' a → OwnAt ρ σ a) → QS σ' H) → g v σ H QS
structure SndGs (C : Cc) (vs : List Nat) (g : TGs) (e : PGsx) : Prop where
  run : ∀ {ρ ρ' : Ro} {σ : L2.St} {F H : Hp} {QS : L2.St → Hp → Prop} {ps : List P} {us : List V}, Stt C ρ σ F H → Reps C.K ps us F → e ps ρ = some ρ' →
    (∀ σ', Stt C ρ' σ' F H → wipe σ' vs = wipe σ vs → (∀ a, OwnAt ρ' σ' a → OwnAt ρ σ a) → QS σ' H) → g us σ H QS
def gN (i : Nat) : PGx := fun p ρ => some (slset ρ i (.val p))
def gsN : PGsx := fun ps ρ => match ps with
  | [] => some ρ
  | _ :: _ => none
def gsC (g : PGx) (r : PGsx) : PGsx := fun ps ρ => match ps with
  | [] => none
  | p :: ps => (g p ρ).bind fun ρ => r ps ρ
def gT (n : Nat) (g : PGsx) : PGx := fun p ρ => match p with
  | .tup xs => (gd (xs.length = n) ()).bind fun _ => g xs ρ
  | _ => none
omit [Tbs] in
theorem own_set {ρ : Ro} {σ : L2.St} {i : Nat} {s : Sl} {o : Option V} (hs : s.obj = none) {a : Addr} (h : OwnAt (slset ρ i s) (σ.set i o) a) : OwnAt ρ σ a := by
  obtain ⟨j, t, u, h1, h2, h3⟩ := h
  rw [slset_eq] at h1
  by_cases hj : i = j
  · subst hj
    rw [List.getElem?_set] at h1
    simp only [if_true] at h1
    split at h1
    · cases h1; rw [hs] at h2; cases h2
    · cases h1
  · rw [List.getElem?_set_ne hj] at h1 h3
    exact ⟨j, t, u, h1, h2, h3⟩
section
variable {C : Cc} {vs : List Nat}
theorem g_name {i : Nat} (h : i ∈ vs := by decide) : SndG C vs (gName i) (gN i) := .mk fun {ρ ρ' σ F H QS p v} S r e k => by
  cases e
  exact k _ (S.set r) (wipe_set h) fun a z => own_set rfl z
theorem g_tup {n : Nat} {t : TGs} {g : PGsx} (h : SndGs C vs t g) : SndG C vs (gTup C.K n t) (gT n g) := .mk fun {ρ ρ' σ F H QS p v} S r e k => by
  cases p <;> first | (cases e; done) | skip
  obtain ⟨_, e1, e2⟩ := Option.bind_eq_some_iff.mp e
  obtain ⟨a, us, rfl, h1, h2⟩ := r
  exact ⟨a, us, rfl, Ex.sqT S.x.fh h1.sq, by rw [← reps_len h2]; exact (gd_some e1).1, h.run S h2 e2 k⟩
theorem gs_nil : SndGs C vs gNil gsN := .mk fun {ρ ρ' σ F H QS ps us} S r e k => by
  cases ps with
  | nil => cases r; cases e; exact ⟨rfl, k _ S rfl fun _ z => z⟩
  | cons _ _ => cases e
theorem gs_cons {t : TG} {u : TGs} {g : PGx} {r : PGsx} (h : SndG C vs t g) (hs : SndGs C vs u r) : SndGs C vs (gCons t u) (gsC g r) := .mk fun {ρ ρ' σ F H QS ps us} S rr e k => by
  cases ps with
  | nil => cases e
  | cons p ps =>
    obtain ⟨ρ1, e1, e2⟩ := Option.bind_eq_some_iff.mp e
    obtain ⟨v, ws, rfl, h1, h2⟩ := rr
    exact ⟨v, ws, rfl, h.run S h1 e1 fun σ1 S1 w1 o1 => hs.run S1 h2 e2 fun σ2 S2 w2 o2 => k σ2 S2 (w2.trans w1) fun a z => o1 a (o2 a z)⟩
end
/-! ### comprehensions -/
def R.noX {α : Type} (m : R α) : R α := match m with
  | .ex _ _ => .bad
  | r => r
omit [Tbs] in
theorem wp_noX {α : Type} {m : R α} {Q : α → Ro → Prop} {E : EP} : wp m.noX Q E = wp m Q (fun _ _ => False) := by cases m <;> rfl
def Cc.nx (C : Cc) : Cc := { C with W := fun _ _ _ => False }
theorem Stt.nx {C : Cc} {ρ : Ro} {σ : L2.St} {F H : Hp} (S : Stt C ρ σ F H) : Stt C.nx ρ σ F H := ⟨S.x, S.len, S.at_, S.dis⟩
theorem Stt.ofNx {C : Cc} {ρ : Ro} {σ : L2.St} {F H : Hp} (S : Stt C.nx ρ σ F H) : Stt C ρ σ F H := ⟨S.x, S.len, S.at_, S.dis⟩
theorem xok_no {C : Cc} : XOk C (fun _ _ => False) := fun _ _ _ _ _ _ _ _ _ h => h.elim
def lcX (vs : List Nat) (g : PGx) (t : PTx) (e : PEx) : List P → Ro → R (List P)
  | [], ρ => .ok [] ρ
  | x :: xs, ρ => (ofO (g x ρ) ρ).bind fun ρ1 _ => (t ρ1).noX.bind fun c ρ2 => pIte c ((e ρ2).noX.bind fun y ρ3 => (lcX vs g t e xs (wipeP ρ3 vs)).bind fun ys ρ4 => .ok (y :: ys) ρ4) (lcX vs g t e xs (wipeP ρ2 vs))
def pLc (w : PIx) (vs : List Nat) (g : PGx) (t : PTx) (e : PEx) : PNx := fun ρ => (w ρ).bind fun xs ρ =>
  (ofO (gd (xs.length < 100000 ∧ (vs.all fun v => (sl ρ v).obj.isNone) = true) ()) ρ).bind fun _ ρ => (lcX vs g t e xs (wipeP ρ vs)).bind fun ys r => .ok (.lst ys) (unw ρ r vs)
theorem n_lc {C : Cc} {wi : TI} {w : PIx} {g : TG} {pg : PGx} {vs : List Nat} {tt : TT} {m : PTx} {ta : TE} {a : PEx} (hi : SndI C wi w) (hg : SndG C.nx vs g pg) (ht : SndT C.nx tt m) (he : SndE C.nx ta a) : SndN C (tLc wi g tt ta vs) (pLc w vs pg m a) := .mk fun {ρ σ F H Q Qp E} S h kx k => hi S (wp_b h) kx fun xs J ρ0 F0 H0 s0 wk h => by
  obtain ⟨_, e0, h⟩ := wp_o (wp_b h)
  obtain ⟨⟨hz, hn⟩, _⟩ := gd_some e0
  have hn' : ∀ v ∈ vs, (sl ρ0 v).obj = none := fun v hv => by
    have := List.all_eq_true.mp hn v hv
    cases hq : (sl ρ0 v).obj with
    | none => rfl
    | some o => rw [hq] at this; cases this
  have h := wp_b h
  intro D hD
  have S0 := s0.st
  have D0 := S0.x.back hD
  have noD : ∀ {a : Addr}, OwnAt ρ0 σ a → a ≠ D := fun {a} z e => S0.noOwn hD (e ▸ z)
  -- the walk: what is made so far, the state, what is still to come
  let Pv : Nat → Hp → Prop := fun i Hi => ∃ Fi us ys ρi, Fr (OwnAt ρ0 σ) F0 H0 Fi Hi ∧ Stt C ρi (wipe σ vs) Fi Hi ∧ (∀ a, OwnAt ρi (wipe σ vs) a → OwnAt ρ0 σ a) ∧ Hi D = some (.lst us) ∧ Fi D = none ∧ Reps C.K ys us Fi ∧ us.length ≤ i ∧
    wp (lcX vs pg m a (xs.drop i) ρi) (fun zs r => Qp (.lst (ys ++ zs)) (unw ρ0 r vs)) E
  have Fr0 : Fr (OwnAt ρ0 σ) F0 H0 F0 (upd H0 D (.lst [])) := Fr.ext (Ext.own S0.x.fh hD)
  refine ⟨fun i m Hi => m = xs.length - i ∧ i ≤ xs.length ∧ Pv i Hi, ⟨xs.length, by omega, Nat.zero_le _, F0, [], [], wipeP ρ0 vs, Fr0, (Stp.own S0 hD).st.wipe vs, fun a z => own_wipe z, upd_same, Same.free S0.x.fh hD, rfl, Nat.zero_le _, wp_mono h (fun _ _ q => q) fun _ _ q => q⟩, ?_⟩
  rintro i n Hi ⟨rfl, hi, Fi, us, ys, ρi, X, Si, ow, hDi, nFi, A, ul, hw⟩
  by_cases hlt : i < xs.length
  · have gx : xs[i]? = some xs[i] := List.getElem?_eq_getElem hlt
    rw [List.drop_eq_getElem_cons hlt] at hw
    refine .inr ⟨wk.goes i Fi Hi hlt ⟨X.ff, X.fh⟩, fun H' => Pv (i + 1) H', fun H' p => ⟨xs.length - (i + 1), by omega, rfl, hlt, p⟩, fun v H' y => ?_⟩
    obtain ⟨F1, x1, x', hx', rx⟩ := wk.yields i Fi Hi v H' hlt ⟨X.ff, X.fh⟩ y
    rw [gx] at hx'
    cases hx'
    have s1 := Stp.ext Si x1
    have X1 := X.trans (B := fun _ => False) (Fr.ext x1) fun _ z => z.elim
    have hD1 : H' D = some (.lst us) := x1.hh D _ (by simp) hDi
    have nF1 : F1 D = none := x1.nw D nFi (by rw [hDi]; rfl)
    have A1 := reps_up x1.ff A
    obtain ⟨ρ1, e1, hw⟩ := wp_o (wp_b hw)
    -- the target's slots are the comprehension's: first the slots of the wiped state
    refine hg.run (ρ := ρi) (σ := wipe σ vs) s1.st.nx rx e1 fun σ' S' hwp ow1 => ⟨hwp.trans wipe_wipe, ?_⟩
    have hw := wp_b hw
    rw [wp_noX] at hw
    refine ht S' hw xok_no.e fun c ρ2 F2 H2 s2 hw => ?_
    have ow2 : ∀ a, OwnAt ρ2 σ' a → OwnAt ρ0 σ a := fun a z => ow a (ow1 a (s2.ow a z))
    have X2 := X1.trans s2.x fun a z => .inl (ow a (ow1 a z))
    have notD : ¬ OwnAt ρ1 σ' D := fun z => noD (ow _ (ow1 _ z)) rfl
    have hD2 : H2 D = some (.lst us) := s2.x.hh D _ notD (fun _ z => by cases z) hD1
    have nF2 : F2 D = none := s2.x.nw D nF1 (by rw [hD1]; rfl)
    have A2 := reps_up s2.x.ff A1
    show if c = true then _ else _
    cases c with
    | true =>
      have hw := wp_b (show wp ((a ρ2).noX.bind _) _ _ from hw)
      rw [wp_noX] at hw
      refine he s2.st hw xok_no.e fun p v F3' F3 H3 s3 rp hw => ?_
      have notD2 : ¬ OwnAt ρ2 σ' D := fun z => noD (ow2 _ z) rfl
      have hD3 : H3 D = some (.lst us) := s3.x.hh D _ notD2 (fun _ z => by cases z) hD2
      have nF3 : F3 D = none := s3.x.nw D nF2 (by rw [hD2]; rfl)
      have X3 := X2.trans s3.x fun a z => .inl (ow2 a z)
      have ow3 : ∀ a, OwnAt F3' σ' a → OwnAt ρ0 σ a := fun a z => ow2 a (s3.ow a z)
      have S4 : Stt C F3' σ' F3 (upd H3 D (.lst (us ++ [v]))) := s3.st.ofNx.updAt D0 nF3 (fun z => noD (ow3 _ z) rfl) hD3 (fun _ z => by cases z) (fun _ z => by cases z)
      refine ⟨us, hD3, smallL (by omega), F3, us ++ [v], ys ++ [p], wipeP F3' vs, ⟨X3.ff, S4.x.fh, fun b o nb g hb => ?_, fun b hb => ?_, X3.nw, fun t => tabs_upd (X3.tk t) hD3 (fun _ z => by cases z) (fun _ z => by cases z)⟩, ?_, fun a z => ?_, upd_same, nF3, reps_app (reps_up s3.x.ff A2) (reps_one rp), by rw [List.length_append]; simp; omega, ?_⟩
      · rw [upd_ne (ne_of_none hb hD)]; exact X3.hh b o nb g hb
      · by_cases hbD : b = D
        · rw [hbD, upd_same]; rfl
        · rw [upd_ne hbD]; exact X3.bb b hb
      · rw [← hwp.trans wipe_wipe]; exact S4.wipe vs
      · rw [← hwp.trans wipe_wipe] at z
        exact ow3 a (own_wipe z)
      · have hw := wp_b hw
        exact wp_mono hw (fun zs r q => by rw [List.append_assoc]; exact q) fun _ _ q => q
    | false =>
      refine ⟨F2, us, ys, wipeP ρ2 vs, X2, by rw [← hwp.trans wipe_wipe]; exact s2.st.ofNx.wipe vs, fun a z => ?_, hD2, nF2, A2, by omega, hw⟩
      rw [← hwp.trans wipe_wipe] at z
      exact ow2 a (own_wipe z)
  · have e : i = xs.length := by omega
    subst e
    rw [List.drop_length] at hw
    have hw' : Qp (.lst (ys ++ [])) (unw ρ0 ρi vs) := hw
    rw [List.append_nil] at hw'
    have Sf := S0.unw Si X.ff hn'
    exact .inl ⟨wk.stops Fi Hi ⟨X.ff, X.fh⟩, k (.lst ys) D _ _ Fi Hi (s0.trans ⟨Sf, X, fun a z => ow a (own_unw hn' z)⟩) (s0.x.back hD) nFi hDi ⟨us, rfl, A⟩ hw'⟩
end FX

/-! pure statements, loops -/
namespace FX
open PySem PySem.Spec PyProof.Rows L2 RZ PX
variable [Tbs]
/-- what comes of a statement -/
inductive RS where
  | bad | nx (ρ : Ro) | rt (p : P) (ρ : Ro) | ro (o : PO) (ρ : Ro) | bk (ρ : Ro) | ct (ρ : Ro) | ex (e : Xn) (ρ : Ro)
structure PD where
  nx : Ro → Prop
  rt : P → Ro → Prop
  ro : PO → Ro → Prop
  bk : Ro → Prop
  ct : Ro → Prop
  ex : EP
def ws (r : RS) (D : PD) : Prop := match r with
  | .bad => False
  | .nx ρ => D.nx ρ
  | .rt p ρ => D.rt p ρ
  | .ro o ρ => D.ro o ρ
  | .bk ρ => D.bk ρ
  | .ct ρ => D.ct ρ
  | .ex e ρ => D.ex e ρ
def R.st {α : Type} (m : R α) (k : α → Ro → RS) : RS := match m with
  | .bad => .bad
  | .ok x ρ => k x ρ
  | .ex e ρ => .ex e ρ
omit [Tbs] in
theorem ws_st {α : Type} {m : R α} {k : α → Ro → RS} {D : PD} : ws (m.st k) D = wp m (fun x ρ => ws (k x ρ) D) D.ex := by cases m <;> rfl
omit [Tbs] in
theorem ws_s {α : Type} {m : R α} {k : α → Ro → RS} {D : PD} (h : ws (m.st k) D) : wp m (fun x ρ => ws (k x ρ) D) D.ex := by rw [← ws_st]; exact h
omit [Tbs] in
theorem ws_mono {r : RS} {D E : PD} (h : ws r D) (h1 : ∀ ρ, D.nx ρ → E.nx ρ) (h2 : ∀ p ρ, D.rt p ρ → E.rt p ρ) (h6 : ∀ o ρ, D.ro o ρ → E.ro o ρ) (h3 : ∀ ρ, D.bk ρ → E.bk ρ) (h4 : ∀ ρ, D.ct ρ → E.ct ρ) (h5 : ∀ e ρ, D.ex e ρ → E.ex e ρ) : ws r E := by
  cases r
  · exact h
  · exact h1 _ h
  · exact h2 _ _ h
  · exact h6 _ _ h
  · exact h3 _ h
  · exact h4 _ h
  · exact h5 _ _ h
abbrev PSx := Ro → RS
/-- the HandS wishes that the pure ones serve, from F on -/
structure EOk (C : Cc) (F0 : Hp) (D : Ends) (E : PD) : Prop where
  nx : ∀ ρ σ F H, Ex F0 F → Stt C ρ σ F H → E.nx ρ → D.nx σ H
  rt : ∀ p v ρ σ F H, Ex F0 F → Stt C ρ σ F H → Rep C.K p v F → E.rt p ρ → D.rt v H
  ro : ∀ o a h ρ σ F H, Ex F0 F → Stt C ρ σ F H → C.H0 a = none → F a = none → H a = some h → RepO C.K o h F → ¬ OwnAt ρ σ a → E.ro o ρ → D.rt (.ref a) H
  bk : ∀ ρ σ F H, Ex F0 F → Stt C ρ σ F H → E.bk ρ → D.bk σ H
  ct : ∀ ρ σ F H, Ex F0 F → Stt C ρ σ F H → E.ct ρ → D.ct σ H
theorem EOk.up {C : Cc} {F0 F1 : Hp} {D : Ends} {E : PD} (h : EOk C F0 D E) (e : Ex F0 F1) : EOk C F1 D E := ⟨fun ρ σ F H x => h.nx ρ σ F H (e.trans x), fun p v ρ σ F H x => h.rt p v ρ σ F H (e.trans x), fun o a ho ρ σ F H x => h.ro o a ho ρ σ F H (e.trans x), fun ρ σ F H x => h.bk ρ σ F H (e.trans x), fun ρ σ F H x => h.ct ρ σ F H (e.trans x)⟩
structure SndS (C : Cc) (t : TS) (s : PSx) : Prop where
  run : ∀ {ρ : Ro} {σ : L2.St} {F H : Hp} {D : Ends} {E : PD}, Stt C ρ σ F H → ws (s ρ) E → XOk C E.ex → EOk C F D E → t D σ H
instance (C : Cc) (t : TS) (s : PSx) : CoeFun (SndS C t s) (fun _ => ∀ {ρ : Ro} {σ : L2.St} {F H : Hp} {D : Ends} {E : PD}, Stt C ρ σ F H → ws (s ρ) E → XOk C E.ex → EOk C F D E → t D σ H) := ⟨SndS.run⟩
/-! ### targets of assignments -/
abbrev PHx := P → Ro → R Unit
abbrev PHsx := List P → Ro → R Unit
structure SndH (C : Cc) (g : TG) (e : PHx) : Prop where
  run : ∀ {ρ : Ro} {σ : L2.St} {F H : Hp} {QS : L2.St → Hp → Prop} {Qp : Ro → Prop} {E : EP} {p : P} {v : V}, Stt C ρ σ F H → Rep C.K p v F → wp (e p ρ) (fun _ => Qp) E → XOk C E →
    (∀ ρ' σ' F' H', Ex F F' → Stt C ρ' σ' F' H' → Qp ρ' → QS σ' H') → g v σ H QS
structure SndHs (C : Cc) (g : TGs) (e : PHsx) : Prop where
  run : ∀ {ρ : Ro} {σ : L2.St} {F H : Hp} {QS : L2.St → Hp → Prop} {Qp : Ro → Prop} {E : EP} {ps : List P} {us : List V}, Stt C ρ σ F H → Reps C.K ps us F → wp (e ps ρ) (fun _ => Qp) E → XOk C E →
    (∀ ρ' σ' F' H', Ex F F' → Stt C ρ' σ' F' H' → Qp ρ' → QS σ' H') → g us σ H QS
def hN (i : Nat) : PHx := fun p ρ => .ok () (slset ρ i (.val p))
def hsN : PHsx := fun ps ρ => match ps with
  | [] => .ok () ρ
  | _ :: _ => .bad
def hsC (g : PHx) (r : PHsx) : PHsx := fun ps ρ => match ps with
  | [] => .bad
  | p :: ps => (g p ρ).bind fun _ ρ => r ps ρ
def tupN (n : Nat) : P → Option (List P)
  | .tup xs => gd (xs.length = n) xs
  | _ => none
def hT (n : Nat) (g : PHsx) : PHx := fun p ρ => (ofO (tupN n p) ρ).bind fun xs ρ => g xs ρ
def lstO : Sl → Option (List P)
  | .loc (.lst xs) => some xs
  | .io (.lst xs) => some xs
  | _ => none
/-- x[k] = .., x a list of one's own in slot i -/
def hIx (i : Nat) (b : PEx) : PHx := fun p ρ => (b ρ).bind fun y ρ => (ofO (toI y) ρ).bind fun k ρ => (ofO (lstO (sl ρ i)) ρ).bind fun xs ρ => (ofO (ixN xs.length k) ρ).bind fun j ρ => .ok () (slset ρ i ((sl ρ i).chg (.lst (xs.set j p))))
/-- x[k] = .. -/
def hSub (i : Nat) (b : PEx) : PHx := fun p ρ => (ofO (wSl (sl ρ i)) ρ).bind fun _ ρ => hIx i b p ρ
omit [Tbs] in
theorem lstO_obj {s : Sl} {xs : List P} (h : lstO s = some xs) : s.obj = some (.lst xs) := by
  cases s with
  | loc o => cases o <;> first | (cases h; rfl) | cases h
  | io o => cases o <;> first | (cases h; rfl) | cases h
  | un => cases h
  | val p => cases h
theorem reps_set {K : PySem.W.Frag} {F : Hp} {ps : List P} {vs : List V} {p : P} {v : V} (j : Nat) (h : Reps K ps vs F) (r : Rep K p v F) : Reps K (ps.set j p) (vs.set j v) F := by
  induction ps generalizing vs j with
  | nil => cases h; exact rfl
  | cons q ps ih =>
    obtain ⟨u, ws, rfl, h1, h2⟩ := h
    cases j with
    | zero => exact ⟨v, ws, rfl, r, h2⟩
    | succ j => exact ⟨u, ws.set j v, rfl, h1, ih j h2⟩
section
variable {C : Cc}
theorem h_name {i : Nat} : SndH C (gName i) (hN i) := .mk fun {ρ σ F H QS Qp E p v} S r h kx k => k _ _ F H (fun _ _ h => h) (S.set r) h
theorem h_tup {n : Nat} {t : TGs} {g : PHsx} (h : SndHs C t g) : SndH C (gTup C.K n t) (hT n g) := .mk fun {ρ σ F H QS Qp E p v} S r e kx k => by
  obtain ⟨xs, e1, e2⟩ := wp_o (wp_b e)
  cases p <;> first | (cases e1; done) | skip
  obtain ⟨hl, rfl⟩ := gd_some e1
  obtain ⟨a, us, rfl, h1, h2⟩ := r
  exact ⟨a, us, rfl, Ex.sqT S.x.fh h1.sq, by rw [← reps_len h2]; exact hl, h.run S h2 e2 kx k⟩
theorem hs_nil : SndHs C gNil hsN := .mk fun {ρ σ F H QS Qp E ps us} S r e kx k => by
  cases ps with
  | nil => cases r; exact ⟨rfl, k ρ σ F H (fun _ _ h => h) S e⟩
  | cons _ _ => exact e.elim
theorem hs_cons {t : TG} {u : TGs} {g : PHx} {r : PHsx} (h : SndH C t g) (hs : SndHs C u r) : SndHs C (gCons t u) (hsC g r) := .mk fun {ρ σ F H QS Qp E ps us} S rr e kx k => by
  cases ps with
  | nil => exact e.elim
  | cons p ps =>
    obtain ⟨v, ws, rfl, h1, h2⟩ := rr
    exact ⟨v, ws, rfl, h.run (Qp := fun ρ => wp (r ps ρ) (fun _ => Qp) E) S h1 (wp_b (show wp ((g p ρ).bind fun _ ρ => r ps ρ) _ _ from e)) kx fun ρ1 σ1 F1 H1 e1 S1 q => hs.run S1 (reps_up e1 h2) q kx fun ρ2 σ2 F2 H2 e2 S2 q => k ρ2 σ2 F2 H2 (e1.trans e2) S2 q⟩
theorem h_ix {i : Nat} {tb : TE} {b : PEx} (hb : SndE C tb b) : SndH C (gSub (tVar i) tb rSetL) (hSub i b) := .mk fun {ρ σ F H QS Qp E p v} S r f0 kx k => by
  obtain ⟨x0, e0, f1⟩ := wp_o (wp_b f0)
  obtain ⟨u, hu, _⟩ := w_slot S e0
  refine ⟨u, hu, hb S (wp_b (show wp ((b ρ).bind _) _ _ from f1)) kx.e fun y w ρ1 F1 H1 s1 ry f2 => ?_⟩
  obtain ⟨k1, e1, f3⟩ := wp_o (wp_b f2)
  obtain ⟨xs, e2, f4⟩ := wp_o (wp_b f3)
  obtain ⟨j, e3, f5⟩ := wp_o (wp_b f4)
  have e4 := toI_some e1
  subst e4
  obtain ⟨a, h, h1, h2, h3, h4, _⟩ := s1.st.obj (lstO_obj e2)
  rw [hu] at h1
  have e5 := Option.some.inj (Option.some.inj h1)
  subst e5
  obtain ⟨vs, rfl, h5⟩ := h4
  cases ry
  have s2 := s1.st.chg (q := .lst (xs.set j p)) (lstO_obj e2) hu ⟨vs.set j v, rfl, reps_set j h5 (rep_up s1.x.ff r)⟩
  exact ⟨a, vs, k1, j, rfl, rfl, h3, by rw [← reps_len h5]; exact e3, k _ σ F1 _ s1.x.ff s2.st f5⟩
/-! ### statements -/
def sSeq (a b : PSx) : PSx := fun ρ => match a ρ with
  | .nx ρ => b ρ
  | r => r
omit [Tbs] in
theorem ws_seq {a b : PSx} {ρ : Ro} {D : PD} : ws (sSeq a b ρ) D = ws (a ρ) ⟨fun ρ => ws (b ρ) D, D.rt, D.ro, D.bk, D.ct, D.ex⟩ := by unfold sSeq; cases a ρ <;> rfl
def sRet (a : PEx) : PSx := fun ρ => (a ρ).st fun p ρ => .rt p ρ
def sRetN : PSx := fun ρ => .rt .non ρ
def sDrop (a : PEx) : PSx := fun ρ => (a ρ).st fun _ ρ => .nx ρ
def sAsg (a : PEx) (g : PHx) : PSx := fun ρ => (a ρ).st fun p ρ => (g p ρ).st fun _ ρ => .nx ρ
def sPar (i j : Nat) (x : PAx) : PSx := fun ρ => (x ρ).st fun xs ρ => match xs with
  | [p, q] => .nx (slset (slset ρ i (.val p)) j (.val q))
  | _ => .bad
def sPar3 (i j l : Nat) (x : PAx) : PSx := fun ρ => (x ρ).st fun xs ρ => match xs with
  | [p, q, r] => .nx (slset (slset (slset ρ i (.val p)) j (.val q)) l (.val r))
  | _ => .bad
def sNext : PSx := fun ρ => .nx ρ
def sBreak : PSx := fun ρ => .bk ρ
def sCont : PSx := fun ρ => .ct ρ
def sIf (t : PTx) (a b : PSx) : PSx := fun ρ => (t ρ).st fun c ρ => pIte c (a ρ) (b ρ)
/-- a fresh object, one's own -/
def sOwn (i : Nat) (n : PNx) : PSx := fun ρ => (n ρ).st fun o ρ => .nx (slset ρ i (.loc o))
/-- x.append(y) of one's own list -/
def sApp (i : Nat) (a : PEx) : PSx := fun ρ => (ofO (lstO (sl ρ i)) ρ).st fun _ ρ => (a ρ).st fun p ρ => (ofO (lstO (sl ρ i)) ρ).st fun xs ρ => (ofO (gd (xs.length < 100000) ()) ρ).st fun _ ρ => .nx (slset ρ i ((sl ρ i).chg (.lst (xs ++ [p]))))
def locO : Sl → Option PO
  | .loc o => some o
  | _ => none
/-- from here on x is a value -/
def sFrz (i : Nat) (s : PSx) : PSx := fun ρ => (ofO (locO (sl ρ i)) ρ).st fun o ρ => s (slset ρ i (.val o.val))
def forX (g : PHx) (b : PSx) : List P → Ro → RS
  | [], ρ => .nx ρ
  | x :: xs, ρ => (g x ρ).st fun _ ρ => match b ρ with
    | .nx ρ => forX g b xs ρ
    | .ct ρ => forX g b xs ρ
    | .bk ρ => .nx ρ
    | r => r
def sFor (w : PIx) (g : PHx) (b : PSx) : PSx := fun ρ => (w ρ).st fun xs ρ => forX g b xs ρ
omit [Tbs] in
theorem ws_for {g : PHx} {b : PSx} {x : P} {xs : List P} {ρ : Ro} {D : PD} : ws (forX g b (x :: xs) ρ) D = wp (g x ρ) (fun _ ρ => ws (b ρ) ⟨fun ρ => ws (forX g b xs ρ) D, D.rt, D.ro, D.nx, fun ρ => ws (forX g b xs ρ) D, D.ex⟩) D.ex := by
  show ws ((g x ρ).st _) D = _
  rw [ws_st]
  congr 1
  funext _ ρ'
  cases b ρ' <;> rfl
def whX (t : PTx) (b : PSx) : Nat → Ro → RS
  | 0, _ => .bad
  | n + 1, ρ => (t ρ).st fun c ρ => pIte c (match b ρ with
    | .nx ρ => whX t b n ρ
    | .ct ρ => whX t b n ρ
    | .bk ρ => .nx ρ
    | r => r) (.nx ρ)
def sWhile (n : Nat) (t : PTx) (b : PSx) : PSx := fun ρ => whX t b n ρ
omit [Tbs] in
theorem ws_wh {t : PTx} {b : PSx} {n : Nat} {ρ : Ro} {D : PD} : ws (whX t b (n + 1) ρ) D = wp (t ρ) (fun c ρ => pIte c (ws (b ρ) ⟨fun ρ => ws (whX t b n ρ) D, D.rt, D.ro, D.nx, fun ρ => ws (whX t b n ρ) D, D.ex⟩) (D.nx ρ)) D.ex := by
  show ws ((t ρ).st _) D = _
  rw [ws_st]
  congr 1
  funext c ρ'
  cases c
  · rfl
  · show ws (match b ρ' with
    | .nx ρ => whX t b n ρ
    | .ct ρ => whX t b n ρ
    | .bk ρ => .nx ρ
    | r => r) D = ws (b ρ') _
    cases b ρ' <;> rfl
def sAugI (i : Nat) (f : Int → Int → Int) (a : PEx) : PSx := fun ρ => (pV i ρ).st fun x ρ => (a ρ).st fun y ρ => (ofO (toI x) ρ).st fun k ρ => (ofO (toI y) ρ).st fun m ρ => .nx (slset ρ i (.val (.int (f k m))))
variable {ta tb : TE} {a b : PEx} {t u : TA} {x y : PAx} {tt : TT} {m : PTx} {s1 s2 : TS} {p1 p2 : PSx}
theorem s_seq (h1 : SndS C s1 p1) (h2 : SndS C s2 p2) : SndS C (tSeq s1 s2) (sSeq p1 p2) := .mk fun {ρ σ F H D E} S h kx k => h1 (E := ⟨fun ρ => ws (p2 ρ) E, E.rt, E.ro, E.bk, E.ct, E.ex⟩) S (by rw [← ws_seq]; exact h) kx ⟨fun ρ' σ' F' H' e S' h' => h2 S' h' kx (k.up e), k.rt, k.ro, k.bk, k.ct⟩
theorem s_ret (ha : SndE C ta a) : SndS C (tRet ta) (sRet a) := .mk fun {ρ σ F H D E} S h kx k => ha S (ws_s h) kx.e fun p v ρ1 F1 H1 s1 r h => k.rt p v ρ1 σ F1 H1 s1.x.ff s1.st r h
theorem s_retN : SndS C tRetN sRetN := .mk fun {ρ σ F H D E} S h kx k => k.rt .non .non ρ σ F H (fun _ _ h => h) S rfl h
/-- a fresh object is returned -/
def sRetF (n : PNx) : PSx := fun ρ => (n ρ).st fun o ρ => .ro o ρ
/-- an object of one's own is returned -/
def sRetO (i : Nat) : PSx := fun ρ => (ofO (locO (sl ρ i)) ρ).st fun o ρ => .ro o (slset ρ i .un)
theorem s_retF {n : PNx} (hn : SndN C ta n) : SndS C (tRet ta) (sRetF n) := .mk fun {ρ σ F H D E} S h kx k => hn S (ws_s h) kx.e fun o a ho ρ1 F' H' s n0 nF e r h =>
  k.ro o a ho ρ1 σ F' H' s.x.ff s.st (S.x.back n0) nF e r (fun z => S.noOwn n0 (s.ow a z)) h
theorem s_retO {i : Nat} : SndS C (tRet (tVar i)) (sRetO i) := .mk fun {ρ σ F H D E} S hp kx k => by
  obtain ⟨o, e, hp⟩ := wp_o (ws_s hp)
  have e' : sl ρ i = .loc o := by
    cases q : sl ρ i <;> rw [q] at e <;> cases e
    rfl
  have hρ := sl_of e' (by simp)
  obtain ⟨w, hs, a, h, rfl, n0, nF, ha, r⟩ := S.at_ i _ hρ
  refine ⟨.ref a, hs, k.ro o a h _ (σ.set i (some (.ref a))) F H (fun _ _ h => h) S.forget n0 nF ha r (fun z => ?_) hp⟩
  obtain ⟨j, t, u, h1, h2, h3⟩ := z
  rw [slset_eq] at h1
  by_cases hj : i = j
  · subst hj
    rw [List.getElem?_set] at h1
    simp only [if_true] at h1
    split at h1
    · cases h1; cases h2
    · cases h1
  · rw [List.getElem?_set_ne hj] at h1 h3
    exact S.dis i j a _ _ hj hρ h1 rfl (by rw [h2]; rfl) hs h3
theorem s_drop (ha : SndE C ta a) : SndS C (tDrop ta) (sDrop a) := .mk fun S h kx k => ha S (ws_s h) kx.e fun p v ρ1 F1 H1 s1 r h => k.nx _ _ F1 H1 s1.x.ff s1.st h
theorem s_asg {g : TG} {pg : PHx} (ha : SndE C ta a) (hg : SndH C g pg) : SndS C (tAsg ta g) (sAsg a pg) := .mk fun {ρ σ F H D E} S h kx k => ha S (ws_s h) kx.e fun p v ρ1 F1 H1 s1 r h => hg.run (Qp := E.nx) s1.st r (ws_s h) kx fun ρ' σ' F2 H2 e S' h => k.nx _ _ F2 H2 (s1.x.ff.trans e) S' h
theorem s_set {i : Nat} (ha : SndE C ta a) : SndS C (tAsg ta (gName i)) (sAsg a (hN i)) := s_asg ha h_name
theorem s_par {i j : Nat} (hx : SndA C t x) : SndS C (tPar i j t) (sPar i j x) := .mk fun {ρ σ F H D E} S h kx k => hx S (ws_s h) kx.e fun ps vs ρ1 F1 H1 s1 rs h => by
  match ps, h with
  | [p, q], h =>
    obtain ⟨v, _, rfl, r1, w, _, rfl, r2, rfl⟩ := rs
    exact ⟨v, w, rfl, k.nx _ _ F1 H1 s1.x.ff ((s1.st.set r1).set r2) h⟩
/-- x, y = [..], e : x a list of one's own -/
def sParOwn (i j : Nat) (n : PNx) (b : PEx) : PSx := fun ρ => (n ρ).st fun o ρ => (b ρ).st fun p ρ => .nx (slset (slset ρ i (.loc o)) j (.val p))
theorem s_parOwn {i j : Nat} {n : PNx} (hn : SndN C ta n) (hb : SndE C tb b) : SndS C (tPar i j (tCons ta (tCons tb tNil))) (sParOwn i j n b) := .mk fun {ρ σ F H D E} S h kx k => hn S (ws_s h) kx.e fun o d ho ρ1 F1 H1 s n0 nF e r h => by
  refine hb s.st (ws_s h) kx.e fun p v ρ2 F2 H2 s2 rp h => ⟨.ref d, v, rfl, ?_⟩
  have no1 : ¬ OwnAt ρ1 σ d := fun z => S.noOwn n0 (s.ow d z)
  have no2 : ¬ OwnAt ρ2 σ d := fun z => no1 (s2.ow d z)
  have e2 : H2 d = some ho := s2.x.hh d ho no1 r.nt.1 e
  have nF2 : F2 d = none := s2.x.nw d nF (by rw [e]; rfl)
  exact k.nx _ _ F2 H2 (s.x.ff.trans s2.x.ff) ((s2.st.putLoc (S.x.back n0) nF2 e2 (repO_up s2.x.ff r) no2).set rp) h
theorem s_par3 {i j l : Nat} (hx : SndA C t x) : SndS C (tPar3 i j l t) (sPar3 i j l x) := .mk fun {ρ σ F H D E} S h kx k => hx S (ws_s h) kx.e fun ps vs ρ1 F1 H1 s1 rs h => by
  match ps, h with
  | [p, q, r], h =>
    obtain ⟨v, _, rfl, r1, w, _, rfl, r2, u, _, rfl, r3, rfl⟩ := rs
    exact ⟨v, w, u, rfl, k.nx _ _ F1 H1 s1.x.ff (((s1.st.set r1).set r2).set r3) h⟩
theorem s_next : SndS C tNext sNext := .mk fun {ρ σ F H D E} S h kx k => k.nx ρ σ F H (fun _ _ h => h) S h
theorem s_brk : SndS C tBreak sBreak := .mk fun {ρ σ F H D E} S h kx k => k.bk ρ σ F H (fun _ _ h => h) S h
theorem s_cont : SndS C tCont sCont := .mk fun {ρ σ F H D E} S h kx k => k.ct ρ σ F H (fun _ _ h => h) S h
theorem s_ifS (ht : SndT C tt m) (h1 : SndS C s1 p1) (h2 : SndS C s2 p2) : SndS C (tIfS tt s1 s2) (sIf m p1 p2) := .mk fun S h kx k => ht S (ws_s h) kx.e fun c ρ1 F1 H1 st h => by
  show if c = true then _ else _
  cases c with
  | true => exact h1 st.st h kx (k.up st.x.ff)
  | false => exact h2 st.st h kx (k.up st.x.ff)
theorem s_own {i : Nat} {n : PNx} (hn : SndN C ta n) : SndS C (tAsg ta (gName i)) (sOwn i n) := .mk fun {ρ σ F H D E} S h kx k => hn S (ws_s h) kx.e fun o a ho ρ1 F' H' s n0 nF e r h =>
  k.nx _ _ F' H' s.x.ff (s.st.putLoc (S.x.back n0) nF e r fun z => S.noOwn n0 (s.ow a z)) h
theorem s_frz {i : Nat} {s : TS} {p : PSx} (h : SndS C s p) : SndS C s (sFrz i p) := .mk fun {ρ σ F H D E} S hp kx k => by
  obtain ⟨o, e, hp⟩ := wp_o (ws_s hp)
  have e' : sl ρ i = .loc o := by
    cases q : sl ρ i <;> rw [q] at e <;> cases e
    rfl
  obtain ⟨F', ef, S'⟩ := S.freeze e'
  exact h S' hp kx (k.up ef)
theorem s_app {i : Nat} (ha : SndE C ta a) : SndS C (tDrop (tBM C.K "list" rAppend (tVar i) (tCons ta tNil))) (sApp i a) := .mk fun {ρ σ F H D E} S f0 kx k => by
  obtain ⟨ys, e0, f1⟩ := wp_o (ws_s f0)
  obtain ⟨c, h0, g1, _, g3, ⟨us, g4, _⟩, _⟩ := S.obj (lstO_obj e0)
  subst g4
  refine ⟨.ref c, g1, .inl ⟨rfl, us, SqL.of g3⟩, ha S (ws_s f1) kx.e fun p v ρ1 F1 H1 s1 rp f2 => ?_⟩
  obtain ⟨xs, e2, f3⟩ := wp_o (ws_s f2)
  obtain ⟨_, e3, f4⟩ := wp_o (ws_s f3)
  obtain ⟨c', h', k1, _, k3, ⟨vs, k4, k5⟩, _⟩ := s1.st.obj (lstO_obj e2)
  rw [g1] at k1
  have e5 := V.ref.inj (Option.some.inj (Option.some.inj k1))
  subst e5
  subst k4
  have s2 := s1.st.chg (q := .lst (xs ++ [p])) (lstO_obj e2) g1 ⟨vs ++ [v], rfl, reps_app k5 (reps_one rp)⟩
  exact ⟨c, vs, v, rfl, rfl, k3, smallL (by rw [← reps_len k5]; exact (gd_some e3).1), k.nx _ σ F1 _ s1.x.ff s2.st f4⟩
/-- x.pop(k), x one's own list -/
def pPopAt (i : Nat) (a : PEx) : PEx := fun ρ => (ofO (lstO (sl ρ i)) ρ).bind fun _ ρ => (a ρ).bind fun y ρ => (ofO (toI y) ρ).bind fun n ρ => (ofO (lstO (sl ρ i)) ρ).bind fun xs ρ => (ofO (gd (0 ≤ n ∧ n < 100000) ()) ρ).bind fun _ ρ =>
  (ofO xs[n.toNat]? ρ).bind fun z ρ => .ok z (slset ρ i ((sl ρ i).chg (.lst (xs.eraseIdx n.toNat))))
omit [Tbs] in
theorem seq_at {n : Nat} {k : Nat} (h : k < n) : seqIndex? (k : Int) n = some k := by
  have e : L2.ixN n (k : Int) = some k := by unfold L2.ixN; rw [if_pos (by omega), if_pos (by omega)]; simp
  exact (ixN_seq e).1
theorem s_popAt {i : Nat} (ha : SndE C ta a) : SndE C (tBM C.K "list" rPopAt (tVar i) (tCons ta tNil)) (pPopAt i a) := .mk fun {ρ σ F H Q Qp E} S f0 kx k => by
  obtain ⟨ys, e0, f1⟩ := wp_o (wp_b f0)
  obtain ⟨c, h0, g1, _, g3, ⟨us, g4, _⟩, _⟩ := S.obj (lstO_obj e0)
  subst g4
  refine ⟨.ref c, g1, .inl ⟨rfl, us, SqL.of g3⟩, ha S (wp_b f1) kx fun p v ρ1 F1 H1 s1 rp f2 => ?_⟩
  obtain ⟨n, e1, f3⟩ := wp_o (wp_b f2)
  obtain ⟨xs, e2, f4⟩ := wp_o (wp_b f3)
  obtain ⟨_, e3, f5⟩ := wp_o (wp_b f4)
  obtain ⟨z, e4, f6⟩ := wp_o (wp_b f5)
  have e6 := toI_some e1
  subst e6
  obtain ⟨c', h', k1, _, k3, ⟨vs, k4, k5⟩, _⟩ := s1.st.obj (lstO_obj e2)
  rw [g1] at k1
  have e5 := V.ref.inj (Option.some.inj (Option.some.inj k1))
  subst e5
  subst k4
  cases rp
  obtain ⟨⟨n0, n1⟩, _⟩ := gd_some e3
  obtain ⟨m, rfl⟩ := Int.eq_ofNat_of_zero_le n0
  have hm : m < xs.length := (List.getElem?_eq_some_iff.mp e4).1
  obtain ⟨u, hu, ru⟩ := reps_get k5 e4
  have rE : Reps C.K (xs.eraseIdx m) (vs.eraseIdx m) F1 := by
    rw [List.eraseIdx_eq_take_drop_succ, List.eraseIdx_eq_take_drop_succ]
    exact reps_app (reps_take m k5) (reps_drop (m + 1) k5)
  have s2 := s1.st.chg (q := .lst (xs.eraseIdx m)) (lstO_obj e2) g1 ⟨_, rfl, rE⟩
  exact ⟨c, vs, m, m, u, rfl, rfl, k3, by omega, by omega, by rw [← reps_len k5]; exact seq_at hm, hu, k z u _ F1 _ (s1.trans s2) ru f6⟩
/-- x.pop(), x one's own list -/
def pPop (i : Nat) : PEx := fun ρ => (ofO (lstO (sl ρ i)) ρ).bind fun xs ρ => (ofO xs[xs.length - 1]? ρ).bind fun z ρ => .ok z (slset ρ i ((sl ρ i).chg (.lst xs.dropLast)))
theorem s_pop {i : Nat} : SndE C (tBM0 C.K "list" rPop (tVar i)) (pPop i) := .mk fun {ρ σ F H Q Qp E} S f0 kx k => by
  obtain ⟨xs, e0, f1⟩ := wp_o (wp_b f0)
  obtain ⟨z, e4, f2⟩ := wp_o (wp_b f1)
  obtain ⟨c, h0, g1, _, g3, ⟨us, g4, g5⟩, _⟩ := S.obj (lstO_obj e0)
  subst g4
  obtain ⟨u, hu, ru⟩ := reps_get g5 e4
  have s2 := S.chg (q := .lst xs.dropLast) (lstO_obj e0) g1 ⟨us.dropLast, rfl, by rw [List.dropLast_eq_take, List.dropLast_eq_take, ← reps_len g5]; exact reps_take _ g5⟩
  exact ⟨.ref c, g1, .inl ⟨rfl, us, SqL.of g3⟩, c, us, u, rfl, rfl, g3, by rw [← reps_len g5]; exact hu, k z u _ F _ s2 ru f2⟩
theorem s_augI {i : Nat} {f : Int → Int → Int} (ha : SndE C ta a) : SndS C (tAug i ta (ipI f)) (sAugI i f a) := .mk fun {ρ σ F H D E} S f0 kx k => by
  obtain ⟨x, e0, f1⟩ := wp_o (ws_s f0)
  have e1 : sl ρ i = .val x := by
    cases q : sl ρ i <;> rw [q] at e0 <;> cases e0
    rfl
  obtain ⟨v, hv, rv⟩ := S.val e1
  refine ⟨v, hv, ha S (ws_s f1) kx.e fun y w ρ1 F1 H1 s1 ry f2 => ?_⟩
  obtain ⟨k1, e2, f3⟩ := wp_o (ws_s f2)
  obtain ⟨k2, e3, f4⟩ := wp_o (ws_s f3)
  cases toI_some e2
  cases toI_some e3
  cases rv
  cases ry
  exact ⟨k1, k2, rfl, rfl, k.nx _ _ F1 H1 s1.x.ff (s1.st.set (p := .int (f k1 k2)) rfl) f4⟩
theorem s_for {wi : TI} {w : PIx} {g : TG} {pg : PHx} (hi : SndI C wi w) (hg : SndH C g pg) (hb : SndS C s1 p1) : SndS C (tFor wi g s1) (sFor w pg p1) := .mk fun {ρ σ F H D E} S h kx k => hi S (ws_s h) kx.e fun xs J ρ0 F0 H0 s0 wk h => by
  refine ⟨fun i n σ1 H1 => n = xs.length - i ∧ i ≤ xs.length ∧ ∃ ρ1 F1, Stt C ρ1 σ1 F1 H1 ∧ Ex F0 F1 ∧ ws (forX pg p1 (xs.drop i) ρ1) E, ⟨xs.length, by omega, Nat.zero_le _, ρ0, F0, s0.st, fun _ _ h => h, h⟩, ?_⟩
  rintro i n σ1 H1 ⟨rfl, hi, ρ1, F1, S1, e1, hw⟩
  by_cases hlt : i < xs.length
  · have gx : xs[i]? = some xs[i] := List.getElem?_eq_getElem hlt
    rw [List.drop_eq_getElem_cons hlt, ws_for] at hw
    refine .inr ⟨wk.goes i F1 H1 hlt ⟨e1, S1.x.fh⟩, fun σ' H' => ∃ ρ1 F1, Stt C ρ1 σ' F1 H' ∧ Ex F0 F1 ∧ ws (forX pg p1 (xs.drop (i + 1)) ρ1) E, fun σ' H' p => ⟨xs.length - (i + 1), by omega, rfl, hlt, p⟩, fun v H' y => ?_⟩
    obtain ⟨F2, x2, x', hx', rx⟩ := wk.yields i F1 H1 v H' hlt ⟨e1, S1.x.fh⟩ y
    rw [gx] at hx'
    cases hx'
    have e2 := e1.trans x2.ff
    refine hg.run (Stp.ext S1 x2).st rx hw kx fun ρ2 σ2 F3 H3 e3 S3 hw => ?_
    have e3 := e2.trans e3
    exact hb S3 hw kx ⟨fun ρ3 σ3 F4 H4 e4 S4 w3 => ⟨ρ3, F4, S4, e3.trans e4, w3⟩, fun p v ρ4 σ4 F4 H4 e4 => k.rt p v ρ4 σ4 F4 H4 (s0.x.ff.trans (e3.trans e4)), fun o a ho ρ4 σ4 F4 H4 e4 => k.ro o a ho ρ4 σ4 F4 H4 (s0.x.ff.trans (e3.trans e4)), fun ρ3 σ3 F4 H4 e4 S4 w3 => k.nx ρ3 σ3 F4 H4 (s0.x.ff.trans (e3.trans e4)) S4 w3, fun ρ3 σ3 F4 H4 e4 S4 w3 => ⟨ρ3, F4, S4, e3.trans e4, w3⟩⟩
  · have e : i = xs.length := by omega
    subst e
    rw [List.drop_length] at hw
    exact .inl ⟨wk.stops F1 H1 ⟨e1, S1.x.fh⟩, k.nx ρ1 σ1 F1 H1 (s0.x.ff.trans e1) S1 hw⟩
theorem s_while {n : Nat} (ht : SndT C tt m) (hb : SndS C s1 p1) : SndS C (tWhile tt s1) (sWhile n m p1) := .mk fun {ρ σ F H D E} S h kx k => by
  refine ⟨fun n σ1 H1 => ∃ ρ1 F1, Stt C ρ1 σ1 F1 H1 ∧ Ex F F1 ∧ ws (whX m p1 n ρ1) E, ⟨n, ρ, F, S, fun _ _ h => h, h⟩, ?_⟩
  rintro n σ1 H1 ⟨ρ1, F1, S1, e1, hw⟩
  cases n with
  | zero => exact hw.elim
  | succ n =>
    rw [ws_wh] at hw
    refine ht S1 hw kx.e fun c ρ2 F2 H2 s2 hw => ?_
    have e2 := e1.trans s2.x.ff
    show if c = true then _ else _
    cases c with
    | true =>
      refine ⟨fun σ' H' => ∃ ρ1 F1, Stt C ρ1 σ' F1 H' ∧ Ex F F1 ∧ ws (whX m p1 n ρ1) E, fun σ' H' p => ⟨n, Nat.lt_succ_self n, p⟩, ?_⟩
      exact hb s2.st hw kx ⟨fun ρ3 σ3 F3 H3 e3 S3 w3 => ⟨ρ3, F3, S3, e2.trans e3, w3⟩, fun p v ρ4 σ4 F3 H3 e3 => k.rt p v ρ4 σ4 F3 H3 (e2.trans e3), fun o a ho ρ4 σ4 F3 H3 e3 => k.ro o a ho ρ4 σ4 F3 H3 (e2.trans e3), fun ρ3 σ3 F3 H3 e3 S3 w3 => k.nx ρ3 σ3 F3 H3 (e2.trans e3) S3 w3, fun ρ3 σ3 F3 H3 e3 S3 w3 => ⟨ρ3, F3, S3, e2.trans e3, w3⟩⟩
    | false => exact k.nx _ _ F2 H2 e2 s2.st hw
def sNever : PSx := fun _ => .bad
theorem s_never : SndS C tNever sNever := .mk fun S h kx k => h.elim
end
end FX

/-! defs: promises, calls; objects handed in come back changed -/
namespace FX
open PySem PySem.Spec PyProof.Rows L2 RZ PX
variable [Tbs]
/-- what comes of a call: the value, the objects that were handed in as they are then -/
inductive RF where
  | bad | ok (p : P) (os : List PO) | ex (e : Xn) (os : List PO)
abbrev FL := List Sl → RF
def wf (r : RF) (Q : P → List PO → Prop) (E : Xn → List PO → Prop) : Prop := match r with
  | .bad => False
  | .ok p os => Q p os
  | .ex e os => E e os
omit [Tbs] in
theorem wf_mono {r : RF} {Q Q' : P → List PO → Prop} {E E' : Xn → List PO → Prop} (h : wf r Q E) (k : ∀ p os, Q p os → Q' p os) (l : ∀ e os, E e os → E' e os) : wf r Q' E' := by
  cases r
  · exact h
  · exact k _ _ h
  · exact l _ _ h
def ArgR (K : PySem.W.Frag) (s : Sl) (v : V) (F H : Hp) : Prop := match s with
  | .val p => Rep K p v F
  | .io o => ∃ a h, v = .ref a ∧ F a = none ∧ H a = some h ∧ RepO K o h F
  | _ => False
structure ArgsOk (K : PySem.W.Frag) (xs : List Sl) (vs : List V) (F H : Hp) : Prop where
  len : xs.length = vs.length
  at_ : ∀ (i : Nat) (s : Sl), xs[i]? = some s → ∃ v, vs[i]? = some v ∧ ArgR K s v F H
  dis : ∀ (i j : Nat) (a : Addr) (o o' : PO), i ≠ j → xs[i]? = some (.io o) → xs[j]? = some (.io o') → vs[i]? = some (.ref a) → vs[j]? = some (.ref a) → False
def IoAt (xs : List Sl) (vs : List V) (a : Addr) : Prop := ∃ (i : Nat) (o : PO), xs[i]? = some (.io o) ∧ vs[i]? = some (V.ref a)
def outAt : List Sl → List PO → Nat → Option PO
  | .io _ :: _, o :: _, 0 => some o
  | .io _ :: xs, _ :: os, i + 1 => outAt xs os i
  | .io _ :: _, [], _ => none
  | _ :: _, _, 0 => none
  | _ :: xs, os, i + 1 => outAt xs os i
  | [], _, _ => none
def OsOk (K : PySem.W.Frag) (xs : List Sl) (vs : List V) (os : List PO) (F H : Hp) : Prop := ∀ (i : Nat) (o : PO), xs[i]? = some (.io o) → ∃ o' a h, outAt xs os i = some o' ∧ vs[i]? = some (.ref a) ∧ F a = none ∧ H a = some h ∧ RepO K o' h F
/-- a def's promise out of a pure one -/
def liftF (K : PySem.W.Frag) (n : Nat) (f : FL) : Sp := fun vs H Q E => ∃ (F : Hp) (xs : List Sl) (Qp : P → List PO → Prop) (Ep : Xn → List PO → Prop), Ex F H ∧ ArgsOk K xs vs F H ∧ TbOk F H ∧ xs.length = n ∧ wf (f xs) Qp Ep ∧
  (∀ p v os F' H', Fr (IoAt xs vs) F H F' H' → OsOk K xs vs os F' H' → Rep K p v F' → Qp p os → Q v H') ∧
  (∀ e cls d os F' H', Fr (IoAt xs vs) F H F' H' → OsOk K xs vs os F' H' → RepX K e cls d F' H' → Ep e os → E cls d H')
theorem liftF_len {K : PySem.W.Frag} {n : Nat} {f : FL} : ∀ vs H Q E, liftF K n f vs H Q E → vs.length = n := fun vs H Q E ⟨F, xs, _, _, _, a, _, h, _⟩ => by rw [← a.len]; exact h
/-! ### arguments -/
abbrev PGa := Ro → R (List Sl)
def AgOk (K : PySem.W.Frag) (ρ : Ro) (σ : L2.St) (F : Hp) : List (Option Nat) → List Sl → List V → Prop
  | [], [], [] => True
  | none :: js, s :: xs, v :: vs => (∃ p, s = .val p ∧ Rep K p v F) ∧ AgOk K ρ σ F js xs vs
  | some j :: js, s :: xs, v :: vs => (σ[j]? = some (some v) ∧ ((∃ p, s = .val p ∧ Rep K p v F) ∨ ∃ o, s = .io o ∧ (sl ρ j).obj = some o)) ∧ AgOk K ρ σ F js xs vs
  | _, _, _ => False
structure SndAg (C : Cc) (js : List (Option Nat)) (t : TA) (e : PGa) : Prop where
  run : ∀ {ρ : Ro} {σ : L2.St} {F H : Hp} {Q : List V → Hp → Prop} {Qp : List Sl → Ro → Prop} {E : EP}, Stt C ρ σ F H → wp (e ρ) Qp E → XOe C σ ρ F H E →
    (∀ xs vs ρ' F' H', Stp C σ ρ F H ρ' F' H' → AgOk C.K ρ' σ F' js xs vs → Qp xs ρ' → Q vs H') → t σ H Q
def gaN : PGa := fun ρ => .ok [] ρ
def gaC (a : PEx) (r : PGa) : PGa := fun ρ => (a ρ).bind fun x ρ => (r ρ).bind fun xs ρ => .ok (.val x :: xs) ρ
def argS : Sl → Option Sl
  | .val p => some (.val p)
  | .loc o => some (.io o)
  | .io o => some (.io o)
  | .un => none
/-- slot j as it stands, by reference -/
def gaR (j : Nat) (r : PGa) : PGa := fun ρ => (ofO (argS (sl ρ j)) ρ).bind fun _ ρ => (r ρ).bind fun xs ρ => (ofO (argS (sl ρ j)) ρ).bind fun s ρ => .ok (s :: xs) ρ
theorem ag_nil {C : Cc} : SndAg C [] tNil gaN := .mk fun {ρ σ F H Q Qp E} S h kx k => k [] [] ρ F H (Stp.refl S) True.intro h
theorem ag_cons {C : Cc} {js : List (Option Nat)} {ta : TE} {a : PEx} {t : TA} {r : PGa} (ha : SndE C ta a) (hr : SndAg C js t r) : SndAg C (none :: js) (tCons ta t) (gaC a r) := .mk fun {ρ σ F H Q Qp E} S h kx k => ha S (wp_b h) kx fun p v ρ1 F1 H1 s1 rp h =>
  hr.run s1.st (wp_b h) (kx.to s1) fun xs vs ρ2 F2 H2 s2 ok h => k (.val p :: xs) (v :: vs) ρ2 F2 H2 (s1.trans s2) ⟨⟨p, rfl, rep_up s2.x.ff rp⟩, ok⟩ h
omit [Tbs] in
theorem argS_some {s t : Sl} (h : argS s = some t) : (∃ p, s = .val p ∧ t = .val p) ∨ ∃ o, s.obj = some o ∧ t = .io o := by
  cases s <;> cases h
  · exact .inl ⟨_, rfl, rfl⟩
  · exact .inr ⟨_, rfl, rfl⟩
  · exact .inr ⟨_, rfl, rfl⟩
theorem ag_ref {C : Cc} {js : List (Option Nat)} {j : Nat} {t : TA} {r : PGa} (hr : SndAg C js t r) : SndAg C (some j :: js) (tCons (tVar j) t) (gaR j r) := .mk fun {ρ σ F H Q Qp E} S f0 kx k => by
  obtain ⟨s0, e0, f1⟩ := wp_o (wp_b f0)
  obtain ⟨v, hv⟩ : ∃ v, σ[j]? = some (some v) := by
    rcases argS_some e0 with ⟨p, e, _⟩ | ⟨o, e, _⟩
    · obtain ⟨v, hv, _⟩ := S.val e; exact ⟨v, hv⟩
    · obtain ⟨a, h, hv, _⟩ := S.obj e; exact ⟨_, hv⟩
  refine ⟨v, hv, hr.run S (wp_b f1) kx fun xs vs ρ2 F2 H2 s2 ok f2 => ?_⟩
  obtain ⟨s, e1, f3⟩ := wp_o (wp_b f2)
  refine k (s :: xs) (v :: vs) ρ2 F2 H2 s2 ⟨⟨hv, ?_⟩, ok⟩ f3
  rcases argS_some e1 with ⟨p, e, e2⟩ | ⟨o, e, e2⟩
  · obtain ⟨v', hv', rv⟩ := s2.st.val e
    rw [hv] at hv'
    have e3 := Option.some.inj (Option.some.inj hv')
    subst e3
    exact .inl ⟨p, e2, rv⟩
  · exact .inr ⟨o, e2, e⟩
theorem agok_len {K : PySem.W.Frag} {ρ : Ro} {σ : L2.St} {F : Hp} : ∀ {js : List (Option Nat)} {xs : List Sl} {vs : List V}, AgOk K ρ σ F js xs vs → xs.length = vs.length
  | [], [], [], _ => rfl
  | none :: _, _ :: _, _ :: _, h => congrArg (· + 1) (agok_len h.2)
  | some _ :: _, _ :: _, _ :: _, h => congrArg (· + 1) (agok_len h.2)
theorem agok_at {K : PySem.W.Frag} {ρ : Ro} {σ : L2.St} {F : Hp} : ∀ {js : List (Option Nat)} {xs : List Sl} {vs : List V} {i : Nat} {s : Sl}, AgOk K ρ σ F js xs vs → xs[i]? = some s →
    ∃ v, vs[i]? = some v ∧ ((∃ p, s = .val p ∧ Rep K p v F) ∨ ∃ j o, js[i]? = some (some j) ∧ s = .io o ∧ σ[j]? = some (some v) ∧ (sl ρ j).obj = some o)
  | [], [], [], i, s, _, e => by simp at e
  | none :: js, x :: xs, v :: vs, 0, s, h, e => by
    have e := Option.some.inj e
    subst e
    exact ⟨v, rfl, .inl h.1⟩
  | none :: js, x :: xs, v :: vs, i + 1, s, h, e => agok_at (i := i) h.2 (show xs[i]? = some s by simpa using e)
  | some j :: js, x :: xs, v :: vs, 0, s, h, e => by
    have e := Option.some.inj e
    subst e
    rcases h.1.2 with q | ⟨o, q1, q2⟩
    · exact ⟨v, rfl, .inl q⟩
    · exact ⟨v, rfl, .inr ⟨j, o, rfl, q1, h.1.1, q2⟩⟩
  | some _ :: js, x :: xs, v :: vs, i + 1, s, h, e => agok_at (i := i) h.2 (show xs[i]? = some s by simpa using e)
/-- no slot is handed in twice -/
def nodupJ (js : List (Option Nat)) : Prop := ∀ (i j k : Nat), i ≠ j → js[i]? = some (some k) → js[j]? = some (some k) → False
def nodupB : List (Option Nat) → Bool
  | [] => true
  | none :: r => nodupB r
  | some j :: r => !(r.contains (some j)) && nodupB r
omit [Tbs] in
theorem nodup_of : ∀ {js : List (Option Nat)}, nodupB js = true → nodupJ js
  | [], _ => fun i j k _ e _ => by simp at e
  | none :: r, h => fun i j k n e1 e2 => by
    cases i with
    | zero => cases e1
    | succ i =>
      cases j with
      | zero => cases e2
      | succ j => exact nodup_of (js := r) h i j k (fun z => n (by rw [z])) (by simpa using e1) (by simpa using e2)
  | some m :: r, h => fun i j k n e1 e2 => by
    have h' : (!(r.contains (some m)) && nodupB r) = true := h
    rw [Bool.and_eq_true, Bool.not_eq_true'] at h'
    have nm : ∀ x, r[x]? ≠ some (some m) := fun x z => by
      have := List.mem_of_getElem? z
      have := List.contains_iff_mem.mpr this
      rw [h'.1] at this; cases this
    cases i with
    | zero =>
      cases e1
      cases j with
      | zero => exact n rfl
      | succ j => exact nm j (by simpa using e2)
    | succ i =>
      cases j with
      | zero => cases e2; exact nm i (by simpa using e1)
      | succ j => exact nodup_of (js := r) h'.2 i j k (fun z => n (by rw [z])) (by simpa using e1) (by simpa using e2)
theorem agok_args {C : Cc} {ρ : Ro} {σ : L2.St} {F H : Hp} {js : List (Option Nat)} {xs : List Sl} {vs : List V} (S : Stt C ρ σ F H) (nd : nodupJ js) (h : AgOk C.K ρ σ F js xs vs) : ArgsOk C.K xs vs F H := by
  refine ⟨agok_len h, fun i s e => ?_, fun i j a o o' n e1 e2 v1 v2 => ?_⟩
  · obtain ⟨v, hv, q⟩ := agok_at h e
    refine ⟨v, hv, ?_⟩
    rcases q with ⟨p, rfl, r⟩ | ⟨j, o, h1, rfl, h2, h3⟩
    · exact r
    · obtain ⟨a, ho, k1, k2, k3, k4, _⟩ := S.obj h3
      rw [h2] at k1
      exact ⟨a, ho, Option.some.inj (Option.some.inj k1), k2, k3, k4⟩
  · obtain ⟨u, hu, q⟩ := agok_at h e1
    obtain ⟨w, hw, q'⟩ := agok_at h e2
    rw [v1] at hu
    rw [v2] at hw
    cases hu
    cases hw
    rcases q with ⟨p, z, _⟩ | ⟨j1, o1, a1, a2, a3, a4⟩
    · cases z
    rcases q' with ⟨p, z, _⟩ | ⟨j2, o2, b1, b2, b3, b4⟩
    · cases z
    have g : ∀ {m : Nat} {q : PO}, (sl ρ m).obj = some q → ρ[m]? = some (sl ρ m) := fun {m q} z => sl_of rfl fun y => by rw [y] at z; cases z
    exact S.dis j1 j2 a _ _ (fun z => nd i j j1 n a1 (by rw [z]; exact b1)) (g a4) (g b4) (by rw [a4]; rfl) (by rw [b4]; rfl) a3 b3
/-! ### written back -/
def wb : List (Option Nat) → List Sl → List PO → Ro → Ro
  | some j :: js, .io _ :: xs, o :: os, ρ => wb js xs os (slset ρ j ((sl ρ j).chg o))
  | _ :: js, .io _ :: xs, _ :: os, ρ => wb js xs os ρ
  | _ :: js, _ :: xs, os, ρ => wb js xs os ρ
  | _, _, _, ρ => ρ
omit [Tbs] in
theorem outAt_nil : ∀ {xs : List Sl} {i : Nat}, outAt xs [] i = none
  | [], _ => rfl
  | .un :: _, 0 => rfl
  | .val _ :: _, 0 => rfl
  | .loc _ :: _, 0 => rfl
  | .io _ :: _, 0 => rfl
  | .io _ :: _, _ + 1 => rfl
  | .un :: xs, i + 1 => outAt_nil (xs := xs) (i := i)
  | .val _ :: xs, i + 1 => outAt_nil (xs := xs) (i := i)
  | .loc _ :: xs, i + 1 => outAt_nil (xs := xs) (i := i)
omit [Tbs] in
theorem wb_len : ∀ {js : List (Option Nat)} {xs : List Sl} {os : List PO} {ρ : Ro}, (wb js xs os ρ).length = ρ.length := by
  intro js xs os ρ
  fun_induction wb js xs os ρ with
  | case1 j js o' xs o os ρ ih => rw [ih, slset_len]
  | case2 => assumption
  | case3 => assumption
  | case4 => rfl
omit [Tbs] in
theorem wb_at {js : List (Option Nat)} {xs : List Sl} {os : List PO} {ρ : Ro} (nd : nodupJ js) {k : Nat} {s' : Sl} (h : (wb js xs os ρ)[k]? = some s') : ∃ s, ρ[k]? = some s ∧
    ((s' = s ∧ ∀ i o o', js[i]? = some (some k) → xs[i]? = some (.io o) → outAt xs os i = some o' → False) ∨ ∃ i o o', js[i]? = some (some k) ∧ xs[i]? = some (.io o) ∧ outAt xs os i = some o' ∧ s' = s.chg o') := by
  have tail : ∀ {x : Option Nat} {r : List (Option Nat)}, nodupJ (x :: r) → nodupJ r := fun {x r} n i j m h1 h2 h3 => n (i + 1) (j + 1) m (by omega) (by simpa using h2) (by simpa using h3)
  fun_induction wb js xs os ρ with
  | case1 j js o1 xs o os ρ ih =>
    obtain ⟨s1, h1, h2⟩ := ih (tail nd) h
    rw [slset_eq] at h1
    by_cases hk : j = k
    · subst hk
      have no : ∀ i, js[i]? ≠ some (some j) := fun i z => nd 0 (i + 1) j (by omega) rfl (by simpa using z)
      rcases h2 with ⟨e, _⟩ | ⟨i, _, _, z, _⟩
      · have hl : j < ρ.length := by
          have := (List.getElem?_eq_some_iff.mp h1).1
          rw [List.length_set] at this
          exact this
        rw [List.getElem?_set_self hl] at h1
        cases h1
        refine ⟨ρ[j], List.getElem?_eq_getElem hl, .inr ⟨0, o1, o, rfl, rfl, rfl, ?_⟩⟩
        rw [e, show sl ρ j = ρ[j] from sl_at (List.getElem?_eq_getElem hl)]
      · exact (no i z).elim
    · rw [List.getElem?_set_ne hk] at h1
      refine ⟨s1, h1, ?_⟩
      rcases h2 with ⟨e, z⟩ | ⟨i, a, b, z1, z2, z3, z4⟩
      · refine .inl ⟨e, fun i a b h1 h2 h3 => ?_⟩
        cases i with
        | zero => exact hk (Option.some.inj (Option.some.inj h1))
        | succ i => exact z i a b (by simpa using h1) (by simpa using h2) h3
      · exact .inr ⟨i + 1, a, b, by simpa using z1, by simpa using z2, z3, z4⟩
  | case2 js xs os ρ o1 o2 x hx ih =>
    obtain ⟨s1, h1, h2⟩ := ih (tail nd) h
    refine ⟨s1, h1, ?_⟩
    rcases h2 with ⟨e, z⟩ | ⟨i, a, b, z1, z2, z3, z4⟩
    · refine .inl ⟨e, fun i a b h1 h2 h3 => ?_⟩
      cases i with
      | zero => exact hx k (Option.some.inj h1)
      | succ i => exact z i a b (by simpa using h1) (by simpa using h2) h3
    · exact .inr ⟨i + 1, a, b, by simpa using z1, by simpa using z2, z3, z4⟩
  | case3 j0 js x xs os ρ hs1 hs2 ih =>
    obtain ⟨s1, h1, h2⟩ := ih (tail nd) h
    refine ⟨s1, h1, ?_⟩
    by_cases he : os = []
    · subst he
      rcases h2 with ⟨e, z⟩ | ⟨i, a, b, z1, z2, z3, z4⟩
      · exact .inl ⟨e, fun i a b h1 h2 h3 => by rw [outAt_nil] at h3; cases h3⟩
      · rw [outAt_nil] at z3; cases z3
    · obtain ⟨o0, r0, rfl⟩ := List.exists_cons_of_ne_nil he
      have ns : ∀ o, x ≠ .io o := fun o z => hs2 o o0 r0 rfl z
      have step : ∀ i, outAt (x :: xs) (o0 :: r0) (i + 1) = outAt xs (o0 :: r0) i := fun i => by
        cases x <;> first | rfl | exact absurd rfl (ns _)
      rcases h2 with ⟨e, z⟩ | ⟨i, a, b, z1, z2, z3, z4⟩
      · refine .inl ⟨e, fun i a b h1 h2 h3 => ?_⟩
        cases i with
        | zero => exact ns a (Option.some.inj h2)
        | succ i =>
          rw [step] at h3
          exact z i a b (by simpa using h1) (by simpa using h2) h3
      · exact .inr ⟨i + 1, a, b, by simpa using z1, by simpa using z2, by rw [step]; exact z3, z4⟩
  | case4 js xs os ρ n1 n2 n3 =>
    refine ⟨s', h, .inl ⟨rfl, fun i a b h1 h2 h3 => ?_⟩⟩
    cases js with
    | nil => simp at h1
    | cons j js =>
      cases xs with
      | nil => simp at h2
      | cons x xs => exact n3 j js x xs rfl rfl
theorem Stt.after {C : Cc} {ρ ρ' : Ro} {σ : L2.St} {F H F' H' : Hp} {A : Addr → Prop} (S : Stt C ρ σ F H) (x : Fr A F H F' H') (hA : ∀ a, A a → OwnAt ρ σ a) (hl : ρ'.length = ρ.length)
    (h : ∀ (k : Nat) (s' : Sl), ρ'[k]? = some s' → ∃ s : Sl, ρ[k]? = some s ∧ ((s' = s ∧ ∀ a, s.obj.isSome = true → σ[k]? = some (some (V.ref a)) → ¬ A a) ∨ ∃ (o o' : PO) (a : Addr) (h : HO), s.obj = some o ∧ s' = s.chg o' ∧ σ[k]? = some (some (V.ref a)) ∧ F' a = none ∧ H' a = some h ∧ RepO C.K o' h F')) : Stp C σ ρ F H ρ' F' H' := by
  have kinds : ∀ {k : Nat} {s' : Sl}, ρ'[k]? = some s' → s'.obj.isSome = true → ∃ s : Sl, ρ[k]? = some s ∧ s.obj.isSome = true := fun {k s'} e z => by
    obtain ⟨s, h1, h2⟩ := h k s' e
    refine ⟨s, h1, ?_⟩
    rcases h2 with ⟨e2, _⟩ | ⟨o, _, _, _, e2, _⟩
    · rw [← e2]; exact z
    · rw [e2]; rfl
  have x' : Fr (OwnAt ρ σ) F H F' H' := x.imp hA
  refine ⟨⟨S.frame x', by rw [hl]; exact S.len, fun k s' e => ?_, fun i j a s t n e1 e2 h1 h2 e3 e4 => ?_⟩, x', fun a ⟨k, s', o, e1, e2, e3⟩ => ?_⟩
  · obtain ⟨s, h1, h2⟩ := h k s' e
    obtain ⟨v, h3, h4⟩ := S.at_ k s h1
    refine ⟨v, h3, ?_⟩
    rcases h2 with ⟨e2, h5⟩ | ⟨o, o', a, ho, e2, e5, e6, e7, e8, e9⟩
    · subst e2
      cases s' with
      | un => exact h4
      | val p => obtain ⟨v, e, h4⟩ := h4; exact ⟨v, e, rep_up x.ff h4⟩
      | loc q =>
        obtain ⟨a, ho, g1, g2, g3, g4, g5⟩ := h4
        subst g1
        exact ⟨a, ho, rfl, g2, x.nw a g3 (by rw [g4]; rfl), x.hh a ho (h5 a rfl h3) g5.nt.1 g4, repO_up x.ff g5⟩
      | io q =>
        obtain ⟨a, ho, g1, g2, g3, g4, g5⟩ := h4
        subst g1
        exact ⟨a, ho, rfl, g2, x.nw a g3 (by rw [g4]; rfl), x.hh a ho (h5 a rfl h3) g5.nt.1 g4, repO_up x.ff g5⟩
    · subst e5
      rw [h3] at e6
      have e6 := Option.some.inj e6
      subst e6
      cases s with
      | un => cases e2
      | val p => cases e2
      | loc q =>
        obtain ⟨b, hb, g1, g2, g3, g4, g5⟩ := h4
        cases g1
        exact ⟨a, ho, rfl, g2, e7, e8, e9⟩
      | io q =>
        obtain ⟨b, hb, g1, g2, g3, g4, g5⟩ := h4
        cases g1
        exact ⟨a, ho, rfl, g2, e7, e8, e9⟩
  · obtain ⟨s1, f1, f2⟩ := kinds e1 h1
    obtain ⟨s2, g1, g2⟩ := kinds e2 h2
    exact S.dis i j a s1 s2 n f1 g1 f2 g2 e3 e4
  · obtain ⟨s, f1, f2⟩ := kinds e1 (by rw [e2]; rfl)
    obtain ⟨q, hq⟩ := Option.isSome_iff_exists.mp f2
    exact ⟨k, s, q, f1, hq, e3⟩
/-- behind a call -/
theorem Stt.back {C : Cc} {ρ : Ro} {σ : L2.St} {F H F' H' : Hp} {js : List (Option Nat)} {xs : List Sl} {vs : List V} {os : List PO} (S : Stt C ρ σ F H) (nd : nodupJ js) (ok : AgOk C.K ρ σ F js xs vs) (x : Fr (IoAt xs vs) F H F' H') (oo : OsOk C.K xs vs os F' H') :
    Stp C σ ρ F H (wb js xs os ρ) F' H' := by
  have g : ∀ {m : Nat} {q : PO}, (sl ρ m).obj = some q → ρ[m]? = some (sl ρ m) := fun {m q} z => sl_of rfl fun y => by rw [y] at z; cases z
  -- an object that was handed in is a slot's
  have own : ∀ {a : Addr}, IoAt xs vs a → ∃ (i j : Nat) (o o1 : PO), js[i]? = some (some j) ∧ xs[i]? = some (Sl.io o) ∧ vs[i]? = some (V.ref a) ∧ σ[j]? = some (some (V.ref a)) ∧ (sl ρ j).obj = some o1 := fun {a} ⟨i, o, h1, h2⟩ => by
    obtain ⟨v, hv, q⟩ := agok_at ok h1
    rw [h2] at hv
    cases hv
    rcases q with ⟨p, z, _⟩ | ⟨j, o1, a1, a2, a3, a4⟩
    · cases z
    · exact ⟨i, j, o, o1, a1, h1, h2, a3, a4⟩
  refine S.after x (fun a z => ?_) wb_len fun k s' e => ?_
  · obtain ⟨i, j, o, o1, a1, a2, a3, a4, a5⟩ := own z
    exact ⟨j, _, o1, g a5, a5, a4⟩
  · obtain ⟨s, h1, h2⟩ := wb_at nd e
    refine ⟨s, h1, ?_⟩
    rcases h2 with ⟨e2, h3⟩ | ⟨i, o, o', a1, a2, a3, a4⟩
    · refine .inl ⟨e2, fun a hs hσ z => ?_⟩
      obtain ⟨i, j, o, o1, b1, b2, b3, b4, b5⟩ := own z
      have ej : j = k := Classical.byContradiction fun n => S.dis j k a _ s n (g b5) h1 (by rw [b5]; rfl) hs b4 hσ
      subst ej
      obtain ⟨o', _, _, c1, _⟩ := oo i o b2
      exact h3 i o o' b1 b2 c1
    · obtain ⟨o2, a, ho, c1, c2, c3, c4, c5⟩ := oo i o a2
      rw [a3] at c1
      cases c1
      obtain ⟨v, hv, q⟩ := agok_at ok a2
      rw [c2] at hv
      cases hv
      rcases q with ⟨p, z, _⟩ | ⟨j, o1, d1, d2, d3, d4⟩
      · cases z
      rw [a1] at d1
      have ej := Option.some.inj (Option.some.inj d1)
      subst ej
      rw [sl_at h1] at d4
      exact .inr ⟨o1, o', a, ho, d4, a4, d3, c3, c4, c5⟩
/-! ### calls -/
/-- what comes of a call, in the caller's slots -/
def backR (js : List (Option Nat)) (xs : List Sl) (r : RF) (ρ : Ro) : R P := match r with
  | .bad => .bad
  | .ok p os => .ok p (wb js xs os ρ)
  | .ex e os => .ex e (wb js xs os ρ)
omit [Tbs] in
theorem wp_back {js : List (Option Nat)} {xs : List Sl} {r : RF} {ρ : Ro} {Q : QP} {E : EP} : wp (backR js xs r ρ) Q E = wf r (fun p os => Q p (wb js xs os ρ)) (fun e os => E e (wb js xs os ρ)) := by cases r <;> rfl
def pCall (js : List (Option Nat)) (n : Nat) (f : FL) (a : PGa) : PEx := fun ρ => (a ρ).bind fun xs ρ => (ofO (gd (xs.length = n) ()) ρ).bind fun _ ρ => backR js xs (f xs) ρ
theorem lift_go {C : Cc} {n : Nat} {f : FL} {js : List (Option Nat)} {xs : List Sl} {vs : List V} {ρ : Ro} {σ : L2.St} {F H : Hp} {Q : VK} {Qp : QP} {E : EP} (S : Stt C ρ σ F H) (nd : nodupJ js) (ok : AgOk C.K ρ σ F js xs vs) (hn : xs.length = n)
    (h : wp (backR js xs (f xs) ρ) Qp E) (kx : XOe C σ ρ F H E) (k : ∀ p v ρ' F' H', Stp C σ ρ F H ρ' F' H' → Rep C.K p v F' → Qp p ρ' → Q v H') : liftF C.K n f vs H Q C.W := by
  rw [wp_back] at h
  exact ⟨F, xs, _, _, S.x.fh, agok_args S nd ok, C.tb.fr S.x, hn, h, fun p v os F' H' x oo r q => k p v _ F' H' (S.back nd ok x oo) r q, fun e cls d os F' H' x oo r q => kx e cls d _ F' H' (S.back nd ok x oo) r q⟩
theorem s_call {C : Cc} {js : List (Option Nat)} {n : Nat} {f : FL} {t : TA} {a : PGa} (ha : SndAg C js t a) (nd : nodupB js = true := by rfl) : SndE C (tCall (liftF C.K n f) [] C.W t) (pCall js n f a) := .mk fun {ρ σ F H Q Qp E} S h kx k => ha.run S (wp_b h) kx fun xs vs ρ1 F1 H1 s1 ok h => by
  obtain ⟨_, e, h⟩ := wp_o (wp_b h)
  show liftF C.K n f (vs ++ []) H1 Q C.W
  rw [List.append_nil]
  exact lift_go s1.st (nodup_of nd) ok (gd_some e).1 h (kx.to s1) fun p v ρ2 F2 H2 s2 r q => k p v ρ2 F2 H2 (s1.trans s2) r q
/-! ### the run of a def -/
def ioOut : List Sl → Ro → Option (List PO)
  | .io _ :: xs, .io o :: ρ => (ioOut xs ρ).map (o :: ·)
  | .io _ :: _, _ => none
  | _ :: xs, _ :: ρ => ioOut xs ρ
  | [], _ => some []
  | _ :: _, [] => none
omit [Tbs] in
theorem ioOut_at : ∀ {xs : List Sl} {ρ : Ro} {os : List PO} {i : Nat} {o : PO}, ioOut xs ρ = some os → xs[i]? = some (.io o) → ∃ o', outAt xs os i = some o' ∧ ρ[i]? = some (.io o')
  | [], _, _, i, _, _, e => by simp at e
  | .io q :: xs, [], os, i, o, h, e => by cases h
  | .io q :: xs, s :: ρ, os, i, o, h, e => by
    cases s with
    | io o1 =>
      obtain ⟨r, h1, h2⟩ := Option.map_eq_some_iff.mp (show (ioOut xs ρ).map (o1 :: ·) = some os from h)
      subst h2
      cases i with
      | zero => exact ⟨o1, rfl, rfl⟩
      | succ i => exact ioOut_at (i := i) h1 (show xs[i]? = some (.io o) by simpa using e)
    | un => cases h
    | val _ => cases h
    | loc _ => cases h
  | .un :: xs, s :: ρ, os, i, o, h, e => by
    cases i with
    | zero => cases e
    | succ i => exact ioOut_at (xs := xs) (ρ := ρ) (i := i) h (show xs[i]? = some (.io o) by simpa using e)
  | .val _ :: xs, s :: ρ, os, i, o, h, e => by
    cases i with
    | zero => cases e
    | succ i => exact ioOut_at (xs := xs) (ρ := ρ) (i := i) h (show xs[i]? = some (.io o) by simpa using e)
  | .loc _ :: xs, s :: ρ, os, i, o, h, e => by
    cases i with
    | zero => cases e
    | succ i => exact ioOut_at (xs := xs) (ρ := ρ) (i := i) h (show xs[i]? = some (.io o) by simpa using e)
  | .un :: _, [], _, _, _, h, _ => by cases h
  | .val _ :: _, [], _, _, _, h, _ => by cases h
  | .loc _ :: _, [], _, _, _, h, _ => by cases h
def uns (n : Nat) : List Sl := List.replicate n .un
def outR (o : Option (List PO)) (k : List PO → RF) : RF := match o with
  | some os => k os
  | none => .bad
omit [Tbs] in
theorem wf_out {o : Option (List PO)} {k : List PO → RF} {Q : P → List PO → Prop} {E : Xn → List PO → Prop} (h : wf (outR o k) Q E) : ∃ os, o = some os ∧ wf (k os) Q E := by
  cases o with
  | none => exact h.elim
  | some os => exact ⟨os, rfl, h⟩
def endF (xs : List Sl) (r : RS) : RF := match r with
  | .nx ρ => outR (ioOut xs ρ) fun os => .ok .non os
  | .rt p ρ => outR (ioOut xs ρ) fun os => .ok p os
  | .ro o ρ => outR (ioOut xs ρ) fun os => .ok o.val os
  | .ex e ρ => outR (ioOut xs ρ) fun os => .ex e os
  | _ => .bad
/-- the run of a def: n slots beyond the parameters -/
def runD (n : Nat) (s : PSx) : FL := fun xs => endF xs (s (xs ++ uns n))
def ioA (xs : List Sl) (vs : List V) : List (Option Addr) := List.zipWith (fun s v => match s, v with
  | .io _, .ref a => some a
  | _, _ => none) xs vs
omit [Tbs] in
theorem ioA_at {xs : List Sl} {vs : List V} {i : Nat} {a : Addr} : (ioA xs vs)[i]? = some (some a) ↔ ∃ o, xs[i]? = some (.io o) ∧ vs[i]? = some (.ref a) := by
  unfold ioA
  rw [List.getElem?_zipWith]
  constructor
  · intro h
    cases h1 : xs[i]? with
    | none => rw [h1] at h; simp at h
    | some s =>
      cases h2 : vs[i]? with
      | none => rw [h1, h2] at h; simp at h
      | some v =>
        rw [h1, h2] at h
        cases s <;> first | (simp at h; done) | skip
        cases v <;> first | (simp at h; done) | skip
        simp at h
        subst h
        exact ⟨_, rfl, rfl⟩
  · rintro ⟨o, h1, h2⟩
    rw [h1, h2]
theorem start_stt {K : PySem.W.Frag} {F H : Hp} {N : List Str} {xs : List Sl} {vs : List V} {E : XK} {n : Nat} (tb : TbOk F H) (e : Ex F H) (ok : ArgsOk K xs vs F H) (hn : N.length = xs.length + n) : Stt ⟨K, ioA xs vs, F, H, E, tb⟩ (xs ++ uns n) (L2.start N vs) F H := by
  have hs : L2.start N vs = vs.map some ++ List.replicate n none := by unfold L2.start; rw [← ok.len, hn, Nat.add_sub_cancel_left]
  have un : ∀ {i : Nat} {s : Sl}, ¬ i < xs.length → (xs ++ uns n)[i]? = some s → s = .un ∧ (L2.start N vs)[i]? = some none := fun {i s} hi h => by
    rw [List.getElem?_append_right (by omega)] at h
    rw [hs, List.getElem?_append_right (by rw [List.length_map, ← ok.len]; omega), List.length_map, ← ok.len]
    unfold uns at h
    rw [List.getElem?_replicate] at h ⊢
    split at h
    · rename_i hc; cases h; rw [if_pos hc]; exact ⟨rfl, rfl⟩
    · cases h
  have lo : ∀ {i : Nat} {s : Sl}, i < xs.length → (xs ++ uns n)[i]? = some s → xs[i]? = some s := fun {i s} hi h => by rw [List.getElem?_append_left hi] at h; exact h
  have lv : ∀ {i : Nat} {v : V}, i < xs.length → vs[i]? = some v → (L2.start N vs)[i]? = some (some v) := fun {i v} hi h => by
    rw [hs, List.getElem?_append_left (by rw [List.length_map, ← ok.len]; exact hi), List.getElem?_map, h]; rfl
  have lv' : ∀ {i : Nat} {v : V}, i < xs.length → (L2.start N vs)[i]? = some (some v) → vs[i]? = some v := fun {i v} hi h => by
    rw [hs, List.getElem?_append_left (by rw [List.length_map, ← ok.len]; exact hi), List.getElem?_map] at h
    obtain ⟨w, h1, h2⟩ := Option.map_eq_some_iff.mp h
    cases h2; exact h1
  refine ⟨Fr.refl e, ?_, fun i s h => ?_, fun i j a s t ne e1 e2 h1 h2 e3 e4 => ?_⟩
  · rw [hs, List.length_append, List.length_append, List.length_map, ok.len]; unfold uns; rw [List.length_replicate, List.length_replicate]
  · by_cases hi : i < xs.length
    · have hx := lo hi h
      obtain ⟨v, hv, r⟩ := ok.at_ i s hx
      refine ⟨some v, lv hi hv, ?_⟩
      cases s with
      | val p => exact ⟨v, rfl, r⟩
      | io o =>
        obtain ⟨a, ho, r1, r2, r3, r4⟩ := r
        subst r1
        exact ⟨a, ho, rfl, ioA_at.mpr ⟨o, hx, hv⟩, r2, r3, r4⟩
      | un => exact r.elim
      | loc _ => exact r.elim
    · obtain ⟨e1, e2⟩ := un hi h
      subst e1
      exact ⟨none, e2, True.intro⟩
  · have hi : i < xs.length := Classical.byContradiction fun hi => by rw [(un hi e1).1] at h1; cases h1
    have hj : j < xs.length := Classical.byContradiction fun hj => by rw [(un hj e2).1] at h2; cases h2
    have e1 := lo hi e1
    have e2 := lo hj e2
    have io : ∀ {m : Nat} {s : Sl}, xs[m]? = some s → s.obj.isSome = true → ∃ o, s = .io o := fun {m s} e z => by
      obtain ⟨v, _, r⟩ := ok.at_ m s e
      cases s with
      | io o => exact ⟨o, rfl⟩
      | loc o => exact r.elim
      | un => cases z
      | val p => cases z
    obtain ⟨o1, rfl⟩ := io e1 h1
    obtain ⟨o2, rfl⟩ := io e2 h2
    exact ok.dis i j a o1 o2 ne e1 e2 (lv' hi e3) (lv' hj e4)
theorem end_os {K : PySem.W.Frag} {F H F' H' : Hp} {xs : List Sl} {vs : List V} {E : XK} {ρ : Ro} {σ : L2.St} {os : List PO} (ok : ArgsOk K xs vs F H) {tb : TbOk F H} (S : Stt ⟨K, ioA xs vs, F, H, E, tb⟩ ρ σ F' H') (h : ioOut xs ρ = some os) :
    Fr (IoAt xs vs) F H F' H' ∧ OsOk K xs vs os F' H' := by
  refine ⟨S.x.imp fun a z => ?_, fun i o hx => ?_⟩
  · obtain ⟨i, hi⟩ := List.getElem?_of_mem z
    obtain ⟨o, h1, h2⟩ := ioA_at.mp hi
    exact ⟨i, o, h1, h2⟩
  · obtain ⟨o', h1, h2⟩ := ioOut_at h hx
    obtain ⟨v, h3, a, ho, h4, h5, h6, h7, h8⟩ := S.at_ i _ h2
    obtain ⟨_, h9, h10⟩ := ioA_at.mp h5
    exact ⟨o', a, ho, h1, h10, h6, h7, h8⟩
end FX

/-! defs that keep a pure promise -/
namespace FX
open PySem PySem.Spec PyProof.Rows L2 RZ PX
variable [Tbs]
/-- the def x of the top, whose text is st, keeps the promise sp -/
structure HasF (P : Program) (w : World) (K : PySem.W.Frag) (mg : Str → Option Value) (base : Heap) (x : Str) (st : Stmt) (k : Nat) (ps : List Str) (sp : Sp) : Prop where
  ex : ∃ f fd, FunD K x x (defArgs st) (defBody st) (defScope st) [] [] f fd ∧ mg x = some (.ref f) ∧ FnOk P w K mg base (L2N.CX P w) k f fd ps sp ∧ Binds K fd ps []
/-- the context of a def's body lets out what the def's wish takes -/
structure OutOk (X : Cx) (E : XK) : Prop where
  px : Passes (L2N.CX X.prog X.w) X E
  po : PassesOwn (model X.prog X.w) X.A X.env X.xe
  tk : L2N.Takes X (fun cls d _ H => E cls d H)
omit [Tbs] in
theorem passE0 {X : Cx} : Passes (L2N.CX X.prog X.w) X (fun _ _ _ => False) := fun _ _ _ _ _ _ _ h => by
  obtain ⟨_, _, _, _, _, _, _, _, _, _, _, _, z⟩ := h
  exact z.elim
section
variable {P' : Program} {w : World} {K : PySem.W.Frag} {mg : Str → Option Value} {base : Heap} {x q0 : Str} {st : Stmt} {k n : Nat} {N ps : List Str}
omit [Tbs] in
theorem outOk {scope : Scope} {f : Addr} {cd : Value} {A : Around} {outer : List Env} {s : Shared} {H : Hp} {E : XK} : OutOk (cxOf (L2N.CX P' w) P' w K mg base N q0 scope f cd A outer s H E) E := by
  have tk := L2N.takes_of (X := cxOf (L2N.CX P' w) P' w K mg base N q0 scope f cd A outer s H E) (E := E) rfl rfl rfl rfl
  exact ⟨L2N.passes_call tk fun _ _ _ _ h => h, passes_of (K := fun e s'' => L2N.CX P' w outer H s E e s'') rfl, tk⟩
omit [Tbs] in
theorem ws_end {xs : List Sl} {r : RS} {Q : P → List PO → Prop} {E : Xn → List PO → Prop} (h : wf (endF xs r) Q E) : ws r ⟨fun ρ => ∃ os, ioOut xs ρ = some os ∧ Q .non os, fun p ρ => ∃ os, ioOut xs ρ = some os ∧ Q p os, fun o ρ => ∃ os, ioOut xs ρ = some os ∧ Q o.val os, fun _ => False, fun _ => False, fun e ρ => ∃ os, ioOut xs ρ = some os ∧ E e os⟩ := by
  cases r with
  | bad => exact h
  | bk ρ => exact h
  | ct ρ => exact h
  | nx ρ => exact wf_out h
  | rt p ρ => exact wf_out h
  | ro p ρ => exact wf_out h
  | ex p ρ => exact wf_out h
/-- a def's body keeps the promise of its run -/
theorem body_go {s : PSx} {t : XK → TS} (hN : N.length = ps.length + n) (snd : ∀ io F0 H0 E tb, SndS ⟨K, io, F0, H0, E, tb⟩ (t E) s) {vs : List V} {H : Hp} {Q : VK} {E : XK} (h : liftF K ps.length (runD n s) vs H Q E) :
    t E { nx := fun _ H' => Q .non H', rt := Q } (L2.start N vs) H := by
  obtain ⟨F, xs, Qp, Ep, hF, ok, tb, hl, hf, q, qx⟩ := h
  have S := start_stt (K := K) (E := E) (N := N) (n := n) tb hF ok (by rw [hN, hl])
  refine snd _ _ _ _ _ S (ws_end hf) (fun e ρ σ cls d F' H' S' r ⟨os, ho, he⟩ => ?_) ⟨fun ρ σ F' H' _ S' ⟨os, ho, hq⟩ => ?_, fun p v ρ σ F' H' _ S' r ⟨os, ho, hq⟩ => ?_, fun o a hh ρ σ F' H' _ S' n0 nF ha r no ⟨os, ho, hq⟩ => ?_, fun _ _ _ _ _ _ h => h.elim, fun _ _ _ _ _ _ h => h.elim⟩
  · obtain ⟨x, oo⟩ := end_os ok S' ho
    exact qx e cls d os F' H' x oo r he
  · obtain ⟨x, oo⟩ := end_os ok S' ho
    exact q .non .non os F' H' x oo rfl hq
  · obtain ⟨x, oo⟩ := end_os ok S' ho
    exact q p v os F' H' x oo r hq
  · obtain ⟨x, oo⟩ := end_os ok (S'.frzAt n0 nF ha no) ho
    exact q o.val (.ref a) os _ H' x oo (repO_val r nF) hq
/-- THE RULE: a def by its pure reading -/
theorem Stood.okF (S : Stood K mg x st) (sc : FnScope N ps (defScope st)) (n : Nat) (hN : N.length = ps.length + n) (s : PSx)
    (hb : ∀ (kV doc pm : Value) (an : Option Addr) (cdv ct : Value) (us : List Value), us.length = ps.length → bindArgs (PySem.W.fnOf x x (defArgs st) (defBody st) (defScope st) .none kV doc pm an cdv ct) ⟨us, []⟩ = pure (ps.zip us))
    {t : XK → TS} (der : ∀ (fa : Addr) (cdv : Value) (A : Around) (outer : List Env) (sh : Shared) (H : Hp) (E : XK), Room k (A.deeper (envOfC x (defScope st) sh.heap.objs.size fa cdv)) →
      OutOk (cxOf (L2N.CX P' w) P' w K mg base N x (defScope st) fa cdv A outer sh H E) E → PSs (cxOf (L2N.CX P' w) P' w K mg base N x (defScope st) fa cdv A outer sh H E) (defBody st) (t E))
    (snd : ∀ io F0 H0 E tb, SndS ⟨K, io, F0, H0, E, tb⟩ (t E) s) : HasF P' w K mg base x st (k + 1) ps (liftF K ps.length (runD n s)) := by
  obtain ⟨f, fd, F, g⟩ := S.ex
  refine ⟨f, fd, F, g, ?_, F.bindsN hb⟩
  obtain ⟨oc, od, dV, kV, doc, pm, an, cdv, ct, osl, rfl, lk, hcd, hD, hK⟩ := F.ex
  exact fn_of lk hcd sc liftF_len fun A outer sh H vs Q E hr hsp => ⟨t E, der f cdv A outer sh H E hr outOk, body_go hN snd hsp⟩
end
section
variable {X : Cx} {k : Nat} {ps : List Str} {sp : Sp} {x : Str} {st : Stmt} {p pos : Pos} {e : Expr} {es : List Expr} {t : TA} {E : XK}
omit [Tbs] in
theorem pe_hasF (h : HasF X.prog X.w X.K X.mg X.base x st k ps sp) (hr : Room k X.A) (hx : Passes (L2N.CX X.prog X.w) X E) (hg : Gl X x) (ha : PA X (e :: es) t)
    (hdb : (x == ("__debug__" : Str)) = false := by decide) (he : starEach (e :: es) X.env = (false, eval e X.env) :: starEach es X.env := by rfl) (hpl : (backTo pos (starEach es X.env)).any (·.1) = false := by rfl) :
    PE X (.Call (.Name x p) (e :: es) [] pos) (tCall sp [] E t) := by
  obtain ⟨f, fd, F, g, G, b⟩ := h.ex
  exact pe_call G hr hg g F.kp b .nil hx ha hdb he hpl
omit [Tbs] in
theorem pe_hasF0 (h : HasF X.prog X.w X.K X.mg X.base x st k ps sp) (hr : Room k X.A) (hx : Passes (L2N.CX X.prog X.w) X E) (hg : Gl X x) (hdb : (x == ("__debug__" : Str)) = false := by decide) :
    PE X (.Call (.Name x p) [] [] pos) (tCall sp [] E tNil) := by
  obtain ⟨f, fd, F, g, G, b⟩ := h.ex
  exact pe_call0 G hr hg g F.kp b .nil hx hdb
end
end FX

/-! sets of signs; defs that hand back a fresh object; instances of own classes -/
namespace FX
open PySem PySem.Spec PyProof.Rows L2 RZ PX
variable [Tbs]
/-! ### signs of a text -/
abbrev S1 (c : Nat) : Str := SX.S [c]
omit [Tbs] in
theorem perm_S1 {ys : List Str} {l : List Nat} (h : ys.Perm (l.map S1)) : ∃ zs : List Nat, ys = zs.map S1 ∧ zs.Perm l := by
  refine ⟨ys.map fun s => s.cps.toList.headD 0, ?_, ?_⟩
  · rw [List.map_map]
    exact ((List.map_congr_left fun y hy => by
      obtain ⟨c, _, e⟩ := List.mem_map.mp (h.mem_iff.mp hy)
      rw [← e]; rfl).trans (List.map_id ys)).symm
  · have := h.map fun s : Str => s.cps.toList.headD 0
    rw [List.map_map] at this
    exact this.trans (by rw [show (l.map ((fun s : Str => s.cps.toList.headD 0) ∘ S1)) = l from (List.map_congr_left fun _ _ => rfl).trans (List.map_id l)])
omit [Tbs] in
theorem rising_S1 : ∀ (p : Nat) (l : List Nat), risingS (S1 p) (l.map S1) = true → (p :: l).Pairwise (· ≤ ·)
  | p, [], _ => List.pairwise_singleton _ _
  | p, x :: r, h => by
    have h' : (!ltCps [x] [p] && risingS (S1 x) (r.map S1)) = true := h
    rw [Bool.and_eq_true] at h'
    have h2 := rising_S1 x r h'.2
    have hx : p ≤ x := by
      have h3 : (!(decide (x < p) || (x == p && false))) = true := h'.1
      rw [Bool.and_false, Bool.or_false, Bool.not_eq_true'] at h3
      have := of_decide_eq_false h3
      omega
    refine List.pairwise_cons.mpr ⟨fun y hy => ?_, h2⟩
    rcases List.mem_cons.mp hy with e | e
    · rw [e]; exact hx
    · exact Nat.le_trans hx ((List.pairwise_cons.mp h2).1 y e)
omit [Tbs] in
theorem sorted_S1 {l : List Nat} (h : sortedS (l.map S1) = true) : l.Pairwise (· ≤ ·) := by
  cases l with
  | nil => exact List.Pairwise.nil
  | cons x r => exact rising_S1 x r h
omit [Tbs] in
theorem strict_of : ∀ {l : List Nat}, l.Pairwise (· ≤ ·) → l.Nodup → l.Pairwise (· < ·)
  | [], _, _ => List.Pairwise.nil
  | x :: l, h, d => by
    obtain ⟨h1, h2⟩ := List.pairwise_cons.mp h
    obtain ⟨d1, d2⟩ := List.nodup_cons.mp d
    refine List.pairwise_cons.mpr ⟨fun y hy => ?_, strict_of h2 d2⟩
    have a := h1 y hy
    have b : x ≠ y := fun z => d1 (z ▸ hy)
    omega
omit [Tbs] in
theorem ord_uniq {cs : List Nat} {ys : List Str} (h : ys.Perm ((dedN cs []).map S1)) (hs : sortedS ys = true) : ys = (ordN cs).map S1 := by
  obtain ⟨zs, rfl, p⟩ := perm_S1 h
  refine congrArg _ (ris_uniq (strict_of (sorted_S1 hs) (p.nodup_iff.mpr (nodup_dedN List.nodup_nil))) (ris_ordN cs) fun c => ?_)
  rw [p.mem_iff, mem_dedN, mem_ordN]
  simp
omit [Tbs] in
theorem sort_uniq1 {cs : List Nat} {ys : List Str} (h : ys.Perm (cs.map S1)) (hs : sortedS ys = true) : ys = (sortB (fun a b : Nat => decide (a ≤ b)) cs).map S1 := by
  obtain ⟨zs, rfl, p⟩ := perm_S1 h
  refine congrArg _ (sortB_uniq (fun a b => by simp only [decide_eq_true_eq]; omega) (fun a b c => by simp only [decide_eq_true_eq]; omega) (fun a b => by simp only [decide_eq_true_eq]; omega) p ((sorted_S1 hs).imp fun h => decide_eq_true h))
omit [Tbs] in
theorem k_sortedS (K : PySem.W.Frag) {X : Cx} (hK : X.K = K := by rfl) : CallR X (.builtin "sorted") (rSortedS K) := by subst hK; exact cr_sortedS
omit [Tbs] in
theorem k_sortedI (K : PySem.W.Frag) {X : Cx} (hK : X.K = K := by rfl) : CallR X (.builtin "sorted") (rSorted K) := by subst hK; exact cr_sorted
def lenSetV : P → Option P
  | .str cs => gd (cs.length ≤ 1000) (.int ((dedN cs []).length : Nat))
  | _ => none
def pLenSet (a : PEx) : PEx := fun ρ => (a ρ).bind fun x ρ => ofO (lenSetV x) ρ
def sortSetV : P → Option P
  | .str cs => gd (cs.length ≤ 60) (.lst ((ordN cs).map fun c => .str [c]))
  | _ => none
def pSortSet (a : PEx) : PEx := fun ρ => (a ρ).bind fun x ρ => ofO (sortSetV x) ρ
def listStrV : P → Option PO
  | .str cs => gd (cs.length ≤ 1000) (.lst (cs.map fun c => .str [c]))
  | _ => none
def nListStr (a : PEx) : PNx := fun ρ => (a ρ).bind fun x ρ => ofO (listStrV x) ρ
/-- sorted(ints) -/
def nSortI (a : PEx) : PNx := fun ρ => (a ρ).bind fun x ρ => ofO (match x with
  | .lst xs => (intsOf xs).bind fun zs => gd (zs.length < 64) (.lst ((sortB leI zs).map P.int))
  | _ => none) ρ
section
variable {C : Cc} {ta : TE} {a : PEx} {PP : Program} {w : World}
theorem s_lenSet (ha : SndE C ta a) : SndE C (tCB (rLenT PP w) (tCons (tCB (rSetT PP w) (tCons ta tNil)) tNil)) (pLenSet a) := .mk fun {ρ σ F H Q Qp E} S h kx k => ha S (wp_b h) kx fun p v ρ1 F1 H1 s1 rp h => by
  obtain ⟨q, e, h9⟩ := wp_o h
  cases p <;> first | (cases e; done) | skip
  rename_i cs
  cases rp
  obtain ⟨h1, rfl⟩ := gd_some e
  refine ⟨SX.S cs, rfl, h1, fun q hq => ⟨q, _, rfl, upd_same, ?_⟩⟩
  rw [show (signsT (SX.S cs).cps.toList []).length = (dedN cs []).length by
    have := signsT_eq cs []
    rw [List.map_nil] at this
    rw [show (SX.S cs).cps.toList = cs from rfl, this, List.length_map]]
  exact k (.int _) _ ρ1 F1 _ (s1.trans (Stp.own s1.st hq)) rfl h9
theorem s_sortSet (ha : SndE C ta a) : SndE C (tCB (rSortT PP w) (tCons (tCB (rSetT PP w) (tCons ta tNil)) tNil)) (pSortSet a) := .mk fun {ρ σ F H Q Qp E} S h kx k => ha S (wp_b h) kx fun p v ρ1 F1 H1 s1 rp h => by
  obtain ⟨q, e, h9⟩ := wp_o h
  cases p <;> first | (cases e; done) | skip
  rename_i cs
  cases rp
  obtain ⟨h2, rfl⟩ := gd_some e
  have e := signsT_eq cs []
  rw [List.map_nil] at e
  have e' : signsT (SX.S cs).cps.toList [] = (dedN cs []).map S1 := e
  refine ⟨SX.S cs, rfl, (show cs.length ≤ 1000 by omega), fun q hq => ⟨q, _, rfl, upd_same, ?_, fun ys p hp hs hf => ?_⟩⟩
  · rw [e', List.length_map]
    have := len_dedN_le cs []
    rw [List.length_nil] at this
    omega
  · rw [e'] at hp
    rw [ord_uniq hp hs]
    have s2 := Stp.own (o := SetT PP w q (signsT (SX.S cs).cps.toList [])) s1.st hq
    have s3 := Stp.lay (o := .lst (((ordN cs).map S1).map V.str)) s2.st hf
    exact k (.lst _) _ ρ1 _ _ ((s1.trans s2).trans s3) ⟨p, _, rfl, upd_same, reps_S1 _⟩ h9
theorem n_listStr (ha : SndE C ta a) : SndN C (tCB rListStr (tCons ta tNil)) (nListStr a) := .mk fun {ρ σ F H Q Qp E} S h kx k => ha S (wp_b h) kx fun p v ρ1 F1 H1 s1 rp h => by
  obtain ⟨q, e, h9⟩ := wp_o h
  cases p <;> first | (cases e; done) | skip
  rename_i cs
  cases rp
  obtain ⟨h1, rfl⟩ := gd_some e
  refine ⟨SX.S cs, rfl, h1, fun q hq => ?_⟩
  exact k (.lst (cs.map fun c => .str [c])) q _ ρ1 F1 _ (s1.trans (Stp.own s1.st hq)) (s1.x.back hq) (Same.free s1.x.fh hq) upd_same ⟨_, rfl, by rw [show (cs.map fun c => V.str ⟨#[c]⟩) = (cs.map S1).map V.str by rw [List.map_map] <;> rfl]; exact reps_S1 cs⟩ h9
theorem n_sortI (ha : SndW C ta a) : SndN C (tCB (rSorted C.K) (tCons ta tNil)) (nSortI a) := .mk fun {ρ σ F H Q Qp E} S h kx k => ha S (wp_b h) kx fun x v ρ1 F1 H1 s1 r h => by
  obtain ⟨q, e, h9⟩ := wp_o h
  cases x <;> first | (cases e; done) | skip
  obtain ⟨zs, e1, e2⟩ := Option.bind_eq_some_iff.mp e
  obtain ⟨hz, rfl⟩ := gd_some e2
  cases intsOf_some e1
  obtain ⟨c, us, rfl, h1, h3⟩ := r
  rw [reps_int h3] at h1
  refine ⟨c, zs, rfl, SqL.of h1, hz, fun ys p hp hs hf => ?_⟩
  rw [sortI_uniq hp hs]
  exact k (.lst _) p _ ρ1 F1 _ (s1.trans (Stp.own s1.st hf)) (s1.x.back hf) (Same.free s1.x.fh hf) upd_same ⟨_, rfl, reps_ints _⟩ h9
end
/-! ### defs that hand back a fresh object -/
inductive RN where
  | bad | ok (o : PO) (os : List PO) | ex (e : Xn) (os : List PO)
abbrev FN := List Sl → RN
def wn (r : RN) (Q : PO → List PO → Prop) (E : Xn → List PO → Prop) : Prop := match r with
  | .bad => False
  | .ok p os => Q p os
  | .ex e os => E e os
def outN (o : Option (List PO)) (k : List PO → RN) : RN := match o with
  | some os => k os
  | none => .bad
omit [Tbs] in
theorem wn_out {o : Option (List PO)} {k : List PO → RN} {Q : PO → List PO → Prop} {E : Xn → List PO → Prop} (h : wn (outN o k) Q E) : ∃ os, o = some os ∧ wn (k os) Q E := by
  cases o with
  | none => exact h.elim
  | some os => exact ⟨os, rfl, h⟩
def endN (xs : List Sl) (r : RS) : RN := match r with
  | .ro o ρ => outN (ioOut xs ρ) fun os => .ok o os
  | .ex e ρ => outN (ioOut xs ρ) fun os => .ex e os
  | _ => .bad
def runN (n : Nat) (s : PSx) : FN := fun xs => endN xs (s (xs ++ uns n))
/-- a fresh object at a -/
structure New (K : PySem.W.Frag) (H : Hp) (a : Addr) (o : PO) (F' H' : Hp) : Prop where
  n : H a = none
  nF : F' a = none
  at_ : ∃ h, H' a = some h ∧ RepO K o h F'
def liftN (K : PySem.W.Frag) (n : Nat) (f : FN) : Sp := fun vs H Q E => ∃ (F : Hp) (xs : List Sl) (Qp : PO → List PO → Prop) (Ep : Xn → List PO → Prop), Ex F H ∧ ArgsOk K xs vs F H ∧ TbOk F H ∧ xs.length = n ∧ wn (f xs) Qp Ep ∧
  (∀ o a os F' H', Fr (IoAt xs vs) F H F' H' → OsOk K xs vs os F' H' → New K H a o F' H' → Qp o os → Q (.ref a) H') ∧
  (∀ e cls d os F' H', Fr (IoAt xs vs) F H F' H' → OsOk K xs vs os F' H' → RepX K e cls d F' H' → Ep e os → E cls d H')
theorem liftN_len {K : PySem.W.Frag} {n : Nat} {f : FN} : ∀ vs H Q E, liftN K n f vs H Q E → vs.length = n := fun vs H Q E ⟨F, xs, _, _, _, a, _, h, _⟩ => by rw [← a.len]; exact h
def backN (js : List (Option Nat)) (xs : List Sl) (r : RN) (ρ : Ro) : R PO := match r with
  | .bad => .bad
  | .ok p os => .ok p (wb js xs os ρ)
  | .ex e os => .ex e (wb js xs os ρ)
omit [Tbs] in
theorem wp_backN {js : List (Option Nat)} {xs : List Sl} {r : RN} {ρ : Ro} {Q : PO → Ro → Prop} {E : EP} : wp (backN js xs r ρ) Q E = wn r (fun p os => Q p (wb js xs os ρ)) (fun e os => E e (wb js xs os ρ)) := by cases r <;> rfl
def nCall (js : List (Option Nat)) (n : Nat) (f : FN) (a : PGa) : PNx := fun ρ => (a ρ).bind fun xs ρ => (ofO (gd (xs.length = n) ()) ρ).bind fun _ ρ => backN js xs (f xs) ρ
theorem n_call {C : Cc} {js : List (Option Nat)} {n : Nat} {f : FN} {t : TA} {a : PGa} (ha : SndAg C js t a) (nd : nodupB js = true := by rfl) : SndN C (tCall (liftN C.K n f) [] C.W t) (nCall js n f a) := .mk fun {ρ σ F H Q Qp E} S h kx k => ha.run S (wp_b h) kx fun xs vs ρ1 F1 H1 s1 ok h => by
  obtain ⟨_, e, h⟩ := wp_o (wp_b h)
  rw [wp_backN] at h
  show liftN C.K n f (vs ++ []) H1 Q C.W
  rw [List.append_nil]
  refine ⟨F1, xs, _, _, s1.x.fh, agok_args s1.st (nodup_of nd) ok, C.tb.fr s1.st.x, (gd_some e).1, h, fun o a os F' H' x oo ⟨n1, n2, hh, n3, n4⟩ q => ?_, fun e cls d os F' H' x oo r q => kx e cls d _ F' H' (s1.trans (s1.st.back (nodup_of nd) ok x oo)) r q⟩
  exact k o a hh _ F' H' (s1.trans (s1.st.back (nodup_of nd) ok x oo)) (s1.x.back n1) n2 n3 n4 q
section
variable {P' : Program} {w : World} {K : PySem.W.Frag} {mg : Str → Option Value} {base : Heap} {x q0 : Str} {st : Stmt} {k n : Nat} {N ps : List Str}
omit [Tbs] in
theorem ws_endN {xs : List Sl} {r : RS} {Q : PO → List PO → Prop} {E : Xn → List PO → Prop} (h : wn (endN xs r) Q E) : ws r ⟨fun _ => False, fun _ _ => False, fun o ρ => ∃ os, ioOut xs ρ = some os ∧ Q o os, fun _ => False, fun _ => False, fun e ρ => ∃ os, ioOut xs ρ = some os ∧ E e os⟩ := by
  cases r with
  | bad => exact h
  | bk ρ => exact h
  | ct ρ => exact h
  | nx ρ => exact h
  | rt p ρ => exact h
  | ro p ρ => exact wn_out h
  | ex p ρ => exact wn_out h
theorem body_goN {s : PSx} {t : XK → TS} (hN : N.length = ps.length + n) (snd : ∀ io F0 H0 E tb, SndS ⟨K, io, F0, H0, E, tb⟩ (t E) s) {vs : List V} {H : Hp} {Q : VK} {E : XK} (h : liftN K ps.length (runN n s) vs H Q E) :
    t E { nx := fun _ H' => Q .non H', rt := Q } (L2.start N vs) H := by
  obtain ⟨F, xs, Qp, Ep, hF, ok, tb, hl, hf, q, qx⟩ := h
  have S := start_stt (K := K) (E := E) (N := N) (n := n) tb hF ok (by rw [hN, hl])
  refine snd _ _ _ _ _ S (ws_endN hf) (fun e ρ σ cls d F' H' S' r ⟨os, ho, he⟩ => ?_) ⟨fun _ _ _ _ _ _ h => h.elim, fun _ _ _ _ _ _ _ _ _ h => h.elim, fun o a hh ρ σ F' H' _ S' n0 nF ha r no ⟨os, ho, hq⟩ => ?_, fun _ _ _ _ _ _ h => h.elim, fun _ _ _ _ _ _ h => h.elim⟩
  · obtain ⟨x, oo⟩ := end_os ok S' ho
    exact qx e cls d os F' H' x oo r he
  · obtain ⟨x, oo⟩ := end_os ok S' ho
    exact q o a os F' H' x oo ⟨n0, nF, hh, ha, r⟩ hq
theorem Stood.okN (S : Stood K mg x st) (sc : FnScope N ps (defScope st)) (n : Nat) (hN : N.length = ps.length + n) (s : PSx)
    (hb : ∀ (kV doc pm : Value) (an : Option Addr) (cdv ct : Value) (us : List Value), us.length = ps.length → bindArgs (PySem.W.fnOf x x (defArgs st) (defBody st) (defScope st) .none kV doc pm an cdv ct) ⟨us, []⟩ = pure (ps.zip us))
    {t : XK → TS} (der : ∀ (fa : Addr) (cdv : Value) (A : Around) (outer : List Env) (sh : Shared) (H : Hp) (E : XK), Room k (A.deeper (envOfC x (defScope st) sh.heap.objs.size fa cdv)) →
      OutOk (cxOf (L2N.CX P' w) P' w K mg base N x (defScope st) fa cdv A outer sh H E) E → PSs (cxOf (L2N.CX P' w) P' w K mg base N x (defScope st) fa cdv A outer sh H E) (defBody st) (t E))
    (snd : ∀ io F0 H0 E tb, SndS ⟨K, io, F0, H0, E, tb⟩ (t E) s) : HasF P' w K mg base x st (k + 1) ps (liftN K ps.length (runN n s)) := by
  obtain ⟨f, fd, F, g⟩ := S.ex
  refine ⟨f, fd, F, g, ?_, F.bindsN hb⟩
  obtain ⟨oc, od, dV, kV, doc, pm, an, cdv, ct, osl, rfl, lk, hcd, hD, hK⟩ := F.ex
  exact fn_of lk hcd sc liftN_len fun A outer sh H vs Q E hr hsp => ⟨t E, der f cdv A outer sh H E hr outOk, body_goN hN snd hsp⟩
end
/-! ### fields -/
def lookP : List Str → List P → Str → Option P
  | n :: ns, p :: ps, f => match f == n with
    | true => some p
    | false => lookP ns ps f
  | _, _, _ => none
def fldP (c f : Str) : P → Option P
  | .ins d ns fs => match d == c with
    | true => lookP ns fs f
    | false => none
  | _ => none
def pFld (c f : Str) (a : PEx) : PEx := fun ρ => (a ρ).bind fun x ρ => ofO (fldP c f x) ρ
def putN1 (f : Str) (p : P) : List Str → List P → List Str × List P
  | n :: ns, q :: fs => match f == n with
    | true => (n :: ns, p :: fs)
    | false => match putN1 f p ns fs with
      | (a, b) => (n :: a, q :: b)
  | [], [] => ([f], [p])
  | ns, fs => (ns, fs)
def insO (c : Str) : Sl → Option (List Str × List P)
  | .loc (.ins d ns fs) => match d == c with
    | true => some (ns, fs)
    | false => none
  | .io (.ins d ns fs) => match d == c with
    | true => some (ns, fs)
    | false => none
  | _ => none
/-- x.f = a, x an instance of one's own -/
def sSetF (i : Nat) (c f : Str) (a : PEx) : PSx := fun ρ => (a ρ).st fun p ρ => (ofO (insO c (sl ρ i)) ρ).st fun nf ρ => (ofO (gd (nf.1.length < 900) ()) ρ).st fun _ ρ => .nx (slset ρ i ((sl ρ i).chg (.ins c (putN1 f p nf.1 nf.2).1 (putN1 f p nf.1 nf.2).2)))
omit [Tbs] in
theorem insO_obj {c : Str} {s : Sl} {nf : List Str × List P} (h : insO c s = some nf) : s.obj = some (.ins c nf.1 nf.2) := by
  cases s with
  | loc o =>
    cases o <;> first | (cases h; done) | skip
    rename_i d ns fs
    have h' : (match d == c with | true => some (ns, fs) | false => none) = some nf := h
    cases e : d == c with
    | false => rw [e] at h'; cases h'
    | true =>
      rw [e] at h'
      cases h'
      rw [beq_iff_eq] at e
      subst e
      rfl
  | io o =>
    cases o <;> first | (cases h; done) | skip
    rename_i d ns fs
    have h' : (match d == c with | true => some (ns, fs) | false => none) = some nf := h
    cases e : d == c with
    | false => rw [e] at h'; cases h'
    | true =>
      rw [e] at h'
      cases h'
      rw [beq_iff_eq] at e
      subst e
      rfl
  | un => cases h
  | val p => cases h
section
variable {C : Cc} {ta tb : TE} {a b : PEx} {t u : TA} {x y : PAx}
theorem look_rep {K : PySem.W.Frag} {F : Hp} {f : Str} {p : P} : ∀ {ns : List Str} {fs : List P} {vs : List V}, Reps K fs vs F → lookP ns fs f = some p → ∃ v, (ns.zip vs).lookup f = some v ∧ Rep K p v F
  | [], _, _, _, e => by simp [lookP] at e
  | _ :: _, [], _, _, e => by simp [lookP] at e
  | n :: ns, q :: fs, _, ⟨v, ws, h1, h2, h3⟩, e => by
    subst h1
    show ∃ w, List.lookup f ((n, v) :: ns.zip ws) = some w ∧ _
    rw [List.lookup_cons]
    unfold lookP at e
    cases h : f == n with
    | true =>
      rw [h] at e
      cases e
      exact ⟨v, rfl, h2⟩
    | false =>
      rw [h] at e
      exact look_rep h3 e
omit [Tbs] in
theorem fldP_some {c f : Str} {x p : P} (h : fldP c f x = some p) : ∃ ns fs, x = .ins c ns fs ∧ lookP ns fs f = some p := by
  cases x <;> first | (cases h; done) | skip
  rename_i d ns fs
  have h' : (match d == c with | true => lookP ns fs f | false => none) = some p := h
  cases e : d == c with
  | false => rw [e] at h'; cases h'
  | true =>
    rw [e] at h'
    rw [beq_iff_eq] at e
    subst e
    exact ⟨ns, fs, rfl, h'⟩
theorem s_fld {c f : Str} (hc : Cls C.K (He.ga C.K c)) (hn : NoAttr C.K (He.ga C.K c) f) (ha : SndW C ta a) : SndE C (tFld C.K ta f) (pFld c f a) := .mk fun {ρ σ F H Q Qp E} S h kx k => ha S (wp_b h) kx fun p v ρ1 F1 H1 s1 rp h => by
  obtain ⟨q, e, h9⟩ := wp_o h
  obtain ⟨ns, fs, rfl, e2⟩ := fldP_some e
  obtain ⟨ad, dx, vs, rfl, h1, h2, h3⟩ := rp
  obtain ⟨w, hw, rw_⟩ := look_rep h3 e2
  exact ⟨ad, _, dx, _, w, rfl, h1, hc, hn, hw, k q w ρ1 F1 H1 s1 rw_ h9⟩
theorem putF_zip {K : PySem.W.Frag} {F : Hp} {f : Str} {p : P} {y : V} (r : Rep K p y F) : ∀ {ns : List Str} {fs : List P} {vs : List V}, ns.length = vs.length → Reps K fs vs F →
    ∃ ws, putF f y (ns.zip vs) = (putN1 f p ns fs).1.zip ws ∧ (putN1 f p ns fs).1.length = ws.length ∧ Reps K (putN1 f p ns fs).2 ws F
  | [], fs, [], _, h => by
    cases fs with
    | nil => exact ⟨[y], rfl, rfl, reps_one r⟩
    | cons q fs => obtain ⟨_, _, z, _⟩ := h; cases z
  | [], _, _ :: _, h, _ => by simp at h
  | _ :: _, _, [], h, _ => by simp at h
  | n :: ns, fs, v :: vs, h, hr => by
    cases fs with
    | nil => cases hr
    | cons q fs =>
      obtain ⟨_, _, z, h1, h2⟩ := hr
      cases z
      have h3 : (f, v) = (f, v) := rfl
      by_cases e : f = n
      · subst e
        have eb : (f == f) = true := beq_self_eq_true f
        refine ⟨y :: vs, ?_, ?_, ?_⟩
        · show putF f y ((f, v) :: ns.zip vs) = _
          unfold putF putN1
          rw [if_pos rfl, eb]
          rfl
        · unfold putN1; rw [eb]; simpa using h
        · unfold putN1; rw [eb]; exact reps_cons r h2
      · have eb : (f == n) = false := beq_eq_false_iff_ne.mpr e
        obtain ⟨ws, k1, k2, k3⟩ := putF_zip r (ns := ns) (fs := fs) (vs := vs) (by simpa using h) h2
        refine ⟨v :: ws, ?_, ?_, ?_⟩
        · show putF f y ((n, v) :: ns.zip vs) = _
          unfold putF putN1
          rw [if_neg (fun z => e z.symm), eb, k1]
          rfl
        · unfold putN1; rw [eb]; show _ + 1 = _ + 1; rw [k2]
        · unfold putN1; rw [eb]; exact reps_cons h1 k3
theorem s_setF {i : Nat} {c f : Str} (hc : Cls C.K (He.ga C.K c)) (hn : NoAttr C.K (He.ga C.K c) f) (ha : SndE C ta a) : SndS C (sFld C.K (tVar i) ta f) (sSetF i c f a) := .mk fun {ρ σ F H D E} S h kx k => ha S (ws_s h) kx.e fun p v ρ1 F1 H1 s1 rp f1 => by
  obtain ⟨nf, e, f2⟩ := wp_o (ws_s f1)
  obtain ⟨_, e2, f3⟩ := wp_o (ws_s f2)
  obtain ⟨d, ho, hs, n1, n2, ⟨dx, vs, k1, k2, k3⟩, _⟩ := s1.st.obj (insO_obj e)
  subst k1
  obtain ⟨ws, g1, g2, g3⟩ := putF_zip (f := f) rp k2 k3
  have hl := (gd_some e2).1
  refine ⟨.ref d, hs, d, _, dx, _, rfl, n2, hc, hn, by rw [List.length_zip, ← k2]; omega, ?_⟩
  rw [g1]
  have s2 := s1.st.chg (q := .ins c (putN1 f p nf.1 nf.2).1 (putN1 f p nf.1 nf.2).2) (insO_obj e) hs ⟨dx, ws, rfl, g2, g3⟩
  exact k.nx _ σ F1 _ s1.x.ff s2.st f3
end
/-! ### __init__ -/
structure StoodI (K : PySem.W.Frag) (mg : Str → Option Value) (c : Str) (st : Stmt) (kws : List (Str × V)) : Prop where
  ex : ∃ fd, FunD K "__init__" (c ++ ".__init__") (defArgs st) (defBody st) (defScope st) [] kws (He.ma K (He.ga K c) "__init__") fd ∧ Mk K (He.ga K c) (He.ma K (He.ga K c) "__init__") ∧ mg c = some (.ref (He.ga K c))
structure HasI (P' : Program) (w : World) (K : PySem.W.Frag) (mg : Str → Option Value) (base : Heap) (c : Str) (st : Stmt) (kws : List (Str × V)) (k : Nat) (ps : List Str) (sp : Sp) : Prop where
  ex : ∃ fd, FunD K "__init__" (c ++ ".__init__") (defArgs st) (defBody st) (defScope st) [] kws (He.ma K (He.ga K c) "__init__") fd ∧ Mk K (He.ga K c) (He.ma K (He.ga K c) "__init__") ∧ mg c = some (.ref (He.ga K c)) ∧
    FnOk P' w K mg base (L2N.CX P' w) k (He.ma K (He.ga K c) "__init__") fd ps sp
section
variable {P' : Program} {w : World} {K : PySem.W.Frag} {mg : Str → Option Value} {base : Heap} {c : Str} {st : Stmt} {kws : List (Str × V)} {k : Nat} {N ps : List Str}
/-- THE RULE: an __init__ by its pure reading -/
theorem StoodI.okF (S : StoodI K mg c st kws) (sc : FnScope N ps (defScope st)) (n : Nat) (hN : N.length = ps.length + n) (s : PSx) {t : XK → TS}
    (der : ∀ (fa : Addr) (cdv : Value) (A : Around) (outer : List Env) (sh : Shared) (H : Hp) (E : XK), Room k (A.deeper (envOfC (c ++ ".__init__") (defScope st) sh.heap.objs.size fa cdv)) →
      OutOk (cxOf (L2N.CX P' w) P' w K mg base N (c ++ ".__init__") (defScope st) fa cdv A outer sh H E) E → PSs (cxOf (L2N.CX P' w) P' w K mg base N (c ++ ".__init__") (defScope st) fa cdv A outer sh H E) (defBody st) (t E))
    (snd : ∀ io F0 H0 E tb, SndS ⟨K, io, F0, H0, E, tb⟩ (t E) s) : HasI P' w K mg base c st kws (k + 1) ps (liftF K ps.length (runD n s)) := by
  obtain ⟨fd, F, M, g⟩ := S.ex
  refine ⟨fd, F, M, g, ?_⟩
  obtain ⟨oc, od, dV, kV, doc, pm, an, cdv, ct, osl, rfl, lk, hcd, hD, hK⟩ := F.ex
  exact fn_of lk hcd sc liftF_len fun A outer sh H vs Q E hr hsp => ⟨t E, der _ cdv A outer sh H E hr outOk, body_go hN snd hsp⟩
end
/-- what comes of C(..) -/
def makeR (js : List (Option Nat)) (xs : List Sl) (r : RF) (ρ : Ro) : R PO := match r with
  | .ok .non (o :: os) => .ok o (wb js xs os ρ)
  | .ex e (_ :: os) => .ex e (wb js xs os ρ)
  | _ => .bad
def nMake (c : Str) (js : List (Option Nat)) (n : Nat) (f : FL) (g : List Sl → List Sl) (a : PGa) : PNx := fun ρ => (a ρ).bind fun xs ρ => (ofO (gd (xs.length + 1 = n) ()) ρ).bind fun _ ρ => makeR js xs (f (.io (.ins c [] []) :: xs)) ρ
omit [Tbs] in
theorem wp_make {js : List (Option Nat)} {xs : List Sl} {r : RF} {ρ : Ro} {Q : PO → Ro → Prop} {E : EP} (h : wp (makeR js xs r ρ) Q E) : wf r (fun p os => p = .non ∧ ∃ o os', os = o :: os' ∧ Q o (wb js xs os' ρ)) (fun e os => ∃ o os', os = o :: os' ∧ E e (wb js xs os' ρ)) := by
  cases r with
  | bad => exact h
  | ok p os =>
    cases p <;> first | exact h.elim | skip
    cases os with
    | nil => exact h.elim
    | cons o os => exact ⟨rfl, o, os, rfl, h⟩
  | ex e os =>
    cases os with
    | nil => exact h.elim
    | cons o os => exact ⟨o, os, rfl, h⟩
/-- a new instance, handed to its __init__ -/
theorem make_go {C : Cc} {c : Str} {n : Nat} {f : FL} {js : List (Option Nat)} {xs : List Sl} {vs : List V} {ρ : Ro} {σ : L2.St} {F H : Hp} {Q : VK} {Qp : PO → Ro → Prop} {E : EP} {x dx : Addr} (S : Stt C ρ σ F H) (nd : nodupJ js) (ok : AgOk C.K ρ σ F js xs vs) (hn : xs.length + 1 = n)
    (hx : H x = none) (hdx : H dx = none) (hne : dx ≠ x) (h : wp (makeR js xs (f (.io (.ins c [] []) :: xs)) ρ) Qp E) (kx : XOe C σ ρ F H E)
    (k : ∀ o a h ρ' F' H', Stp C σ ρ F H ρ' F' H' → H a = none → F' a = none → H' a = some h → RepO C.K o h F' → Qp o ρ' → Q (.ref a) H') :
    liftF C.K n f (.ref x :: vs) (upd (upd H dx (.own x)) x (.ins (He.ga C.K c) dx [])) (fun v H3 => v = .non ∧ Q (.ref x) H3) C.W := by
  have x1 : Ext none F H F (upd H dx (.own x)) := Ext.own S.x.fh hdx
  have hx1 : (upd H dx (.own x)) x = none := by rw [upd_ne (fun z => hne z.symm)]; exact hx
  have x2 : Ext none F H F (upd (upd H dx (.own x)) x (.ins (He.ga C.K c) dx [])) := x1.trans (Ext.own (o := .ins (He.ga C.K c) dx []) x1.fh hx1)
  have S2 := (Stp.ext S x2).st
  have ok0 := agok_args S2 nd ok
  have nx : ∀ {i : Nat} {o : PO} {a : Addr}, xs[i]? = some (.io o) → vs[i]? = some (.ref a) → a ≠ x := fun {i o a} h1 h2 z => by
    obtain ⟨v, hv, q⟩ := agok_at ok h1
    rw [h2] at hv
    cases hv
    rcases q with ⟨p, e, _⟩ | ⟨j, o1, _, _, e3, e4⟩
    · cases e
    · obtain ⟨b, hb, g1, _, g3, _⟩ := S.obj e4
      rw [e3] at g1
      cases g1
      rw [z, hx] at g3; cases g3
  have ok1 : ArgsOk C.K (.io (.ins c [] []) :: xs) (.ref x :: vs) F (upd (upd H dx (.own x)) x (.ins (He.ga C.K c) dx [])) := by
    refine ⟨congrArg (· + 1) ok0.len, fun i s e => ?_, fun i j a o o' ne e1 e2 v1 v2 => ?_⟩
    · cases i with
      | zero => cases e; exact ⟨_, rfl, x, _, rfl, Same.free S.x.fh hx, upd_same, dx, [], rfl, rfl, rfl⟩
      | succ i => exact ok0.at_ i s e
    · cases i with
      | zero =>
        cases j with
        | zero => exact ne rfl
        | succ j => cases v1; exact nx e2 v2 rfl
      | succ i =>
        cases j with
        | zero => cases v2; exact nx e1 v1 rfl
        | succ j => exact ok0.dis i j a o o' (fun z => ne (by rw [z])) e1 e2 v1 v2
  have down : ∀ {F' H' os o}, Fr (IoAt (.io (.ins c [] []) :: xs) (.ref x :: vs)) F (upd (upd H dx (.own x)) x (.ins (He.ga C.K c) dx [])) F' H' → OsOk C.K (.io (.ins c [] []) :: xs) (.ref x :: vs) (o :: os) F' H' → Fr (IoAt xs vs) F H F' H' ∧ OsOk C.K xs vs os F' H' ∧ ∃ h, F' x = none ∧ H' x = some h ∧ RepO C.K o h F' := fun {F' H' os o} X oo => by
    refine ⟨⟨X.ff, X.fh, fun a u n g e => X.hh a u (fun ⟨i, q, z1, z2⟩ => ?_) g (x2.hh a u (by simp) e), fun a e => X.bb a (x2.some_ e), fun a n1 e => X.nw a n1 (x2.some_ e), fun t => X.tk (t.ext fun b o e => x2.hh b o (by simp) e)⟩, fun i q e => oo (i + 1) q e, ?_⟩
    · cases i with
      | zero => cases z2; rw [hx] at e; cases e
      | succ i => exact n ⟨i, q, z1, z2⟩
    · obtain ⟨o', a, h, h1, h2, h3⟩ := oo 0 _ rfl
      cases h1
      cases h2
      exact ⟨h, h3⟩
  refine ⟨F, _, _, _, S2.x.fh, ok1, C.tb.fr S2.x, hn, wp_make h, fun p v os F' H' X oo r ⟨e0, o, os', e1, q⟩ => ?_, fun e cls d os F' H' X oo r ⟨o, os', e1, q⟩ => ?_⟩
  · subst e0; subst e1
    cases r
    obtain ⟨X', oo', h', h1, h2, h3⟩ := down X oo
    exact ⟨rfl, k o x h' _ F' H' (S.back nd ok X' oo') hx h1 h2 h3 q⟩
  · subst e1
    obtain ⟨X', oo', _⟩ := down X oo
    exact kx e cls d _ F' H' (S.back nd ok X' oo') r q
/-- C(e, ..) -/
def nMk (c : Str) (js : List (Option Nat)) (n : Nat) (f : FL) (a : PGa) : PNx := fun ρ => (a ρ).bind fun xs ρ => (ofO (gd (xs.length + 1 = n) ()) ρ).bind fun _ ρ => makeR js xs (f (.io (.ins c [] []) :: xs)) ρ
theorem n_mk {C : Cc} {c : Str} {js : List (Option Nat)} {n : Nat} {f : FL} {t : TA} {a : PGa} (ha : SndAg C js t a) (nd : nodupB js = true := by rfl) : SndN C (tMake (He.ga C.K c) (liftF C.K n f) [] C.W t) (nMk c js n f a) := .mk fun {ρ σ F H Q Qp E} S h kx k => ha.run S (wp_b h) kx fun xs vs ρ1 F1 H1 s1 ok h => by
  obtain ⟨_, e, h⟩ := wp_o (wp_b h)
  intro x dx hx hdx hne
  rw [List.append_nil]
  exact make_go s1.st (nodup_of nd) ok (gd_some e).1 hx hdx hne h (kx.to s1) fun o a hh ρ2 F2 H2 s2 n1 n2 n3 n4 q => k o a hh ρ2 F2 H2 (s1.trans s2) (s1.x.back n1) n2 n3 n4 q
/-- C(k = v, ..) by keywords alone; g puts the values in the order of the parameters -/
def nMkK (c : Str) (m n : Nat) (f : FL) (g : List P → List P) (y : PAx) : PNx := fun ρ => (y ρ).bind fun ys ρ => (ofO (gd (ys.length = m ∧ (g ys).length + 1 = n) ()) ρ).bind fun _ ρ => makeR [] ((g ys).map Sl.val) (f (.io (.ins c [] []) :: (g ys).map Sl.val)) ρ
theorem agok_vals {K : PySem.W.Frag} {ρ : Ro} {σ : L2.St} {F : Hp} : ∀ {ps : List P} {vs : List V}, Reps K ps vs F → AgOk K ρ σ F (ps.map fun _ => none) (ps.map Sl.val) vs
  | [], _, h => by cases h; exact True.intro
  | p :: ps, _, ⟨v, ws, e, h1, h2⟩ => by subst e; exact ⟨⟨p, rfl, h1⟩, agok_vals h2⟩
omit [Tbs] in
theorem nodup_none {α : Type} : ∀ (ps : List α), nodupJ (ps.map fun _ => (none : Option Nat)) := fun ps i j k _ e _ => by
  have := List.mem_of_getElem? e
  rw [List.mem_map] at this
  obtain ⟨_, _, z⟩ := this
  cases z
omit [Tbs] in
theorem wb_none {α : Type} : ∀ (ps : List α) (qs : List P) (os : List PO) (ρ : Ro), wb (ps.map fun _ => (none : Option Nat)) (qs.map Sl.val) os ρ = ρ
  | [], _, _, _ => by cases ‹List P› <;> (unfold wb; rfl)
  | _ :: ps, [], _, _ => by unfold wb; rfl
  | _ :: ps, q :: qs, os, ρ => by
    show wb (none :: _) (.val q :: _) os ρ = ρ
    unfold wb
    exact wb_none ps qs os ρ
omit [Tbs] in
theorem wb_nil (xs : List Sl) (os : List PO) (ρ : Ro) : wb [] xs os ρ = ρ := by unfold wb; rfl
theorem n_mkK {C : Cc} {c : Str} {m n : Nat} {f : FL} {gV : List V → List V → List V} {g' : List V → List V} {gP : List P → List P} (hg : ∀ a zs, zs.length = m → gV [.ref a] zs = .ref a :: g' zs)
    (ng : ∀ {F : Hp} {ys : List P} {ws : List V}, ys.length = m → Reps C.K ys ws F → Reps C.K (gP ys) (g' ws) F) {u : TA} {y : PAx} (hy : SndA C u y) : SndN C (tMakeK (He.ga C.K c) 0 m (liftF C.K n f) gV C.W tNil u) (nMkK c m n f gP y) := .mk fun {ρ σ F H Q Qp E} S h kx k =>
  hy S (wp_b h) kx fun ys ws ρ1 F1 H1 s1 rq h => by
  obtain ⟨_, e, h⟩ := wp_o (wp_b h)
  obtain ⟨h1, h2⟩ := (gd_some e).1
  have l2 : ws.length = m := by rw [← reps_len rq]; exact h1
  refine ⟨rfl, l2, fun x dx hx hdx hne => ?_⟩
  rw [hg x ws l2]
  have h' : wp (makeR ((gP ys).map fun _ => none) ((gP ys).map Sl.val) (f (.io (.ins c [] []) :: (gP ys).map Sl.val)) ρ1) Qp E := by
    have e1 : ∀ r, makeR ((gP ys).map fun _ => none) ((gP ys).map Sl.val) r ρ1 = makeR [] ((gP ys).map Sl.val) r ρ1 := fun r => by
      unfold makeR
      cases r with
      | bad => rfl
      | ok p os => cases p <;> first | rfl | (cases os <;> first | rfl | (show R.ok _ _ = R.ok _ _; rw [wb_none, wb_nil]))
      | ex e os => cases os <;> first | rfl | (show R.ex _ _ = R.ex _ _; rw [wb_none, wb_nil])
    rw [e1]; exact h
  exact make_go s1.st (nodup_none _) (agok_vals (ng h1 rq)) (by rw [List.length_map]; exact h2) hx hdx hne h' (kx.to s1) fun o a hh ρ2 F2 H2 s2 n1 n2 n3 n4 q => k o a hh ρ2 F2 H2 (s1.trans s2) (s1.x.back n1) n2 n3 n4 q
/-! ### methods -/
structure StoodM (K : PySem.W.Frag) (c m q : Str) (st : Stmt) : Prop where
  ex : ∃ fd, FunD K m q (defArgs st) (defBody st) (defScope st) [] [] (He.ma K (He.ga K c) m) fd ∧ Cls K (He.ga K c) ∧ Meth K (He.ga K c) m (He.ma K (He.ga K c) m)
structure MetF (P : Program) (w : World) (K : PySem.W.Frag) (mg : Str → Option Value) (base : Heap) (k : Nat) (c m q : Str) (st : Stmt) (ps : List Str) (sp : Sp) : Prop where
  ex : ∃ (f : Addr) (fd : FuncData), Cls K (He.ga K c) ∧ Meth K (He.ga K c) m f ∧ FnOk P w K mg base (L2N.CX P w) k f fd ps sp ∧ Binds K fd ps [] ∧ FunD K m q (defArgs st) (defBody st) (defScope st) [] [] f fd
def selfB (c m : Str) : P → Bool
  | .ins d ns _ => d == c && !(ns.contains m)
  | _ => false
def pMeth (c m : Str) (js : List (Option Nat)) (n : Nat) (f : FL) (a : PEx) (x : PGa) : PEx := fun ρ => (a ρ).bind fun p ρ => (ofO (gd (selfB c m p = true) ()) ρ).bind fun _ ρ => (x ρ).bind fun xs ρ => (ofO (gd (xs.length + 1 = n) ()) ρ).bind fun _ ρ => backR (none :: js) (.val p :: xs) (f (.val p :: xs)) ρ
omit [Tbs] in
theorem look_none {m : Str} : ∀ {ns : List Str} {vs : List V}, m ∉ ns → (ns.zip vs).lookup m = none
  | [], _, _ => rfl
  | _ :: _, [], _ => rfl
  | n :: ns, v :: vs, h => by
    show List.lookup m ((n, v) :: ns.zip vs) = none
    rw [List.lookup_cons]
    have e : (m == n) = false := by
      rw [beq_eq_false_iff_ne]
      exact fun z => h (by rw [z]; exact List.mem_cons_self ..)
    rw [e]
    exact look_none fun z => h (List.mem_cons_of_mem _ z)
omit [Tbs] in
theorem selfB_some {c m : Str} {p : P} (h : selfB c m p = true) : ∃ ns fs, p = .ins c ns fs ∧ m ∉ ns := by
  cases p <;> first | (cases h; done) | skip
  rename_i d ns fs
  have h' : (d == c && !(ns.contains m)) = true := h
  rw [Bool.and_eq_true, Bool.not_eq_true', beq_iff_eq] at h'
  refine ⟨ns, fs, by rw [h'.1], fun z => ?_⟩
  rw [List.contains_iff_mem.mpr z] at h'
  cases h'.2
theorem s_meth {C : Cc} {c m : Str} {js : List (Option Nat)} {n : Nat} {f : FL} {ta : TE} {a : PEx} {t : TA} {x : PGa} (ha : SndE C ta a) (hx : SndAg C js t x) (nd : nodupB js = true := by rfl) : SndE C (tMeth (He.ga C.K c) m (liftF C.K n f) [] C.W ta t) (pMeth c m js n f a x) := .mk fun {ρ σ F H Q Qp E} S h kx k => ha S (wp_b h) kx fun p v ρ1 F1 H1 s1 rp h => by
  obtain ⟨_, e, h⟩ := wp_o (wp_b h)
  obtain ⟨ns, fs, rfl, hm⟩ := selfB_some (gd_some e).1
  have rp0 := rp
  obtain ⟨ad, dx, vs, rfl, h1, h2, h3⟩ := rp
  refine ⟨ad, dx, _, rfl, s1.x.fh _ _ h1, look_none hm, hx.run s1.st (wp_b h) (kx.to s1) fun xs ws ρ2 F2 H2 s2 ok h => ?_⟩
  obtain ⟨_, e2, h⟩ := wp_o (wp_b h)
  rw [List.append_nil]
  exact lift_go (js := none :: js) (xs := .val (.ins c ns fs) :: xs) s2.st (nodup_of (js := none :: js) nd) ⟨⟨_, rfl, rep_up s2.x.ff rp0⟩, ok⟩ (gd_some e2).1 h (kx.to (s1.trans s2)) fun p v ρ3 F3 H3 s3 r q => k p v ρ3 F3 H3 ((s1.trans s2).trans s3) r q
section
variable {P' : Program} {w : World} {K : PySem.W.Frag} {mg : Str → Option Value} {base : Heap} {c m q0 : Str} {st : Stmt} {k j : Nat} {N ps : List Str}
/-- THE RULE: a method by its pure reading -/
theorem StoodM.okF (S : StoodM K c m q0 st) (sc : FnScope N ps (defScope st)) (n : Nat) (hN : N.length = ps.length + n) (s : PSx)
    (hb : ∀ (kV doc pm : Value) (an : Option Addr) (cdv ct : Value) (us : List Value), us.length = ps.length → bindArgs (PySem.W.fnOf m q0 (defArgs st) (defBody st) (defScope st) .none kV doc pm an cdv ct) ⟨us, []⟩ = pure (ps.zip us))
    {t : XK → TS} (der : ∀ (fa : Addr) (cdv : Value) (A : Around) (outer : List Env) (sh : Shared) (H : Hp) (E : XK), Room k (A.deeper (envOfC q0 (defScope st) sh.heap.objs.size fa cdv)) →
      OutOk (cxOf (L2N.CX P' w) P' w K mg base N q0 (defScope st) fa cdv A outer sh H E) E → PSs (cxOf (L2N.CX P' w) P' w K mg base N q0 (defScope st) fa cdv A outer sh H E) (defBody st) (t E))
    (snd : ∀ io F0 H0 E tb, SndS ⟨K, io, F0, H0, E, tb⟩ (t E) s) : MetF P' w K mg base (k + 1) c m q0 st ps (liftF K ps.length (runD n s)) := by
  obtain ⟨fd, F, c1, m1⟩ := S.ex
  refine ⟨_, fd, c1, m1, ?_, F.bindsN hb, F⟩
  obtain ⟨oc, od, dV, kV, doc, pm, an, cdv, ct, osl, rfl, lk, hcd, hD, hK⟩ := F.ex
  exact fn_of lk hcd sc liftF_len fun A outer sh H vs Q E hr hsp => ⟨t E, der _ cdv A outer sh H E hr outOk, body_go hN snd hsp⟩
end
section
variable {X : Cx} {k j : Nat} {c m q : Str} {st : Stmt} {ps : List Str} {sp : Sp} {o e : Expr} {es : List Expr} {pos apos : Pos} {t : TA} {ta : TE} {E : XK}
omit [Tbs] in
theorem pe_metF (K : PySem.W.Frag) {pl : Sem Bool} (h : MetF X.prog X.w K X.mg X.base k c m q st ps sp) (hr : Room j X.A) (hk : k ≤ j) (hx : Passes (L2N.CX X.prog X.w) X E) (he : PE X o ta) (ha : PA X (e :: es) t) (hK : X.K = K := by rfl)
    (hst : starEach (e :: es) X.env = (false, eval e X.env) :: starEach es X.env := by rfl) (hpl : (backTo pos (starEach es X.env)).any (·.1) = false := by rfl)
    (ht : eval (.Call (.Attribute o m apos) (e :: es) [] pos) X.env = (do
      let ov ← eval o X.env
      standAt apos.atName
      let (f, first) ← holding [ov] (getMethod ov m pl)
      callWith pos f first (backTo pos (starEach (e :: es) X.env)) (backToKw pos (keywordEach [] X.env))) := by rfl) :
    PE X (.Call (.Attribute o m apos) (e :: es) [] pos) (tMeth (He.ga K c) m sp [] E ta t) := by
  subst hK
  obtain ⟨f, fd, hc, hm, F, b, _⟩ := h.ex
  exact pe_meth (pl := pl) he hc hm F (hr.mono hk) b .nil hx ha hst hpl ht
omit [Tbs] in
theorem pe_metF0 (K : PySem.W.Frag) {pl : Sem Bool} (h : MetF X.prog X.w K X.mg X.base k c m q st ps sp) (hr : Room j X.A) (hk : k ≤ j) (hx : Passes (L2N.CX X.prog X.w) X E) (he : PE X o ta) (hK : X.K = K := by rfl)
    (ht : eval (.Call (.Attribute o m apos) [] [] pos) X.env = (do
      let ov ← eval o X.env
      standAt apos.atName
      let (f, first) ← holding [ov] (getMethod ov m pl)
      callWith pos f first (backTo pos (starEach [] X.env)) (backToKw pos (keywordEach [] X.env))) := by rfl) :
    PE X (.Call (.Attribute o m apos) [] [] pos) (tMeth (He.ga K c) m sp [] E ta tNil) := by
  subst hK
  obtain ⟨f, fd, hc, hm, F, b, _⟩ := h.ex
  exact pe_meth0 (pl := pl) he hc hm F (hr.mono hk) b .nil hx ht
omit [Tbs] in
/-- C(e, ..) -/
theorem pe_mkF (K : PySem.W.Frag) {st : Stmt} {ps : List Str} {p : Pos} (h : HasI X.prog X.w K X.mg X.base c st [] k ps sp) (hr : Room (k + 1) X.A) (hx : Passes (L2N.CX X.prog X.w) X E) (hg : Gl X c) (ha : PA X (e :: es) t)
    (hb : ∀ (kV doc pm : Value) (an : Option Addr) (cdv ct : Value) (us : List Value), us.length = ps.length → bindArgs (PySem.W.fnOf "__init__" (c ++ ".__init__") (defArgs st) (defBody st) (defScope st) .none kV doc pm an cdv ct) ⟨us, []⟩ = pure (ps.zip us)) (hK : X.K = K := by rfl)
    (hdb : (c == ("__debug__" : Str)) = false := by decide) (he : starEach (e :: es) X.env = (false, eval e X.env) :: starEach es X.env := by rfl) (hpl : (backTo pos (starEach es X.env)).any (·.1) = false := by rfl) :
    PE X (.Call (.Name c p) (e :: es) [] pos) (tMake (He.ga K c) sp [] E t) := by
  subst hK
  obtain ⟨fd, F, M, gm, G⟩ := h.ex
  exact pe_make M G hr hg gm (F.bindsN hb) .nil hx ha hdb he hpl
omit [Tbs] in
/-- C(k = v, ..), keyword-only: the keywords ks are handed, the parameters ms take their defaults -/
theorem pe_mkKF {st : Stmt} {kws : List (Str × V)} {ps ks : List Str} {p : Pos} {kwx : List Keyword} {tk : TA} (K : PySem.W.Frag) (h : HasI X.prog X.w X.K X.mg X.base c st kws k ps sp) (hr : Room (k + 1) X.A) (hx : Passes (L2N.CX X.prog X.w) X E) (hg : Gl X c) (hkw : PK X kwx tk) (ms : List (Str × V)) (g : {α : Type} → List α → List α → List α → List α) (hk : kws ≠ []) (hms : ∀ q ∈ ms, q ∈ kws)
    (hrel : ∀ {vs mz zs : List V} {us mv ws : List Value}, Vals vs us → Vals mz mv → Vals zs ws → Vals (g vs mz zs) (g us mv ws))
    (hb : ∀ (D : Addr) (doc pm : Value) (an : Option Addr) (cdv ct : Value) (us mv ws : List Value), us.length = 1 → mv.length = ms.length → ws.length = ks.length →
      KwChain D ((ms.map (·.1)).zip mv) (bindArgs (PySem.W.fnOf "__init__" (c ++ ".__init__") (defArgs st) (defBody st) (defScope st) .none (.ref D) doc pm an cdv ct) ⟨us, ks.zip ws⟩) (ps.zip (g us mv ws)))
    (hK : X.K = K := by rfl) (hall : (backToKw pos (keywordEach kwx X.env)).all (·.1.isSome) = true := by rfl) (hks : (backToKw pos (keywordEach kwx X.env)).filterMap (·.1) = ks := by rfl) (hdb : (c == ("__debug__" : Str)) = false := by decide)
    (hpl : ((backTo pos (starEach [] X.env)).any (·.1) || (backToKw pos (keywordEach kwx X.env)).any (·.1.isNone)) = false := by rfl) :
    PE X (.Call (.Name c p) [] kwx pos) (tMakeK (He.ga K c) 0 ks.length sp (fun vs zs => g vs (ms.map (·.2)) zs) E tNil tk) := by
  subst hK
  obtain ⟨fd, F, M, gm, G⟩ := h.ex
  obtain ⟨mv, B⟩ := F.kbinds0 1 ks ms g hk hms hrel hb
  exact pe_makeK0 M G hr hg gm B hx hkw hall hks hdb hpl
/-- o.m(k = v, ..): all arguments by keywords -/
def tMethK (C : Addr) (m : Str) (n : Nat) (g : List V → List V) (sp : Sp) (E : XK) (ta : TE) (tk : TA) : TE := fun σ H Q => ta σ H fun x H1 => ∃ a dx fs, x = .ref a ∧ H1 a = some (.ins C dx fs) ∧ fs.lookup m = none ∧
  tk σ H1 fun zs H2 => zs.length = n ∧ sp (x :: g zs) H2 Q E
omit [Tbs] in
theorem pe_metFK {ks : List Str} {kws : List Keyword} {tk : TA} (K : PySem.W.Frag) {pl : Sem Bool} (h : MetF X.prog X.w K X.mg X.base k c m q st ps sp) (hr : Room j X.A) (hk : k ≤ j) (hx : Passes (L2N.CX X.prog X.w) X E) (he : PE X o ta) (hkw : PK X kws tk)
    (g : {α : Type} → List α → List α) (hg : ∀ {vs : List V} {us : List Value}, Vals vs us → Vals (g vs) (g us))
    (hb : ∀ (kV doc pm : Value) (an : Option Addr) (cdv ct u : Value) (ws : List Value), ws.length = ks.length → bindArgs (PySem.W.fnOf m q (defArgs st) (defBody st) (defScope st) .none kV doc pm an cdv ct) ⟨[u], ks.zip ws⟩ = pure (ps.zip (u :: g ws)))
    (hK : X.K = K := by rfl) (hall : (backToKw pos (keywordEach kws X.env)).all (·.1.isSome) = true := by rfl) (hks : (backToKw pos (keywordEach kws X.env)).filterMap (·.1) = ks := by rfl)
    (hpl : ((backTo pos (starEach [] X.env)).any (·.1) || (backToKw pos (keywordEach kws X.env)).any (·.1.isNone)) = false := by rfl)
    (ht : eval (.Call (.Attribute o m apos) [] kws pos) X.env = (do
      let ov ← eval o X.env
      standAt apos.atName
      let (f, first) ← holding [ov] (getMethod ov m pl)
      callWith pos f first (backTo pos (starEach [] X.env)) (backToKw pos (keywordEach kws X.env))) := by rfl) :
    PE X (.Call (.Attribute o m apos) [] kws pos) (tMethK (He.ga K c) m ks.length g sp E ta tk) := by
  subst hK
  obtain ⟨f, fd, hc, hm, F, b, D⟩ := h.ex
  obtain ⟨oc, od, dV, kV, doc, pm, an, cdv, ct, osl, rfl, lk, hcd, hD, hK⟩ := D.ex
  rcases hD with ⟨_, rfl⟩ | ⟨e, _⟩
  · refine ⟨fun pins s σ H Q I hq => ?_⟩
    refine PySem.W.methodCall_KW (pl := pl) (thn (he.run pins s σ H _ I hq) fun u s1 ⟨x, H1, I1, rx, a, dx, fs, ex, ea, l, q⟩ => ?_) ht
    subst ex
    obtain rfl : u = Value.ref a := rx
    refine getmeth_ok I1 ea hc hm l ?_
    refine PySem.W.callWith_KW0 (first := [.ref a]) (h₀ := X.base) I.ok.mod.kin hm.kp hall (thn (hkw.run pos pins s1 σ H1 _ I1 q) fun ws s2 ⟨zs, H2, I2, rz, hl, q2⟩ => ⟨I2.kIn, ?_⟩) hpl
    rw [hks]
    have hlw : ws.length = ks.length := by rw [← rz.length]; exact hl
    refine wpAny_call (codeAny_mono (F.run X.A X.stack s2 H2 ⟨[.ref a] ++ [], ks.zip ws⟩ (.ref a :: g ws) (.ref a :: g zs) Q E (hr.mono hk) I2.env0 (.of_eq (hb kV doc pm an cdv ct (.ref a) ws hlw)) (.cons rfl (hg rz)) q2) fun r s' hq => ?_)
    cases r with
    | error e => exact hx pins σ H2 s2 e s' I2 hq
    | ok fl =>
      cases fl with
      | ret u => exact I2.after hq
      | next => exact False.elim hq
      | brk => exact False.elim hq
      | cont => exact False.elim hq
  · exact absurd rfl e
/-- the pure reading of o.m(k = v, ..) -/
def pMethK (c m : Str) (mm n : Nat) (f : FL) (g : List P → List P) (a : PEx) (x : PAx) : PEx := fun ρ => (a ρ).bind fun p ρ => (ofO (gd (selfB c m p = true) ()) ρ).bind fun _ ρ => (x ρ).bind fun ys ρ => (ofO (gd (ys.length = mm ∧ (g ys).length + 1 = n) ()) ρ).bind fun _ ρ => backR [] [] (f (.val p :: (g ys).map Sl.val)) ρ
theorem s_methK {C : Cc} {c m : Str} {mm n : Nat} {f : FL} {gV : List V → List V} {gP : List P → List P} {ta : TE} {a : PEx} {t : TA} {x : PAx} (ng : ∀ {F : Hp} {ys : List P} {ws : List V}, ys.length = mm → Reps C.K ys ws F → Reps C.K (gP ys) (gV ws) F) (ha : SndE C ta a) (hx : SndA C t x) :
    SndE C (tMethK (He.ga C.K c) m mm gV (liftF C.K n f) C.W ta t) (pMethK c m mm n f gP a x) := .mk fun {ρ σ F H Q Qp E} S h kx k => ha S (wp_b h) kx fun p v ρ1 F1 H1 s1 rp h => by
  obtain ⟨_, e, h⟩ := wp_o (wp_b h)
  obtain ⟨ns, fs, rfl, hm⟩ := selfB_some (gd_some e).1
  have rp0 := rp
  obtain ⟨ad, dx, vs, rfl, h1, h2, h3⟩ := rp
  refine ⟨ad, dx, _, rfl, s1.x.fh _ _ h1, look_none hm, hx s1.st (wp_b h) (kx.to s1) fun ys ws ρ2 F2 H2 s2 rq h => ?_⟩
  obtain ⟨_, e2, h⟩ := wp_o (wp_b h)
  obtain ⟨l1, l2⟩ := (gd_some e2).1
  refine ⟨by rw [← reps_len rq]; exact l1, ?_⟩
  have h' : wp (backR (none :: (gP ys).map fun _ => none) (.val (.ins c ns fs) :: (gP ys).map Sl.val) (f (.val (.ins c ns fs) :: (gP ys).map Sl.val)) ρ2) Qp E := by
    have e1 : ∀ r, backR (none :: (gP ys).map fun _ => none) (.val (.ins c ns fs) :: (gP ys).map Sl.val) r ρ2 = backR [] [] r ρ2 := fun r => by
      have e3 : ∀ os, wb (none :: (gP ys).map fun _ => none) (.val (.ins c ns fs) :: (gP ys).map Sl.val) os ρ2 = wb [] [] os ρ2 := fun os => by
        rw [wb_nil]; exact wb_none (P.ins c ns fs :: gP ys) (P.ins c ns fs :: gP ys) os ρ2
      cases r with
      | bad => rfl
      | ok p os => show R.ok _ _ = R.ok _ _; rw [e3]
      | ex e os => show R.ex _ _ = R.ex _ _; rw [e3]
    rw [e1]; exact h
  exact lift_go (js := none :: (gP ys).map fun _ => none) (xs := .val (.ins c ns fs) :: (gP ys).map Sl.val) s2.st (nodup_none (.ins c ns fs :: gP ys)) ⟨⟨_, rfl, rep_up s2.x.ff rp0⟩, agok_vals (ng l1 rq)⟩ (by rw [List.length_cons, List.length_map]; exact l2) h' (kx.to (s1.trans s2)) fun p v ρ3 F3 H3 s3 r q => k p v ρ3 F3 H3 ((s1.trans s2).trans s3) r q
end
end FX

/-! dicts in the pure layer -/
namespace L2
open PySem PySem.Spec
theorem Room.u1 {k : Nat} {A : Around} (r : Room k A) : A.units + 1 < cLine := by have := r.un; omega
end L2
namespace FX
open PySem PySem.Spec PyProof.Rows L2 RZ PX
variable [Tbs]
/-- a value that may be a key -/
def keyP : P → Option Key
  | .int i => some (.inl i)
  | .str cs => some (.inr (SX.S cs))
  | _ => none
def keysP : List P → Option (List Key)
  | [] => some []
  | p :: ps => match keyP p, keysP ps with
    | some k, some ks => some (k :: ks)
    | _, _ => none
theorem keyP_rep {K : PySem.W.Frag} {F : Hp} {p : P} {v : V} {k : Key} (e : keyP p = some k) (r : Rep K p v F) : v = kV k := by
  cases p <;> simp only [keyP, reduceCtorEq, Option.some.injEq] at e
  · subst e; exact r
  · subst e; exact r
theorem keysP_rep {K : PySem.W.Frag} {F : Hp} : ∀ {ps : List P} {vs : List V} {ks : List Key}, keysP ps = some ks → Reps K ps vs F → vs = ks.map kV
  | [], _, _, e, r => by cases e; exact r
  | p :: ps, _, ks, e, ⟨v, ws, h1, h2, h3⟩ => by
    unfold keysP at e
    cases h : keyP p with
    | none => rw [h] at e; cases e
    | some k =>
      cases h' : keysP ps with
      | none => rw [h, h'] at e; cases e
      | some js =>
        rw [h, h'] at e
        cases e
        rw [h1, keyP_rep h h2, keysP_rep h' h3]
        rfl
section
variable {κ : Type} [DecidableEq κ] {α β : Type}
def getZ : List κ → List α → κ → Option α
  | j :: ks, x :: xs, k => match decide (j = k) with
    | true => some x
    | false => getZ ks xs k
  | _, _, _ => none
def repZ (k : κ) (y : α) : List κ → List α → List α
  | j :: ks, x :: xs => (if j = k then y else x) :: repZ k y ks xs
  | _, xs => xs
def putKs (ks : List κ) (k : κ) : List κ := if k ∈ ks then ks else ks ++ [k]
def putVs (ks : List κ) (xs : List α) (k : κ) (x : α) : List α := if k ∈ ks then repZ k x ks xs else xs ++ [x]
omit [Tbs] in
theorem repZ_len (k : κ) (y : α) : ∀ (ks : List κ) (xs : List α), (repZ k y ks xs).length = xs.length
  | [], _ => rfl
  | _ :: _, [] => rfl
  | j :: ks, x :: xs => congrArg (· + 1) (repZ_len k y ks xs)
omit [Tbs] in
theorem put_len {ks : List κ} {xs : List α} (h : ks.length = xs.length) (k : κ) (x : α) : (putKs ks k).length = (putVs ks xs k x).length := by
  unfold putKs putVs
  split
  · rw [repZ_len]; exact h
  · rw [List.length_append, List.length_append, h]; rfl
omit [Tbs] in
theorem repZ_zip (k : κ) (y : V) : ∀ {ks : List κ} {vs : List V}, (ks.zip vs).map (fun kv => if kv.1 = k then (kv.1, y) else kv) = ks.zip (repZ k y ks vs)
  | [], _ => rfl
  | _ :: _, [] => rfl
  | j :: ks, v :: vs => by
    show (if j = k then (j, y) else (j, v)) :: (ks.zip vs).map _ = (j, if j = k then y else v) :: ks.zip (repZ k y ks vs)
    rw [repZ_zip k y]
    split <;> rfl
omit [Tbs] in
theorem any_zip (k : κ) : ∀ {ks : List κ} {vs : List V}, ks.length = vs.length → ((ks.zip vs).any fun kv => decide (kv.1 = k)) = decide (k ∈ ks)
  | [], [], _ => rfl
  | [], _ :: _, h => by cases h
  | _ :: _, [], h => by cases h
  | j :: ks, v :: vs, h => by
    show (decide (j = k) || (ks.zip vs).any _) = _
    rw [any_zip k (Nat.succ.inj h)]
    by_cases e : j = k
    · subst e; simp
    · have : ¬ k = j := fun z => e z.symm
      simp [e, this]
omit [Tbs] in
theorem putK_zip {ks : List κ} {vs : List V} (h : ks.length = vs.length) (k : κ) (y : V) : putK (ks.zip vs) k y = (putKs ks k).zip (putVs ks vs k y) := by
  unfold putK putKs putVs
  rw [any_zip k h]
  by_cases e : k ∈ ks
  · rw [if_pos (by simpa using e), if_pos e, if_pos e]
    exact repZ_zip k y
  · rw [if_neg (by simpa using e), if_neg e, if_neg e, List.zip_append h]
    rfl
theorem valV_zip {K : PySem.W.Frag} {F : Hp} (k : κ) : ∀ {ks : List κ} {fs : List P} {vs : List V}, Reps K fs vs F →
    match getZ ks fs k with
    | some p => ∃ v, valV (ks.zip vs) k = some v ∧ Rep K p v F
    | none => valV (ks.zip vs) k = none
  | [], _, _, _ => rfl
  | _ :: _, [], _, r => by
    cases r
    rfl
  | j :: ks, q :: fs, _, ⟨v, ws, h1, h2, h3⟩ => by
    subst h1
    unfold getZ
    by_cases e : j = k
    · rw [decide_eq_true e]
      exact ⟨v, valV_pos e, h2⟩
    · rw [decide_eq_false e]
      have ih := valV_zip k (ks := ks) h3
      show match getZ ks fs k with
        | some p => ∃ v', valV ((j, v) :: ks.zip ws) k = some v' ∧ Rep K p v' F
        | none => valV ((j, v) :: ks.zip ws) k = none
      rw [valV_neg (p := (j, v)) e]
      exact ih
theorem repZ_reps {K : PySem.W.Frag} {F : Hp} {k : κ} {y : P} {u : V} (ry : Rep K y u F) : ∀ {ks : List κ} {fs : List P} {vs : List V}, Reps K fs vs F → Reps K (repZ k y ks fs) (repZ k u ks vs) F
  | [], _, _, r => r
  | _ :: _, [], _, r => by cases r; rfl
  | j :: ks, q :: fs, _, ⟨v, ws, h1, h2, h3⟩ => by
    subst h1
    refine ⟨if j = k then u else v, repZ k u ks ws, rfl, ?_, repZ_reps ry h3⟩
    split
    · exact ry
    · exact h2
theorem putVs_reps {K : PySem.W.Frag} {F : Hp} {k : κ} {y : P} {u : V} {ks : List κ} {fs : List P} {vs : List V} (ry : Rep K y u F) (r : Reps K fs vs F) : Reps K (putVs ks fs k y) (putVs ks vs k u) F := by
  unfold putVs
  split
  · exact repZ_reps ry r
  · exact reps_app r (reps_one ry)
end
/-- the key that a tuple is -/
def keyT : P → Option (List Key)
  | .tup (p :: ps) => keysP (p :: ps)
  | _ => none
theorem keyT_rep {K : PySem.W.Frag} {F H : Hp} {p : P} {v : V} {k : List Key} (e : keyT p = some k) (r : RepW K p v F H) : ∃ b, v = .ref b ∧ F b = some (.tup (k.map kV)) := by
  cases p <;> first | (cases e; done) | skip
  rename_i ps
  cases ps with
  | nil => cases e
  | cons p ps =>
    obtain ⟨a, vs, rfl, h1, h2⟩ := r
    have hv := keysP_rep (show keysP (p :: ps) = some k from e) h2
    rcases h1 with h1 | ⟨h1, _⟩
    · exact ⟨a, rfl, by rw [← hv]; exact h1⟩
    · subst h1
      obtain ⟨_, _, z, _⟩ := h2
      cases z
/-- what a dict holds at a key -/
def dgetP : P → P → Option (Option P)
  | .dK ks fs, k => (keyP k).map (getZ ks fs)
  | .dT ks fs, k => (keyT k).map (getZ ks fs)
  | _, _ => none
def rDGet : R2 := fun x y H Q => ∃ a v, x = .ref a ∧ DGet H a y (some v) ∧ Q v H
def rDIn : R2 := fun y x H Q => ∃ a o, x = .ref a ∧ DGet H a y o ∧ Q (.bl o.isSome) H
def rDNin : R2 := fun y x H Q => ∃ a o, x = .ref a ∧ DGet H a y o ∧ Q (.bl (!o.isSome)) H
def fDGet : F2 := fun d k => (dgetP d k).bind id
def fDIn : F2 := fun k d => (dgetP d k).map fun o => .bl o.isSome
def fDNin : F2 := fun k d => (dgetP d k).map fun o => .bl (!o.isSome)
theorem dget_rep {K : PySem.W.Frag} {F H : Hp} {d k : P} {v u : V} {o : Option P} (e : Ex F H) (rd : RepW K d v F H) (rk : RepW K k u F H) (h : dgetP d k = some o) : ∃ a w, v = .ref a ∧ DGet H a u w ∧ match o with
    | some p => ∃ x, w = some x ∧ Rep K p x F
    | none => w = none := by
  cases d <;> first | (cases h; done) | skip
  · rename_i ks fs
    obtain ⟨key, h1, h2⟩ := Option.map_eq_some_iff.mp h
    obtain ⟨a, vs, rfl, g1, g2, g3⟩ := rd
    have hu : u = kV key := keyP_rep h1 (show Rep K k u F by cases k <;> first | exact rk | cases h1)
    subst hu
    refine ⟨a, _, rfl, DGet.k g1, ?_⟩
    have z := valV_zip key (ks := ks) g3
    rw [h2] at z
    cases o <;> exact z
  · rename_i ks fs
    obtain ⟨key, h1, h2⟩ := Option.map_eq_some_iff.mp h
    obtain ⟨a, vs, rfl, g1, g2, g3⟩ := rd
    obtain ⟨b, rfl, hb⟩ := keyT_rep h1 rk
    refine ⟨a, _, rfl, DGet.t g1 (e _ _ hb), ?_⟩
    have z := valV_zip key (ks := ks) g3
    rw [h2] at z
    cases o <;> exact z
section
variable {C : Cc} {ta tb tc : TE} {a b c : PEx}
theorem r_dget : SndR C rDGet fDGet := .mk fun {F H Q x y p v w} e rx ry h k => by
  obtain ⟨o, h1, h2⟩ := Option.bind_eq_some_iff.mp h
  cases (show o = some p from h2)
  obtain ⟨ad, z, rfl, g, q, rfl, r⟩ := dget_rep e rx ry h1
  exact ⟨ad, q, rfl, g, k q F H (Ext.refl e) r⟩
theorem r_din : SndR C rDIn fDIn := .mk fun {F H Q x y p v w} e rx ry h k => by
  obtain ⟨o, h1, rfl⟩ := Option.map_eq_some_iff.mp h
  obtain ⟨ad, z, rfl, g, q⟩ := dget_rep e ry rx h1
  refine ⟨ad, z, rfl, g, ?_⟩
  cases o with
  | none => cases q; exact k (.bl _) F H (Ext.refl e) rfl
  | some p => obtain ⟨x, rfl, _⟩ := q; exact k (.bl _) F H (Ext.refl e) rfl
theorem r_dnin : SndR C rDNin fDNin := .mk fun {F H Q x y p v w} e rx ry h k => by
  obtain ⟨o, h1, rfl⟩ := Option.map_eq_some_iff.mp h
  obtain ⟨ad, z, rfl, g, q⟩ := dget_rep e ry rx h1
  refine ⟨ad, z, rfl, g, ?_⟩
  cases o with
  | none => cases q; exact k (.bl _) F H (Ext.refl e) rfl
  | some p => obtain ⟨x, rfl, _⟩ := q; exact k (.bl _) F H (Ext.refl e) rfl
theorem s_dget (ha : SndE C ta a) (hb : SndE C tb b) : SndE C (tDGet ta tb) (pOp fDGet a b) := s_op (r := rDGet) r_dget ha hb
theorem s_dgetL {i : Nat} (hb : SndE C tb b) : SndE C (tDGet (tVar i) tb) (pOpL fDGet i b) := s_opL (r := rDGet) r_dget hb
theorem s_din (ha : SndE C ta a) (hb : SndW C tb b) : SndE C (tDIn ta tb) (pOp fDIn a b) := s_opW (r := rDIn) r_din ha hb
theorem s_dnin (ha : SndE C ta a) (hb : SndW C tb b) : SndE C (tDNotIn ta tb) (pOp fDNin a b) := s_opW (r := rDNin) r_dnin ha hb
def isDict : P → Bool
  | .dK _ _ => true
  | .dT _ _ => true
  | _ => false
theorem isD_rep {K : PySem.W.Frag} {F H : Hp} {d : P} {v : V} (rd : RepW K d v F H) (h : isDict d = true) : ∃ a, v = .ref a ∧ IsD H a := by
  cases d <;> first | (cases h; done) | skip
  · obtain ⟨a, vs, rfl, g, _⟩ := rd; exact ⟨a, rfl, .inl ⟨_, .inl g⟩⟩
  · obtain ⟨a, vs, rfl, g, _⟩ := rd; exact ⟨a, rfl, .inr ⟨_, .inl g⟩⟩
/-- d.get(k, z), d in slot i -/
def pGet2L (i : Nat) (b c : PEx) : PEx := fun ρ => (pW i ρ).bind fun d ρ => (ofO (gd (isDict d = true) ()) ρ).bind fun _ ρ => (b ρ).bind fun k ρ => (c ρ).bind fun z ρ => (pW i ρ).bind fun d ρ => (ofO (dgetP d k) ρ).bind fun o ρ => .ok (o.getD z) ρ
theorem s_get2L {i : Nat} (hb : SndE C tb b) (hc : SndE C tc c) : SndE C (tDGet2 (tVar i) tb tc) (pGet2L i b c) := .mk fun {ρ σ F H Q Qp E} S f0 kx k => by
  obtain ⟨d0, e0, f1⟩ := wp_o (wp_b f0)
  obtain ⟨_, e1, f2⟩ := wp_o (wp_b f1)
  obtain ⟨v, hv, r0⟩ := w_slot S e0
  obtain ⟨a, rfl, hd⟩ := isD_rep r0 (gd_some e1).1
  refine ⟨.ref a, hv, a, rfl, hd, hb S (wp_b f2) kx fun y u ρ2 F2 H2 s2 ry f3 => hc s2.st (wp_b f3) (kx.to s2) fun z x ρ3 F3 H3 s3 rz f4 => ?_⟩
  obtain ⟨d, e2, f5⟩ := wp_o (wp_b f4)
  obtain ⟨o, e3, f6⟩ := wp_o (wp_b f5)
  obtain ⟨v', hv', rd⟩ := w_slot s3.st e2
  rw [hv] at hv'
  have e4 := Option.some.inj (Option.some.inj hv')
  subst e4
  obtain ⟨a', w, e5, g, q⟩ := dget_rep s3.x.fh rd ((rep_up s3.x.ff ry).w s3.x.fh) e3
  cases e5
  refine ⟨w, g, ?_⟩
  cases o with
  | none => cases q; exact k _ _ ρ3 F3 H3 (s2.trans s3) rz f6
  | some p => obtain ⟨x', rfl, r⟩ := q; exact k _ _ ρ3 F3 H3 (s2.trans s3) r f6
/-- a dict with one more pair -/
def dputP : PO → P → P → Option PO
  | .dK ks fs, k, p => (keyP k).bind fun k => gd (ks.length < 100000) (.dK (putKs ks k) (putVs ks fs k p))
  | .dT ks fs, k, p => (keyT k).bind fun k => gd (ks.length < 100000) (.dT (putKs ks k) (putVs ks fs k p))
  | _, _, _ => none
def objO : Sl → Option PO
  | .loc o => some o
  | .io o => some o
  | _ => none
omit [Tbs] in
theorem objO_obj {s : Sl} {o : PO} (h : objO s = some o) : s.obj = some o := by cases s <;> first | exact h | cases h
/-- d[k] = v, d one's own -/
def sPutD (i : Nat) (b a : PEx) : PSx := fun ρ => (a ρ).st fun p ρ => (pW i ρ).st fun _ ρ => (b ρ).st fun k ρ => (ofO (objO (sl ρ i)) ρ).st fun o ρ => (ofO (dputP o k p) ρ).st fun q ρ => .nx (slset ρ i ((sl ρ i).chg q))
theorem s_putD {i : Nat} (hb : SndE C tb b) (ha : SndE C ta a) : SndS C (sDPut (tVar i) tb ta) (sPutD i b a) := .mk fun {ρ σ F H D E} S f0 kx k => ha S (ws_s f0) kx.e fun p v ρ1 F1 H1 s1 rp f1 => by
  obtain ⟨d0, e0, f2⟩ := wp_o (ws_s f1)
  obtain ⟨x, hv, _⟩ := w_slot s1.st e0
  refine ⟨x, hv, hb s1.st (ws_s f2) kx.e fun y u ρ2 F2 H2 s2 ry f3 => ?_⟩
  obtain ⟨o, e1, f4⟩ := wp_o (ws_s f3)
  obtain ⟨q, e2, f5⟩ := wp_o (ws_s f4)
  obtain ⟨d, ho, g1, g2, g3, g4, _⟩ := s2.st.obj (objO_obj e1)
  rw [hv] at g1
  have e3 := Option.some.inj (Option.some.inj g1)
  subst e3
  have rp2 := rep_up s2.x.ff rp
  cases o <;> first | (cases e2; done) | skip
  · obtain ⟨key, k1, k2⟩ := Option.bind_eq_some_iff.mp e2
    obtain ⟨hl, rfl⟩ := gd_some k2
    obtain ⟨vs, rfl, h2, r⟩ := g4
    have hu : u = kV key := keyP_rep k1 ry
    subst hu
    rename_i ks fs
    refine ⟨d, _, rfl, .k g3 (smallL (by rw [List.length_zip, ← h2]; omega)), k.nx _ σ F2 _ (s1.trans s2).x.ff (s2.st.chg (q := .dK (putKs ks key) (putVs ks fs key p)) (objO_obj e1) hv ⟨putVs ks vs key v, ?_, put_len h2 key v, putVs_reps rp2 r⟩).st f5⟩
    rw [putK_zip h2]
  · obtain ⟨key, k1, k2⟩ := Option.bind_eq_some_iff.mp e2
    obtain ⟨hl, rfl⟩ := gd_some k2
    obtain ⟨vs, rfl, h2, r⟩ := g4
    obtain ⟨b', rfl, hb'⟩ := keyT_rep k1 (ry.w s2.x.fh)
    rename_i ks fs
    refine ⟨d, _, rfl, .t g3 (s2.x.fh _ _ hb') (smallL (by rw [List.length_zip, ← h2]; omega)), k.nx _ σ F2 _ (s1.trans s2).x.ff (s2.st.chg (q := .dT (putKs ks key) (putVs ks fs key p)) (objO_obj e1) hv ⟨putVs ks vs key v, ?_, put_len h2 key v, putVs_reps rp2 r⟩).st f5⟩
    rw [putK_zip h2]
def nNewT : PNx := fun ρ => .ok (.dT [] []) ρ
def nNewK : PNx := fun ρ => .ok (.dK [] []) ρ
theorem n_newT : SndN C tDNewT nNewT := .mk fun {ρ σ F H Q Qp E} S h kx k p hp => k (.dT [] []) p _ ρ F _ (Stp.own S hp) hp (Same.free S.x.fh hp) upd_same ⟨[], rfl, rfl, rfl⟩ h
theorem n_newK : SndN C tDNewK nNewK := .mk fun {ρ σ F H Q Qp E} S h kx k p hp => k (.dK [] []) p _ ρ F _ (Stp.own S hp) hp (Same.free S.x.fh hp) upd_same ⟨[], rfl, rfl, rfl⟩ h
end
omit [Tbs] in
/-- a put dict, read -/
theorem getZ_rep {κ : Type} [DecidableEq κ] {α : Type} {k j : κ} {y : α} : ∀ {ks : List κ} {xs : List α}, ks.length = xs.length → k ∈ ks → getZ ks (repZ k y ks xs) j = if j = k then some y else getZ ks xs j
  | [], _, _, h => absurd h List.not_mem_nil
  | _ :: _, [], h, _ => by cases h
  | i :: ks, x :: xs, h, hm => by
    show getZ (i :: ks) ((if i = k then y else x) :: repZ k y ks xs) j = _
    unfold getZ
    by_cases e : i = j
    · subst e
      rw [decide_eq_true rfl]
      by_cases e2 : i = k
      · simp [e2]
      · simp [e2]
    · rw [decide_eq_false e]
      show getZ ks (repZ k y ks xs) j = if j = k then some y else getZ ks xs j
      by_cases hk : k ∈ ks
      · exact getZ_rep (Nat.succ.inj h) hk
      · have ik : i = k := by
          rcases List.mem_cons.mp hm with z | z
          · exact z.symm
          · exact absurd z hk
        have jk : ¬ j = k := fun z => e (ik.trans z.symm)
        rw [if_neg jk]
        exact getZ_not hk
  where getZ_not {k j : κ} {y : α} : ∀ {ks : List κ} {xs : List α}, k ∉ ks → getZ ks (repZ k y ks xs) j = getZ ks xs j
  | [], _, _ => rfl
  | _ :: _, [], _ => rfl
  | i :: ks, x :: xs, h => by
    show getZ (i :: ks) ((if i = k then y else x) :: repZ k y ks xs) j = _
    have ne : ¬ i = k := fun z => h (by rw [z]; exact List.mem_cons_self ..)
    rw [if_neg ne]
    unfold getZ
    rw [getZ_not fun z => h (List.mem_cons_of_mem _ z)]
omit [Tbs] in
theorem getZ_none {κ : Type} [DecidableEq κ] {α : Type} {k : κ} : ∀ {ks : List κ} {xs : List α}, k ∉ ks → getZ ks xs k = none
  | [], _, _ => rfl
  | _ :: _, [], _ => rfl
  | i :: ks, x :: xs, h => by
    unfold getZ
    rw [decide_eq_false fun z : i = k => h (by rw [z]; exact List.mem_cons_self ..)]
    exact getZ_none fun z => h (List.mem_cons_of_mem _ z)
omit [Tbs] in
theorem getZ_app {κ : Type} [DecidableEq κ] {α : Type} {k j : κ} {y : α} : ∀ {ks : List κ} {xs : List α}, ks.length = xs.length → k ∉ ks → getZ (ks ++ [k]) (xs ++ [y]) j = if j = k then some y else getZ ks xs j
  | [], [], _, _ => by
    show getZ [k] [y] j = _
    unfold getZ
    by_cases e : k = j
    · rw [decide_eq_true e, if_pos e.symm]
    · rw [decide_eq_false e, if_neg fun z => e z.symm]
      rfl
  | [], _ :: _, h, _ => by cases h
  | _ :: _, [], h, _ => by cases h
  | i :: ks, x :: xs, h, hn => by
    show getZ (i :: (ks ++ [k])) (x :: (xs ++ [y])) j = _
    unfold getZ
    by_cases e : i = j
    · rw [decide_eq_true e]
      have jk : ¬ j = k := fun z => hn (by rw [← z, ← e]; exact List.mem_cons_self ..)
      rw [if_neg jk]
    · rw [decide_eq_false e]
      exact getZ_app (Nat.succ.inj h) fun z => hn (List.mem_cons_of_mem _ z)
omit [Tbs] in
theorem getZ_put {κ : Type} [DecidableEq κ] {α : Type} {k j : κ} {y : α} {ks : List κ} {xs : List α} (h : ks.length = xs.length) : getZ (putKs ks k) (putVs ks xs k y) j = if j = k then some y else getZ ks xs j := by
  unfold putKs putVs
  by_cases e : k ∈ ks
  · rw [if_pos e, if_pos e]; exact getZ_rep h e
  · rw [if_neg e, if_neg e]; exact getZ_app h e
omit [Tbs] in
theorem putKs_le {κ : Type} [DecidableEq κ] {k : κ} {ks : List κ} : (putKs ks k).length ≤ ks.length + 1 := by
  unfold putKs
  split
  · omega
  · rw [List.length_append]; exact Nat.le_refl _

end FX

/-! rules with the known part given by hand; defaults -/
namespace FX
open PySem PySem.Spec PyProof.Rows L2 RZ PX
variable [Tbs]
/-- item i of a list, as a list -/
def pick {α : Type} (i : Nat) (l : List α) : List α := (l.drop i).take 1
omit [Tbs] in
theorem pick_vals {vs : List V} {us : List Value} (i : Nat) (r : Vals vs us) : Vals (pick i vs) (pick i us) := (r.drop i).take 1
theorem pick_reps {K : PySem.W.Frag} {F : Hp} {xs : List P} {vs : List V} (i : Nat) (r : Reps K xs vs F) : Reps K (pick i xs) (pick i vs) F := reps_take 1 (reps_drop i r)
section
variable {X : Cx}
omit [Tbs] in
theorem k_setf (K : PySem.W.Frag) {o value : Expr} {ta tv : TE} {f : Str} {pos pos' : Pos} (ha : PE X o ta) (hv : PE X value tv) (hK : X.K = K := by rfl) (hs : swapsWith value (some (.Attribute o f pos')) pos.line X.env = pure false := by rfl) : PS X (.Assign [.Attribute o f pos'] value pos) (sFld K ta tv f) := by
  subst hK; exact ps_fld ha hv hs
end
omit [Tbs] in
theorem k_append (K : PySem.W.Frag) {X : Cx} {o e : Expr} {to : TE} {t : TA} {apos cpos : Pos} (ho : PE X o to) (ha : PA X [e] t) (hK : X.K = K := by rfl) (hbase : attributeBase o "append" X.env (eval o X.env) = eval o X.env := by rfl)
    (hfew : ((backTo cpos (starEach [e] X.env)).all (fun x => !x.1) && (backToKw cpos (keywordEach [] X.env)).all (fun x => x.1.isSome) && decide ([e].length + ([] : List Keyword).length + (if ([] : List Keyword).isEmpty then 0 else 1) < 30)) = true := by rfl)
    (hline : (apos.endLine == cpos.line) = true := by rfl) (hs : starEach [e] X.env = (false, eval e X.env) :: starEach [] X.env := by rfl) (hplain : (backTo cpos (starEach [] X.env)).any (·.1) = false := by rfl) :
    PE X (.Call (.Attribute o "append" apos) [e] [] cpos) (tBM K "list" rAppend to t) := by
  subst hK
  exact pe_bm PySem.F.plainAttrs_list PySem.F.slot_list_append PySem.F.type_list_append mt_append ho ha hbase hfew hline hs hplain
/-- a keyword-only default, if it is an object -/
def kwAd (p : Str × Option Str) (x : Str) (K : PySem.W.Frag) : Addr := match K.lookup (He.fAd K p) with
  | some ⟨_, _, .func fd, _⟩ => (match fd.kwdefaults with
    | .ref D => (match PySem.W.nsIn K D x with
      | some (some (.ref a)) => a
      | _ => 0)
    | _ => 0)
  | _ => 0
/-- the empty tuple stands at a -/
def tup0B (K : PySem.W.Frag) (a : Addr) : Bool := match K.lookup a with
  | some ⟨.type "tuple", _, .seq ⟨[]⟩ _, _⟩ => true
  | _ => false
omit [Tbs] in
theorem tup0_ok {K : PySem.W.Frag} {a : Addr} (h : tup0B K a = true) (F : Hp) : SqT K F a [] := by
  unfold tup0B at h
  split at h
  · rename_i d n sl e
    exact .inr ⟨_, #[], n, e, rfl, rfl, by decide, .nil⟩
  · cases h
omit [Tbs] in
theorem k_popAt (K : PySem.W.Frag) {X : Cx} {o e : Expr} {to : TE} {t : TA} {apos cpos : Pos} (ho : PE X o to) (ha : PA X [e] t) (hK : X.K = K := by rfl) (hbase : attributeBase o "pop" X.env (eval o X.env) = eval o X.env := by rfl)
    (hfew : ((backTo cpos (starEach [e] X.env)).all (fun x => !x.1) && (backToKw cpos (keywordEach [] X.env)).all (fun x => x.1.isSome) && decide ([e].length + ([] : List Keyword).length + (if ([] : List Keyword).isEmpty then 0 else 1) < 30)) = true := by rfl)
    (hline : (apos.endLine == cpos.line) = true := by rfl) (hs : starEach [e] X.env = (false, eval e X.env) :: starEach [] X.env := by rfl) (hplain : (backTo cpos (starEach [] X.env)).any (·.1) = false := by rfl) :
    PE X (.Call (.Attribute o "pop" apos) [e] [] cpos) (tBM K "list" rPopAt to t) := by
  subst hK
  exact pe_bm PySem.F.plainAttrs_list PySem.F.slot_list_pop PySem.F.type_list_pop mt_popAt ho ha hbase hfew hline hs hplain
omit [Tbs] in
theorem k_pop (K : PySem.W.Frag) {X : Cx} {o : Expr} {to : TE} {apos cpos : Pos} (ho : PE X o to) (hK : X.K = K := by rfl) (hbase : attributeBase o "pop" X.env (eval o X.env) = eval o X.env := by rfl) (hline : (apos.endLine == cpos.line) = true := by rfl) :
    PE X (.Call (.Attribute o "pop" apos) [] [] cpos) (tBM0 K "list" rPop to) := by
  subst hK
  exact pe_bm0 PySem.F.plainAttrs_list PySem.F.slot_list_pop PySem.F.type_list_pop mt_pop ho hbase hline
section
variable {C : Cc} {ta tb tc : TE} {b c : PEx}
/-- x, y, z = [..], e, f : x an object of one's own -/
def sParOwn3 (i j l : Nat) (n : PNx) (b c : PEx) : PSx := fun ρ => (n ρ).st fun o ρ => (b ρ).st fun p ρ => (c ρ).st fun q ρ => .nx (slset (slset (slset ρ i (.loc o)) j (.val p)) l (.val q))
theorem s_parOwn3 {i j l : Nat} {n : PNx} (hn : SndN C ta n) (hb : SndE C tb b) (hc : SndE C tc c) : SndS C (tPar3 i j l (tCons ta (tCons tb (tCons tc tNil)))) (sParOwn3 i j l n b c) := .mk fun {ρ σ F H D E} S h kx k => hn S (ws_s h) kx.e fun o d ho ρ1 F1 H1 s n0 nF e r h => by
  refine hb s.st (ws_s h) kx.e fun p v ρ2 F2 H2 s2 rp h => ?_
  have no1 : ¬ OwnAt ρ1 σ d := fun z => S.noOwn n0 (s.ow d z)
  have no2 : ¬ OwnAt ρ2 σ d := fun z => no1 (s2.ow d z)
  have e2 : H2 d = some ho := s2.x.hh d ho no1 r.nt.1 e
  have nF2 : F2 d = none := s2.x.nw d nF (by rw [e]; rfl)
  refine hc s2.st (ws_s h) kx.e fun q w ρ3 F3 H3 s3 rq h => ⟨.ref d, v, w, rfl, ?_⟩
  have no3 : ¬ OwnAt ρ3 σ d := fun z => no2 (s3.ow d z)
  have e3 : H3 d = some ho := s3.x.hh d ho no2 r.nt.1 e2
  have nF3 : F3 d = none := s3.x.nw d nF2 (by rw [e2]; rfl)
  exact k.nx _ _ F3 H3 ((s.x.ff.trans s2.x.ff).trans s3.x.ff) (((s3.st.putLoc (S.x.back n0) nF3 e3 (repO_up (s2.x.ff.trans s3.x.ff) r) no3).set (rep_up s3.x.ff rp)).set rq) h
end
end FX

/-! what the pure readings compute: rules for simp; loops; the law -/
namespace FX
open PySem PySem.Spec PyProof.Rows L2 RZ PX
variable [Tbs]
section
variable {P' : Program} {w : World} {K : PySem.W.Frag} {mg : Str → Option Value} {base : Heap} {x : Str} {st : Stmt} {k n : Nat} {N ps : List Str}
/-- a promise that asks the impossible -/
theorem Stood.okBad (S : Stood K mg x st)
    (hb : ∀ (kV doc pm : Value) (an : Option Addr) (cdv ct : Value) (us : List Value), us.length = ps.length → bindArgs (PySem.W.fnOf x x (defArgs st) (defBody st) (defScope st) .none kV doc pm an cdv ct) ⟨us, []⟩ = pure (ps.zip us)) :
    HasF P' w K mg base x st k ps (liftF K n fun _ => .bad) := by
  obtain ⟨f, fd, F, g⟩ := S.ex
  exact ⟨f, fd, F, g, ⟨fun vs H Q E h => (h.choose_spec.choose_spec.choose_spec.choose_spec.2.2.2.2.1).elim, fun A outer s H args us vs Q E hr e0 hb r h => (h.choose_spec.choose_spec.choose_spec.choose_spec.2.2.2.2.1).elim⟩, F.bindsN hb⟩
end
section
variable {ρ : Ro} {Q : QP} {E : EP} {a b c : PEx} {x y : PAx} {t u : PTx} {f g : F2} {i j k n : Nat} {p q : P} {D : PD} {s s1 s2 : PSx} {o po : PO} {xs ys : List P} {cs ds : List Nat} {z w : Int} {ga : PGa} {js : List (Option Nat)}
/-! ### expressions -/
omit [Tbs] in
theorem wpV : wp (pV i ρ) Q E = wo (vSl (sl ρ i)) fun x => Q x ρ := wp_ofO
omit [Tbs] in
theorem wpW : wp (pW i ρ) Q E = wo (wSl (sl ρ i)) fun x => Q x ρ := wp_ofO
omit [Tbs] in
theorem wpC : wp (pC p ρ) Q E = Q p ρ := rfl
omit [Tbs] in
theorem wpOp : wp (pOp f a b ρ) Q E = wp (a ρ) (fun x ρ => wp (b ρ) (fun y ρ => wo (f x y) fun z => Q z ρ) E) E := by simp only [pOp, wp_bind, wp_ofO]
omit [Tbs] in
theorem wpOpL : wp (pOpL f i b ρ) Q E = wo (wSl (sl ρ i)) fun _ => wp (b ρ) (fun y ρ => wo (wSl (sl ρ i)) fun x => wo (f x y) fun z => Q z ρ) E := by simp only [pOpL, wp_bind, wp_ofO, pW]
omit [Tbs] in
theorem wpNil {Q : List P → Ro → Prop} : wp (aNil ρ) Q E = Q [] ρ := rfl
omit [Tbs] in
theorem wpCons {Q : List P → Ro → Prop} : wp (aCons a x ρ) Q E = wp (a ρ) (fun p ρ => wp (x ρ) (fun ps ρ => Q (p :: ps) ρ) E) E := by simp only [aCons, wp_bind, wp_ok]
omit [Tbs] in
theorem wpF {f : FLp} : wp (pF f x ρ) Q E = wp (x ρ) (fun xs ρ => wo (f xs) fun z => Q z ρ) E := by simp only [pF, wp_bind, wp_ofO]
omit [Tbs] in
theorem wpF1 {f : FLp} : wp (pF1 f a ρ) Q E = wp (a ρ) (fun x ρ => wo (f [x]) fun z => Q z ρ) E := by simp only [pF1, wp_bind, wp_ofO]
omit [Tbs] in
theorem wpNeg : wp (pNeg a ρ) Q E = wp (a ρ) (fun x ρ => wo (toI x) fun i => Q (.int (-i)) ρ) E := by simp only [pNeg, wp_bind, wp_ofO, wp_ok]
omit [Tbs] in
theorem wp_pIte {α : Type} {c : Bool} {m r : R α} {Q : α → Ro → Prop} : wp (pIte c m r) Q E = pIte c (wp m Q E) (wp r Q E) := by cases c <;> rfl
omit [Tbs] in
theorem wpAnd : wp (pAnd a b ρ) Q E = wp (a ρ) (fun x ρ => wo (toB x) fun c => pIte c (wp (b ρ) Q E) (Q (.bl false) ρ)) E := by simp only [pAnd, wp_bind, wp_ofO, wp_ok, wp_pIte]
omit [Tbs] in
theorem wpOr : wp (pOr a b ρ) Q E = wp (a ρ) (fun x ρ => wo (toB x) fun c => pIte c (Q (.bl true) ρ) (wp (b ρ) Q E)) E := by simp only [pOr, wp_bind, wp_ofO, wp_ok, wp_pIte]
omit [Tbs] in
theorem wpNot : wp (pNot a ρ) Q E = wp (a ρ) (fun x ρ => wo (toB x) fun c => Q (.bl (!c)) ρ) E := by simp only [pNot, wp_bind, wp_ofO, wp_ok]
omit [Tbs] in
theorem wpAndT : wp (pAndT a b ρ) Q E = wp (a ρ) (fun x ρ => wo (tru x) fun c => pIte c (wp (b ρ) Q E) (Q x ρ)) E := by simp only [pAndT, wp_bind, wp_ofO, wp_ok, wp_pIte]
omit [Tbs] in
theorem wpOrT : wp (pOrT a b ρ) Q E = wp (a ρ) (fun x ρ => wo (tru x) fun c => pIte c (Q x ρ) (wp (b ρ) Q E)) E := by simp only [pOrT, wp_bind, wp_ofO, wp_ok, wp_pIte]
omit [Tbs] in
theorem wpNotT : wp (pNotT a ρ) Q E = wp (a ρ) (fun x ρ => wo (tru x) fun c => Q (.bl (!c)) ρ) E := by simp only [pNotT, wp_bind, wp_ofO, wp_ok]
omit [Tbs] in
theorem wpIf : wp (pIf t a b ρ) Q E = wp (t ρ) (fun c ρ => pIte c (wp (a ρ) Q E) (wp (b ρ) Q E)) E := by simp only [pIf, wp_bind, wp_pIte]
omit [Tbs] in
theorem wpVal {Q : Bool → Ro → Prop} : wp (tVal a ρ) Q E = wp (a ρ) (fun x ρ => wo (toB x) fun c => Q c ρ) E := by simp only [tVal, wp_bind, wp_ofO]
omit [Tbs] in
theorem wpTr {Q : Bool → Ro → Prop} : wp (tTr a ρ) Q E = wp (a ρ) (fun x ρ => wo (tru x) fun c => Q c ρ) E := by simp only [tTr, wp_bind, wp_ofO]
omit [Tbs] in
theorem wpNt {Q : Bool → Ro → Prop} : wp (tNt t ρ) Q E = wp (t ρ) (fun c ρ => Q (!c) ρ) E := by simp only [tNt, wp_bind, wp_ok]
omit [Tbs] in
theorem wpAn {Q : Bool → Ro → Prop} : wp (tAn t u ρ) Q E = wp (t ρ) (fun c ρ => pIte c (wp (u ρ) Q E) (Q false ρ)) E := by simp only [tAn, wp_bind, wp_ok, wp_pIte]
omit [Tbs] in
theorem wpO {Q : Bool → Ro → Prop} : wp (tO t u ρ) Q E = wp (t ρ) (fun c ρ => pIte c (Q true ρ) (wp (u ρ) Q E)) E := by simp only [tO, wp_bind, wp_ok, wp_pIte]
omit [Tbs] in
theorem wpYs {Q : Bool → Ro → Prop} : wp (tYs ρ) Q E = Q true ρ := rfl
omit [Tbs] in
theorem wpTup : wp (pTup x ρ) Q E = wp (x ρ) (fun xs ρ => xs.length ≤ 100000 ∧ Q (.tup xs) ρ) E := by simp only [pTup, wp_bind, wp_ofO, wo_gd]
omit [Tbs] in
theorem wpONo {Q : Option Int → Ro → Prop} : wp (oNo ρ) Q E = Q none ρ := rfl
omit [Tbs] in
theorem wpOSome {Q : Option Int → Ro → Prop} : wp (oSome a ρ) Q E = wp (a ρ) (fun x ρ => wo (toI x) fun i => Q (some i) ρ) E := by simp only [oSome, wp_bind, wp_ofO, wp_ok]
omit [Tbs] in
theorem wpSlice {f : F3} {l r : POx} : wp (pSlice f a l r ρ) Q E = wp (a ρ) (fun x ρ => wp (l ρ) (fun i ρ => wp (r ρ) (fun j ρ => wo (f x i j) fun z => Q z ρ) E) E) E := by simp only [pSlice, wp_bind, wp_ofO]
omit [Tbs] in
theorem wpSliceL {f : F3} {l r : POx} : wp (pSliceL f i l r ρ) Q E = wo (wSl (sl ρ i)) fun _ => wp (l ρ) (fun a ρ => wp (r ρ) (fun b ρ => wo (wSl (sl ρ i)) fun x => wo (f x a b) fun z => Q z ρ) E) E := by simp only [pSliceL, wp_bind, wp_ofO, pW]
omit [Tbs] in
theorem wpChain : wp (pChain f g a b c ρ) Q E = wp (a ρ) (fun x ρ => wp (b ρ) (fun y ρ => wo (f x y) fun z => wo (toB z) fun k => pIte k (wp (c ρ) (fun w ρ => wo (g y w) fun v => Q v ρ) E) (Q (.bl false) ρ)) E) E := by simp only [pChain, wp_bind, wp_ofO, wp_ok, wp_pIte]
omit [Tbs] in
theorem wpFz {n : PNx} : wp (pFz n ρ) Q E = wp (n ρ) (fun o ρ => Q o.val ρ) E := by simp only [pFz, wp_bind, wp_ok]
omit [Tbs] in
theorem wpIsi2 {S T : String} : wp (pIsi2 S T a ρ) Q E = wp (a ρ) (fun x ρ => wo (fIsi2 S T x) fun z => Q z ρ) E := by simp only [pIsi2, wp_bind, wp_ofO]
omit [Tbs] in
theorem wpLst {Q : PO → Ro → Prop} : wp (nLst x ρ) Q E = wp (x ρ) (fun xs ρ => xs.length ≤ 100000 ∧ Q (.lst xs) ρ) E := by simp only [nLst, wp_bind, wp_ofO, wo_gd]
def listOfV : P → Option PO
  | .lst xs => some (.lst xs)
  | .tup xs => some (.lst xs)
  | .scr xs => some (.lst (xs.map P.int))
  | _ => none
omit [Tbs] in
theorem wpListOf {Q : PO → Ro → Prop} : wp (nListOf a ρ) Q E = wp (a ρ) (fun x ρ => wo (listOfV x) fun o => Q o ρ) E := by
  simp only [nListOf, wp_bind, wp_ofO]
  rfl
def sortV : P → Option PO
  | .lst xs => (strsOf xs).bind fun zs => gd (zs.length < 64) (.lst ((sortB leT zs).map P.str))
  | _ => none
omit [Tbs] in
theorem wpSort {Q : PO → Ro → Prop} : wp (nSort a ρ) Q E = wp (a ρ) (fun x ρ => wo (sortV x) fun o => Q o ρ) E := by
  simp only [nSort, wp_bind, wp_ofO]
  rfl
def sortIV : P → Option PO
  | .lst xs => (intsOf xs).bind fun zs => gd (zs.length < 64) (.lst ((sortB leI zs).map P.int))
  | _ => none
omit [Tbs] in
theorem wpSortI {Q : PO → Ro → Prop} : wp (nSortI a ρ) Q E = wp (a ρ) (fun x ρ => wo (sortIV x) fun o => Q o ρ) E := by
  simp only [nSortI, wp_bind, wp_ofO]
  rfl
omit [Tbs] in
theorem wpListStr {Q : PO → Ro → Prop} : wp (nListStr a ρ) Q E = wp (a ρ) (fun x ρ => wo (listStrV x) fun o => Q o ρ) E := by simp only [nListStr, wp_bind, wp_ofO]
omit [Tbs] in
theorem wpLenSet : wp (pLenSet a ρ) Q E = wp (a ρ) (fun x ρ => wo (lenSetV x) fun z => Q z ρ) E := by simp only [pLenSet, wp_bind, wp_ofO]
omit [Tbs] in
theorem wpSortSet : wp (pSortSet a ρ) Q E = wp (a ρ) (fun x ρ => wo (sortSetV x) fun z => Q z ρ) E := by simp only [pSortSet, wp_bind, wp_ofO]
omit [Tbs] in
theorem wpFld {c' f' : Str} : wp (pFld c' f' a ρ) Q E = wp (a ρ) (fun x ρ => wo (fldP c' f' x) fun z => Q z ρ) E := by simp only [pFld, wp_bind, wp_ofO]
omit [Tbs] in
theorem wpLc {w : PIx} {vs : List Nat} {g : PGx} {Q : PO → Ro → Prop} : wp (pLc w vs g t a ρ) Q E = wp (w ρ) (fun xs ρ => (xs.length < 100000 ∧ (vs.all fun v => (sl ρ v).obj.isNone) = true) ∧ wp (lcX vs g t a xs (wipeP ρ vs)) (fun ys r => Q (.lst ys) (unw ρ r vs)) E) E := by
  simp only [pLc, wp_bind, wp_ofO, wp_ok, wo_gd]
omit [Tbs] in
theorem wpIVal {Q : List P → Ro → Prop} : wp (iVal a ρ) Q E = wp (a ρ) (fun x ρ => wo (itemsP x) fun xs => Q xs ρ) E := by simp only [iVal, wp_bind, wp_ofO]
omit [Tbs] in
theorem wpIEnu {Q : List P → Ro → Prop} : wp (iEnu a ρ) Q E = wp (a ρ) (fun x ρ => wo (enuP x) fun xs => Q xs ρ) E := by simp only [iEnu, wp_bind, wp_ofO]
omit [Tbs] in
theorem wpIZi {Q : List P → Ro → Prop} : wp (iZi a b ρ) Q E = wp (a ρ) (fun x ρ => wp (b ρ) (fun y ρ => wo (zipV x y) fun xs => Q xs ρ) E) E := by simp only [iZi, wp_bind, wp_ofO]
omit [Tbs] in
theorem wpIRg1 {Q : List P → Ro → Prop} : wp (iRg1 a ρ) Q E = wp (a ρ) (fun x ρ => wo (toI x) fun n => (-100000 ≤ n ∧ n < 100000) ∧ Q (rangeN n.toNat) ρ) E := by simp only [iRg1, wp_bind, wp_ofO, wo_gd]
omit [Tbs] in
theorem wpIRg2 {Q : List P → Ro → Prop} : wp (iRg2 a b ρ) Q E = wp (a ρ) (fun x ρ => wp (b ρ) (fun y ρ => wo (toI x) fun i => wo (toI y) fun j => (-100000 ≤ i ∧ i ≤ 100000 ∧ -100000 ≤ j ∧ j ≤ 100000) ∧ Q (rangeP i (j - i).toNat) ρ) E) E := by simp only [iRg2, wp_bind, wp_ofO, wo_gd]
omit [Tbs] in
theorem wpPopAt : wp (pPopAt i a ρ) Q E = wo (lstO (sl ρ i)) fun _ => wp (a ρ) (fun y ρ => wo (toI y) fun n => wo (lstO (sl ρ i)) fun xs => (0 ≤ n ∧ n < 100000) ∧ wo xs[n.toNat]? fun z => Q z (slset ρ i ((sl ρ i).chg (.lst (xs.eraseIdx n.toNat))))) E := by simp only [pPopAt, wp_bind, wp_ofO, wp_ok, wo_gd]
omit [Tbs] in
theorem wpPop : wp (pPop i ρ) Q E = wo (lstO (sl ρ i)) fun xs => wo xs[xs.length - 1]? fun z => Q z (slset ρ i ((sl ρ i).chg (.lst xs.dropLast))) := by simp only [pPop, wp_bind, wp_ofO, wp_ok]
omit [Tbs] in
theorem wpGet2L : wp (pGet2L i a b ρ) Q E = wo (wSl (sl ρ i)) fun d => isDict d = true ∧ wp (a ρ) (fun k ρ => wp (b ρ) (fun z ρ => wo (wSl (sl ρ i)) fun d => wo (dgetP d k) fun o => Q (o.getD z) ρ) E) E := by simp only [pGet2L, pW, wp_bind, wp_ofO, wp_ok, wo_gd]
omit [Tbs] in
theorem wpNewT {Q : PO → Ro → Prop} : wp (nNewT ρ) Q E = Q (.dT [] []) ρ := rfl
omit [Tbs] in
theorem wpNewK {Q : PO → Ro → Prop} : wp (nNewK ρ) Q E = Q (.dK [] []) ρ := rfl
/-! ### calls -/
omit [Tbs] in
theorem wpGaN {Q : List Sl → Ro → Prop} : wp (gaN ρ) Q E = Q [] ρ := rfl
omit [Tbs] in
theorem wpGaC {Q : List Sl → Ro → Prop} : wp (gaC a ga ρ) Q E = wp (a ρ) (fun x ρ => wp (ga ρ) (fun xs ρ => Q (.val x :: xs) ρ) E) E := by simp only [gaC, wp_bind, wp_ok]
omit [Tbs] in
theorem wpGaR {Q : List Sl → Ro → Prop} : wp (gaR j ga ρ) Q E = wo (argS (sl ρ j)) fun _ => wp (ga ρ) (fun xs ρ => wo (argS (sl ρ j)) fun s => Q (s :: xs) ρ) E := by simp only [gaR, wp_bind, wp_ok, wp_ofO]
omit [Tbs] in
theorem wpCall {f : FL} : wp (pCall js n f ga ρ) Q E = wp (ga ρ) (fun xs ρ => xs.length = n ∧ wf (f xs) (fun p os => Q p (wb js xs os ρ)) (fun e os => E e (wb js xs os ρ))) E := by simp only [pCall, wp_bind, wp_ofO, wo_gd, wp_back]
omit [Tbs] in
theorem wpNCall {f : FN} {Q : PO → Ro → Prop} : wp (nCall js n f ga ρ) Q E = wp (ga ρ) (fun xs ρ => xs.length = n ∧ wn (f xs) (fun p os => Q p (wb js xs os ρ)) (fun e os => E e (wb js xs os ρ))) E := by simp only [nCall, wp_bind, wp_ofO, wo_gd, wp_backN]
omit [Tbs] in
theorem wpMeth {c' m' : Str} {f : FL} : wp (pMeth c' m' js n f a ga ρ) Q E = wp (a ρ) (fun p ρ => selfB c' m' p = true ∧ wp (ga ρ) (fun xs ρ => xs.length + 1 = n ∧ wf (f (.val p :: xs)) (fun r os => Q r (wb (none :: js) (.val p :: xs) os ρ)) (fun e os => E e (wb (none :: js) (.val p :: xs) os ρ))) E) E := by simp only [pMeth, wp_bind, wp_ofO, wo_gd, wp_back]
omit [Tbs] in
theorem wpMethK {c' m' : Str} {mm : Nat} {f : FL} {g : List P → List P} : wp (pMethK c' m' mm n f g a x ρ) Q E = wp (a ρ) (fun p ρ => selfB c' m' p = true ∧ wp (x ρ) (fun ys ρ => (ys.length = mm ∧ (g ys).length + 1 = n) ∧ wf (f (.val p :: (g ys).map Sl.val)) (fun r os => Q r ρ) (fun e os => E e ρ)) E) E := by simp only [pMethK, wp_bind, wp_ofO, wo_gd, wp_back, wb_nil]
omit [Tbs] in
/-- what a constructor hands on -/
def mkQ (Q : PO → List PO → Prop) : P → List PO → Prop := fun p os => match p, os with
  | .non, o :: os => Q o os
  | _, _ => False
def mkE (E : Xn → List PO → Prop) : Xn → List PO → Prop := fun e os => match os with
  | _ :: os => E e os
  | [] => False
omit [Tbs] in
theorem wp_makeR {js : List (Option Nat)} {xs : List Sl} {r : RF} {Q : PO → Ro → Prop} : wp (makeR js xs r ρ) Q E = wf r (mkQ fun o os => Q o (wb js xs os ρ)) (mkE fun e os => E e (wb js xs os ρ)) := by
  cases r with
  | bad => rfl
  | ok p os => cases p <;> cases os <;> rfl
  | ex e os => cases os <;> rfl
omit [Tbs] in
theorem wpMk {c' : Str} {f : FL} {Q : PO → Ro → Prop} : wp (nMk c' js n f ga ρ) Q E = wp (ga ρ) (fun xs ρ => xs.length + 1 = n ∧ wf (f (.io (.ins c' [] []) :: xs)) (mkQ fun o os => Q o (wb js xs os ρ)) (mkE fun e os => E e (wb js xs os ρ))) E := by simp only [nMk, wp_bind, wp_ofO, wo_gd, wp_makeR]
omit [Tbs] in
theorem wpMkK {c' : Str} {m : Nat} {f : FL} {g : List P → List P} {Q : PO → Ro → Prop} : wp (nMkK c' m n f g x ρ) Q E = wp (x ρ) (fun ys ρ => (ys.length = m ∧ (g ys).length + 1 = n) ∧ wf (f (.io (.ins c' [] []) :: (g ys).map Sl.val)) (mkQ fun o os => Q o ρ) (mkE fun e os => E e ρ)) E := by
  simp only [nMkK, wp_bind, wp_ofO, wo_gd, wp_makeR, wb_nil]
omit [Tbs] in
theorem wf_run {s : PSx} {xs : List Sl} {Q : P → List PO → Prop} {E : Xn → List PO → Prop} : wf (runD n s xs) Q E = ws (s (xs ++ uns n)) ⟨fun ρ => wo (ioOut xs ρ) (Q .non), fun p ρ => wo (ioOut xs ρ) (Q p), fun o ρ => wo (ioOut xs ρ) (Q o.val), fun _ => False, fun _ => False, fun e ρ => wo (ioOut xs ρ) (E e)⟩ := by
  have ho : ∀ (o : Option (List PO)) (k : List PO → RF), wf (outR o k) Q E = wo o fun os => wf (k os) Q E := fun o k => by cases o <;> rfl
  show wf (endF xs (s (xs ++ uns n))) Q E = _
  cases s (xs ++ uns n) <;> first | rfl | exact ho _ _
omit [Tbs] in
theorem wn_run {s : PSx} {xs : List Sl} {Q : PO → List PO → Prop} {E : Xn → List PO → Prop} : wn (runN n s xs) Q E = ws (s (xs ++ uns n)) ⟨fun ρ => False, fun p ρ => False, fun o ρ => wo (ioOut xs ρ) (Q o), fun _ => False, fun _ => False, fun e ρ => wo (ioOut xs ρ) (E e)⟩ := by
  have ho : ∀ (o : Option (List PO)) (k : List PO → RN), wn (outN o k) Q E = wo o fun os => wn (k os) Q E := fun o k => by cases o <;> rfl
  show wn (endN xs (s (xs ++ uns n))) Q E = _
  cases s (xs ++ uns n) <;> first | rfl | exact ho _ _
omit [Tbs] in
theorem wf_eq {r : RF} {v : P} {os : List PO} (h : wf r (fun p qs => p = v ∧ qs = os) (fun _ _ => False)) : r = .ok v os := by
  cases r with
  | bad => exact h.elim
  | ex e os => exact h.elim
  | ok p qs => rw [h.1, h.2]
omit [Tbs] in
theorem wf_ok {v : P} {os : List PO} {Q : P → List PO → Prop} {E : Xn → List PO → Prop} : wf (.ok v os) Q E = Q v os := rfl
omit [Tbs] in
theorem wn_ok {v : PO} {os : List PO} {Q : PO → List PO → Prop} {E : Xn → List PO → Prop} : wn (.ok v os) Q E = Q v os := rfl
omit [Tbs] in
theorem mkQ_o {Q : PO → List PO → Prop} {o : PO} {os : List PO} : mkQ Q .non (o :: os) = Q o os := rfl
/-! ### statements -/
omit [Tbs] in
theorem wsSeq {a b : PSx} : ws (sSeq a b ρ) D = ws (a ρ) ⟨fun ρ => ws (b ρ) D, D.rt, D.ro, D.bk, D.ct, D.ex⟩ := ws_seq
omit [Tbs] in
theorem wsRet : ws (sRet a ρ) D = wp (a ρ) D.rt D.ex := ws_st
omit [Tbs] in
theorem wsRetN : ws (sRetN ρ) D = D.rt .non ρ := rfl
omit [Tbs] in
theorem wsRetF {n : PNx} : ws (sRetF n ρ) D = wp (n ρ) D.ro D.ex := ws_st
omit [Tbs] in
theorem wsRetO : ws (sRetO i ρ) D = wo (locO (sl ρ i)) fun o => D.ro o (slset ρ i .un) := by simp only [sRetO, ws_st, wp_ofO]; rfl
omit [Tbs] in
theorem wsDrop : ws (sDrop a ρ) D = wp (a ρ) (fun _ ρ => D.nx ρ) D.ex := ws_st
omit [Tbs] in
theorem wsAsg {g : PHx} : ws (sAsg a g ρ) D = wp (a ρ) (fun p ρ => wp (g p ρ) (fun _ ρ => D.nx ρ) D.ex) D.ex := by simp only [sAsg, ws_st]; rfl
def two (R : P → P → Prop) : List P → Prop
  | [p, q] => R p q
  | _ => False
def three (R : P → P → P → Prop) : List P → Prop
  | [p, q, r] => R p q r
  | _ => False
omit [Tbs] in
theorem two_c {R : P → P → Prop} {p q : P} : two R [p, q] = R p q := rfl
omit [Tbs] in
theorem three_c {R : P → P → P → Prop} {p q r : P} : three R [p, q, r] = R p q r := rfl
omit [Tbs] in
theorem wsPar : ws (sPar i j x ρ) D = wp (x ρ) (fun xs ρ => two (fun p q => D.nx (slset (slset ρ i (.val p)) j (.val q))) xs) D.ex := by
  simp only [sPar, ws_st]
  congr 1
  funext xs ρ
  match xs with
  | [] => rfl
  | [_] => rfl
  | [_, _] => rfl
  | _ :: _ :: _ :: _ => rfl
omit [Tbs] in
theorem wsPar3 : ws (sPar3 i j k x ρ) D = wp (x ρ) (fun xs ρ => three (fun p q r => D.nx (slset (slset (slset ρ i (.val p)) j (.val q)) k (.val r))) xs) D.ex := by
  simp only [sPar3, ws_st]
  congr 1
  funext xs ρ
  match xs with
  | [] => rfl
  | [_] => rfl
  | [_, _] => rfl
  | [_, _, _] => rfl
  | _ :: _ :: _ :: _ :: _ => rfl
omit [Tbs] in
theorem wsParOwn {n : PNx} : ws (sParOwn i j n b ρ) D = wp (n ρ) (fun o ρ => wp (b ρ) (fun p ρ => D.nx (slset (slset ρ i (.loc o)) j (.val p))) D.ex) D.ex := by simp only [sParOwn, ws_st]; rfl
omit [Tbs] in
theorem wsParOwn3 {l : Nat} {n : PNx} : ws (sParOwn3 i j l n a b ρ) D = wp (n ρ) (fun o ρ => wp (a ρ) (fun p ρ => wp (b ρ) (fun q ρ => D.nx (slset (slset (slset ρ i (.loc o)) j (.val p)) l (.val q))) D.ex) D.ex) D.ex := by simp only [sParOwn3, ws_st]; rfl
omit [Tbs] in
theorem wsNext : ws (sNext ρ) D = D.nx ρ := rfl
omit [Tbs] in
theorem wsBreak : ws (sBreak ρ) D = D.bk ρ := rfl
omit [Tbs] in
theorem wsCont : ws (sCont ρ) D = D.ct ρ := rfl
omit [Tbs] in
theorem wsNever : ws (sNever ρ) D = False := rfl
omit [Tbs] in
theorem ws_pIte {c : Bool} {r r' : RS} : ws (pIte c r r') D = pIte c (ws r D) (ws r' D) := by cases c <;> rfl
omit [Tbs] in
theorem wsIf : ws (sIf t s1 s2 ρ) D = wp (t ρ) (fun c ρ => pIte c (ws (s1 ρ) D) (ws (s2 ρ) D)) D.ex := by simp only [sIf, ws_st, ws_pIte]
omit [Tbs] in
theorem wsOwn {n : PNx} : ws (sOwn i n ρ) D = wp (n ρ) (fun o ρ => D.nx (slset ρ i (.loc o))) D.ex := ws_st
omit [Tbs] in
theorem wsApp : ws (sApp i a ρ) D = wo (lstO (sl ρ i)) fun _ => wp (a ρ) (fun p ρ => wo (lstO (sl ρ i)) fun xs => xs.length < 100000 ∧ D.nx (slset ρ i ((sl ρ i).chg (.lst (xs ++ [p]))))) D.ex := by simp only [sApp, ws_st, wp_ofO, wo_gd]; rfl
omit [Tbs] in
theorem wsFrz : ws (sFrz i s ρ) D = wo (locO (sl ρ i)) fun o => ws (s (slset ρ i (.val o.val))) D := by simp only [sFrz, ws_st, wp_ofO]
omit [Tbs] in
theorem wsFor {w : PIx} {g : PHx} : ws (sFor w g s ρ) D = wp (w ρ) (fun xs ρ => ws (forX g s xs ρ) D) D.ex := ws_st
omit [Tbs] in
theorem wsAugI {f : Int → Int → Int} : ws (sAugI i f a ρ) D = wo (vSl (sl ρ i)) fun x => wp (a ρ) (fun y ρ => wo (toI x) fun k => wo (toI y) fun m => D.nx (slset ρ i (.val (.int (f k m))))) D.ex := by simp only [sAugI, pV, ws_st, wp_ofO]; rfl
omit [Tbs] in
theorem wsSetF {c' f' : Str} : ws (sSetF i c' f' a ρ) D = wp (a ρ) (fun p ρ => wo (insO c' (sl ρ i)) fun nf => nf.1.length < 900 ∧ D.nx (slset ρ i ((sl ρ i).chg (.ins c' (putN1 f' p nf.1 nf.2).1 (putN1 f' p nf.1 nf.2).2)))) D.ex := by simp only [sSetF, ws_st, wp_ofO, wo_gd]; rfl
omit [Tbs] in
theorem wsPutD : ws (sPutD i b a ρ) D = wp (a ρ) (fun p ρ => wo (wSl (sl ρ i)) fun _ => wp (b ρ) (fun k ρ => wo (objO (sl ρ i)) fun o => wo (dputP o k p) fun q => D.nx (slset ρ i ((sl ρ i).chg q))) D.ex) D.ex := by simp only [sPutD, pW, ws_st, wp_ofO]; rfl
/-! ### targets -/
omit [Tbs] in
theorem wpHN {Q : Unit → Ro → Prop} : wp (hN i p ρ) Q E = Q () (slset ρ i (.val p)) := rfl
omit [Tbs] in
theorem wpHsN {Q : Unit → Ro → Prop} : wp (hsN [] ρ) Q E = Q () ρ := rfl
omit [Tbs] in
theorem wpHsC {g : PHx} {r : PHsx} {Q : Unit → Ro → Prop} : wp (hsC g r (p :: xs) ρ) Q E = wp (g p ρ) (fun _ ρ => wp (r xs ρ) Q E) E := by show wp (R.bind _ _) Q E = _; rw [wp_bind]
omit [Tbs] in
theorem wpHT {g : PHsx} {Q : Unit → Ro → Prop} : wp (hT n g p ρ) Q E = wo (tupN n p) fun xs => wp (g xs ρ) Q E := by simp only [hT, wp_bind, wp_ofO]
omit [Tbs] in
theorem wpHSub {Q : Unit → Ro → Prop} : wp (hSub i b p ρ) Q E = wo (wSl (sl ρ i)) fun _ => wp (b ρ) (fun y ρ => wo (toI y) fun k => wo (lstO (sl ρ i)) fun xs => wo (ixN xs.length k) fun j => Q () (slset ρ i ((sl ρ i).chg (.lst (xs.set j p))))) E := by simp only [hSub, hIx, wp_bind, wp_ofO, wp_ok]
omit [Tbs] in
theorem e_gN : gN i p ρ = some (slset ρ i (.val p)) := rfl
omit [Tbs] in
theorem e_gsN : gsN [] ρ = some ρ := rfl
omit [Tbs] in
theorem e_gsC {g : PGx} {r : PGsx} : gsC g r (p :: xs) ρ = (g p ρ).bind fun ρ => r xs ρ := rfl
omit [Tbs] in
theorem e_gT {g : PGsx} : gT n g (.tup xs) ρ = (gd (xs.length = n) ()).bind fun _ => g xs ρ := rfl
omit [Tbs] in
theorem wo_bind {α β : Type} {m : Option α} {k : α → Option β} {R : β → Prop} : wo (m.bind k) R = wo m fun x => wo (k x) R := by cases m <;> rfl
omit [Tbs] in
theorem wo_map {α β : Type} {m : Option α} {k : α → β} {R : β → Prop} : wo (m.map k) R = wo m fun x => R (k x) := by cases m <;> rfl
/-! ### values -/
variable {R : P → Prop} {T : Bool → Prop} {U : Int → Prop} {V' : List P → Prop}
omit [Tbs] in
theorem e_vSl : vSl (.val p) = some p := rfl
omit [Tbs] in
theorem e_wSl_v : wSl (.val p) = some p := rfl
omit [Tbs] in
theorem e_wSl_l : wSl (.loc po) = some po.val := rfl
omit [Tbs] in
theorem e_wSl_i : wSl (.io po) = some po.val := rfl
omit [Tbs] in
theorem e_argS_v : argS (.val p) = some (.val p) := rfl
omit [Tbs] in
theorem e_argS_l : argS (.loc po) = some (.io po) := rfl
omit [Tbs] in
theorem e_argS_i : argS (.io po) = some (.io po) := rfl
omit [Tbs] in
theorem e_locO : locO (.loc po) = some po := rfl
omit [Tbs] in
theorem e_objO_l : objO (.loc po) = some po := rfl
omit [Tbs] in
theorem e_objO_i : objO (.io po) = some po := rfl
omit [Tbs] in
theorem e_lstO_l : lstO (.loc (.lst xs)) = some xs := rfl
omit [Tbs] in
theorem e_lstO_i : lstO (.io (.lst xs)) = some xs := rfl
omit [Tbs] in
theorem e_chg_l : (Sl.loc o).chg po = .loc po := rfl
omit [Tbs] in
theorem e_chg_i : (Sl.io o).chg po = .io po := rfl
omit [Tbs] in
theorem e_val_l : PO.val (.lst xs) = .lst xs := rfl
omit [Tbs] in
theorem e_val_i {c' : Str} {ns : List Str} : PO.val (.ins c' ns xs) = .ins c' ns xs := rfl
omit [Tbs] in
theorem e_val_dT {ks : List (List Key)} : PO.val (.dT ks xs) = .dT ks xs := rfl
omit [Tbs] in
theorem e_val_dK {ks : List Key} : PO.val (.dK ks xs) = .dK ks xs := rfl
omit [Tbs] in
theorem e_obj_v : (Sl.val p).obj = none := rfl
omit [Tbs] in
theorem e_obj_u : Sl.un.obj = none := rfl
omit [Tbs] in
theorem e_toI : toI (.int z) = some z := rfl
omit [Tbs] in
theorem e_toB {b : Bool} : toB (.bl b) = some b := rfl
omit [Tbs] in
theorem e_tupN : tupN n (.tup xs) = gd (xs.length = n) xs := rfl
omit [Tbs] in
theorem e_tru_n : tru .non = some false := rfl
omit [Tbs] in
theorem e_tru_b {b : Bool} : tru (.bl b) = some b := rfl
omit [Tbs] in
theorem e_tru_i : tru (.int z) = some (z != 0) := rfl
omit [Tbs] in
theorem e_tru_s : tru (.str cs) = gd (cs.length ≤ 100000) (!cs.isEmpty) := rfl
omit [Tbs] in
theorem e_tru_l : tru (.lst xs) = some (!xs.isEmpty) := rfl
omit [Tbs] in
theorem e_tru_t : tru (.tup xs) = some (!xs.isEmpty) := rfl
omit [Tbs] in
theorem e_add_ii : fAdd (.int z) (.int w) = some (.int (z + w)) := rfl
omit [Tbs] in
theorem e_add_ss : fAdd (.str cs) (.str ds) = gd (cs.length + ds.length ≤ 100000) (.str (cs ++ ds)) := rfl
omit [Tbs] in
theorem e_add_ll : fAdd (.lst xs) (.lst ys) = gd (xs.length + ys.length ≤ 100000) (.lst (xs ++ ys)) := rfl
omit [Tbs] in
theorem e_add_tt : fAdd (.tup xs) (.tup ys) = gd (0 < xs.length ∧ xs.length + ys.length ≤ 100000) (.tup (xs ++ ys)) := rfl
omit [Tbs] in
theorem e_sub : fSub (.int z) (.int w) = some (.int (z - w)) := rfl
omit [Tbs] in
theorem e_mul_ii : fMul (.int z) (.int w) = gd ((-(2 ^ 64) < z ∧ z < 2 ^ 64) ∨ (-(2 ^ 64) < w ∧ w < 2 ^ 64)) (.int (z * w)) := rfl
omit [Tbs] in
theorem e_mul_li : fMul (.lst xs) (.int w) = gd (0 ≤ w ∧ w < 100000 ∧ xs.length * w.toNat ≤ 100000) (.lst (List.replicate w.toNat xs).flatten) := rfl
omit [Tbs] in
theorem e_fdiv : fFdiv (.int z) (.int w) = gd (0 < w ∧ w < 1073741824) (.int (z / w)) := rfl
omit [Tbs] in
theorem e_mod : fMod (.int z) (.int w) = gd (0 < w) (.int (z % w)) := rfl
omit [Tbs] in
theorem e_pow : fPow (.int z) (.int w) = gd (0 ≤ w ∧ w ≤ 1000000 ∧ z.natAbs < 2 ^ 64) (.int (z ^ w.toNat)) := rfl
omit [Tbs] in
theorem e_lt_ii : fLt (.int z) (.int w) = some (.bl (decide (z < w))) := rfl
omit [Tbs] in
theorem e_lt_ss : fLt (.str cs) (.str ds) = some (.bl (decide (cs < ds))) := rfl
omit [Tbs] in
theorem e_le : fLe (.int z) (.int w) = some (.bl (decide (z ≤ w))) := rfl
omit [Tbs] in
theorem e_gt : fGt (.int z) (.int w) = some (.bl (decide (w < z))) := rfl
omit [Tbs] in
theorem e_ge : fGe (.int z) (.int w) = some (.bl (decide (w ≤ z))) := rfl
omit [Tbs] in
theorem e_is : fIs p .non = some (.bl (isNon p)) := rfl
omit [Tbs] in
theorem e_isNot : fIsNot p .non = some (.bl (!isNon p)) := rfl
omit [Tbs] in
theorem e_non_n : isNon .non = true := rfl
omit [Tbs] in
theorem e_non_b {b : Bool} : isNon (.bl b) = false := rfl
omit [Tbs] in
theorem e_non_i : isNon (.int z) = false := rfl
omit [Tbs] in
theorem e_non_s : isNon (.str cs) = false := rfl
omit [Tbs] in
theorem e_non_l : isNon (.lst xs) = false := rfl
omit [Tbs] in
theorem e_non_t : isNon (.tup xs) = false := rfl
omit [Tbs] in
theorem e_eq : fEq p q = gd (okEq p q = true) (.bl (peq p q)) := rfl
omit [Tbs] in
theorem e_ne : fNe p q = gd (okEq p q = true) (.bl (!peq p q)) := rfl
omit [Tbs] in
theorem e_ok_nn : okEq .non .non = true := rfl
omit [Tbs] in
theorem e_ok_nb {d : Bool} : okEq .non (.bl d) = true := rfl
omit [Tbs] in
theorem e_ok_ni : okEq .non (.int w) = true := rfl
omit [Tbs] in
theorem e_ok_ns : okEq .non (.str ds) = true := rfl
omit [Tbs] in
theorem e_ok_bn {b : Bool} : okEq (.bl b) .non = true := rfl
omit [Tbs] in
theorem e_ok_bb {b d : Bool} : okEq (.bl b) (.bl d) = true := rfl
omit [Tbs] in
theorem e_ok_bi {b : Bool} : okEq (.bl b) (.int w) = true := rfl
omit [Tbs] in
theorem e_ok_bs {b : Bool} : okEq (.bl b) (.str ds) = true := rfl
omit [Tbs] in
theorem e_ok_in : okEq (.int z) .non = true := rfl
omit [Tbs] in
theorem e_ok_ib {d : Bool} : okEq (.int z) (.bl d) = true := rfl
omit [Tbs] in
theorem e_ok_ii : okEq (.int z) (.int w) = true := rfl
omit [Tbs] in
theorem e_ok_is : okEq (.int z) (.str ds) = true := rfl
omit [Tbs] in
theorem e_ok_sn : okEq (.str cs) .non = true := rfl
omit [Tbs] in
theorem e_ok_sb {d : Bool} : okEq (.str cs) (.bl d) = true := rfl
omit [Tbs] in
theorem e_ok_si : okEq (.str cs) (.int w) = true := rfl
omit [Tbs] in
theorem e_ok_ss : okEq (.str cs) (.str ds) = true := rfl
omit [Tbs] in
theorem e_peq_nn : peq .non .non = true := rfl
omit [Tbs] in
theorem e_peq_bb {b d : Bool} : peq (.bl b) (.bl d) = (b == d) := rfl
omit [Tbs] in
theorem e_peq_ii : peq (.int z) (.int w) = (z == w) := rfl
omit [Tbs] in
theorem e_peq_ss : peq (.str cs) (.str ds) = decide (cs = ds) := rfl
omit [Tbs] in
theorem e_peq_ll : peq (.lst xs) (.lst ys) = peqs xs ys := rfl
omit [Tbs] in
theorem e_peq_tt : peq (.tup xs) (.tup ys) = peqs xs ys := rfl
omit [Tbs] in
theorem e_peq_ns : peq .non (.str ds) = false := rfl
omit [Tbs] in
theorem e_peq_sn : peq (.str cs) .non = false := rfl
omit [Tbs] in
theorem e_peq_ni : peq .non (.int w) = false := rfl
omit [Tbs] in
theorem e_peq_in : peq (.int z) .non = false := rfl
omit [Tbs] in
theorem e_peq_is : peq (.int z) (.str ds) = false := rfl
omit [Tbs] in
theorem e_peq_si : peq (.str cs) (.int w) = false := rfl
omit [Tbs] in
theorem e_peq_bs {b : Bool} : peq (.bl b) (.str ds) = false := rfl
omit [Tbs] in
theorem e_peq_sb {d : Bool} : peq (.str cs) (.bl d) = false := rfl
omit [Tbs] in
theorem e_peq_nb {d : Bool} : peq .non (.bl d) = false := rfl
omit [Tbs] in
theorem e_peq_bn {b : Bool} : peq (.bl b) .non = false := rfl
omit [Tbs] in
theorem e_peqs_nil : peqs [] [] = true := rfl
omit [Tbs] in
theorem e_peqs_cons : peqs (p :: xs) (q :: ys) = (peq p q && peqs xs ys) := rfl
omit [Tbs] in
theorem e_in : fIn p q = (inP p q).map fun b => .bl b := rfl
omit [Tbs] in
theorem e_nin : fNin p q = (inP p q).map fun b => .bl (!b) := rfl
omit [Tbs] in
theorem e_inP_c {c : Nat} : inP (.str [c]) (.str cs) = some (decide (c ∈ cs)) := rfl
omit [Tbs] in
theorem e_ix_l : fIx (.lst xs) (.int z) = atI xs z := rfl
omit [Tbs] in
theorem e_ix_t : fIx (.tup xs) (.int z) = atI xs z := rfl
omit [Tbs] in
theorem e_ix_s : fIx (.str cs) (.int z) = (gd (cs.length ≤ 100000) ()).bind fun _ => (atI cs z).map fun c => .str [c] := rfl
variable {lo hi : Option Int}
omit [Tbs] in
theorem e_cut_l : fCut (.lst xs) lo hi = some (.lst (cutL xs lo hi)) := rfl
omit [Tbs] in
theorem e_cut_s : fCut (.str cs) lo hi = gd (cs.length ≤ 100000) (.str (cutL cs lo hi)) := rfl
omit [Tbs] in
theorem e_cut_c {ns : List Int} : fCut (.scr ns) lo hi = some (.lst ((cutL ns lo hi).map P.int)) := rfl
omit [Tbs] in
theorem e_len_s : fLen [.str cs] = gd (cs.length ≤ 100000) (.int (cs.length : Nat)) := rfl
omit [Tbs] in
theorem e_len_l : fLen [.lst xs] = some (.int (xs.length : Nat)) := rfl
omit [Tbs] in
theorem e_len_t : fLen [.tup xs] = some (.int (xs.length : Nat)) := rfl
omit [Tbs] in
theorem e_int_i : fIntOf [.int z] = some (.int z) := rfl
omit [Tbs] in
theorem e_int_b {b : Bool} : fIntOf [.bl b] = some (.int (if b then 1 else 0)) := rfl
omit [Tbs] in
theorem e_tup_l : fTupOf [.lst xs] = some (.tup xs) := rfl
omit [Tbs] in
theorem e_tup_t : fTupOf [.tup xs] = some (.tup xs) := rfl
omit [Tbs] in
theorem e_lst_l : listOfV (.lst xs) = some (.lst xs) := rfl
omit [Tbs] in
theorem e_lst_t : listOfV (.tup xs) = some (.lst xs) := rfl
omit [Tbs] in
theorem e_lst_c {ns : List Int} : listOfV (.scr ns) = some (.lst (ns.map P.int)) := rfl
omit [Tbs] in
theorem e_all : fAll [.lst xs] = (blsOf xs).map fun bs => .bl (bs.all id) := rfl
omit [Tbs] in
theorem e_any : fAny [.lst xs] = (blsOf xs).map fun bs => .bl (bs.any id) := rfl
omit [Tbs] in
theorem e_sum : fSum [.lst xs] = (intsOf xs).map fun ns => .int ns.sum := rfl
omit [Tbs] in
theorem e_max : fMax [.lst xs] = (intsOf xs).bind fun ns => gd (0 < ns.length) (.int (maxI ns)) := rfl
omit [Tbs] in
theorem e_min : fMin [.lst xs] = (intsOf xs).bind fun ns => gd (0 < ns.length) (.int (minI ns)) := rfl
omit [Tbs] in
theorem e_isi {T : String} : fIsi [p, .ty T] = gd (kindP p ≠ "" ∧ okTy T = true) (.bl (isP T p)) := rfl
omit [Tbs] in
theorem e_join : fJoin (.str cs) (.lst xs) = (strsOf xs).bind fun ys => gd ((ys.map (·.length)).sum + ys.length * cs.length ≤ 100000) (.str (TL.joinL cs ys)) := rfl
omit [Tbs] in
theorem e_it_l : itemsP (.lst xs) = some xs := rfl
omit [Tbs] in
theorem e_it_t : itemsP (.tup xs) = some xs := rfl
omit [Tbs] in
theorem e_it_s : itemsP (.str cs) = some (cs.map fun c => .str [c]) := rfl
omit [Tbs] in
theorem e_enu : enuP (.lst xs) = some (enumP 0 xs) := rfl
omit [Tbs] in
theorem e_enuT : enuP (.tup xs) = some (enumP 0 xs) := rfl
omit [Tbs] in
theorem e_enum0 {n : Nat} : enumP n [] = [] := rfl
omit [Tbs] in
theorem e_zip_l : zipV (.lst xs) (.lst ys) = some (zipP xs ys) := rfl
omit [Tbs] in
theorem e_zip_t : zipV (.tup xs) (.tup ys) = some (zipP xs ys) := rfl
omit [Tbs] in
theorem e_lenSet : lenSetV (.str cs) = gd (cs.length ≤ 1000) (.int ((dedN cs []).length : Nat)) := rfl
omit [Tbs] in
theorem e_sortSet : sortSetV (.str cs) = gd (cs.length ≤ 60) (.lst ((ordN cs).map fun c => .str [c])) := rfl
omit [Tbs] in
theorem e_listStr : listStrV (.str cs) = gd (cs.length ≤ 1000) (.lst (cs.map fun c => .str [c])) := rfl
omit [Tbs] in
theorem e_sort : sortV (.lst xs) = (strsOf xs).bind fun zs => gd (zs.length < 64) (.lst ((sortB leT zs).map P.str)) := rfl
omit [Tbs] in
theorem e_sortI : sortIV (.lst xs) = (intsOf xs).bind fun zs => gd (zs.length < 64) (.lst ((sortB leI zs).map P.int)) := rfl
omit [Tbs] in
theorem e_isD_T {ks : List (List Key)} : isDict (.dT ks xs) = true := rfl
omit [Tbs] in
theorem e_isD_K {ks : List Key} : isDict (.dK ks xs) = true := rfl
omit [Tbs] in
theorem e_dget_T {ks : List (List Key)} : dgetP (.dT ks xs) p = (keyT p).map (getZ ks xs) := rfl
omit [Tbs] in
theorem e_dget_K {ks : List Key} : dgetP (.dK ks xs) p = (keyP p).map (getZ ks xs) := rfl
omit [Tbs] in
theorem e_fDGet : fDGet p q = (dgetP p q).bind id := rfl
omit [Tbs] in
theorem e_fDIn : fDIn p q = (dgetP q p).map fun o => .bl o.isSome := rfl
omit [Tbs] in
theorem e_fDNin : fDNin p q = (dgetP q p).map fun o => .bl (!o.isSome) := rfl
omit [Tbs] in
theorem e_dput_T {ks : List (List Key)} : dputP (.dT ks xs) p q = (keyT p).bind fun k => gd (ks.length < 100000) (.dT (putKs ks k) (putVs ks xs k q)) := rfl
omit [Tbs] in
theorem e_dput_K {ks : List Key} : dputP (.dK ks xs) p q = (keyP p).bind fun k => gd (ks.length < 100000) (.dK (putKs ks k) (putVs ks xs k q)) := rfl
omit [Tbs] in
theorem e_key_i : keyP (.int z) = some (.inl z) := rfl
omit [Tbs] in
theorem e_key_s : keyP (.str cs) = some (.inr (SX.S cs)) := rfl
omit [Tbs] in
theorem e_keyT2 : keyT (.tup [.int z, .int w]) = some [.inl z, .inl w] := rfl
omit [Tbs] in
theorem e_sl_0 : ∀ {s : Sl} {r : List Sl}, sl (s :: r) 0 = s := rfl
omit [Tbs] in
theorem e_sl_s : ∀ {s : Sl} {r : List Sl} {i : Nat}, sl (s :: r) (i + 1) = sl r i := rfl
omit [Tbs] in
theorem e_set_0 : ∀ {s z : Sl} {r : List Sl}, slset (s :: r) 0 z = z :: r := rfl
omit [Tbs] in
theorem e_set_s : ∀ {s z : Sl} {r : List Sl} {i : Nat}, slset (s :: r) (i + 1) z = s :: slset r i z := rfl
omit [Tbs] in
theorem e_wipe_0 : ∀ {ρ : Ro}, wipeP ρ [] = ρ := rfl
omit [Tbs] in
theorem e_wipe_s : ∀ {ρ : Ro} {v : Nat} {vs : List Nat}, wipeP ρ (v :: vs) = slset (wipeP ρ vs) v .un := rfl
omit [Tbs] in
theorem e_unw_0 : ∀ {ρ r : Ro}, unw ρ r [] = r := rfl
omit [Tbs] in
theorem e_unw_s : ∀ {ρ r : Ro} {v : Nat} {vs : List Nat}, unw ρ r (v :: vs) = slset (unw ρ r vs) v (sl ρ v) := rfl
omit [Tbs] in
theorem e_uns_0 : uns 0 = [] := rfl
omit [Tbs] in
theorem e_uns_s : uns (n + 1) = .un :: uns n := rfl
omit [Tbs] in
theorem e_io_n {ρ : Ro} : ioOut [] ρ = some [] := rfl
omit [Tbs] in
theorem e_io_v {xs : List Sl} {s : Sl} {ρ : Ro} : ioOut (.val p :: xs) (s :: ρ) = ioOut xs ρ := rfl
omit [Tbs] in
theorem e_io_i {xs : List Sl} {ρ : Ro} : ioOut (.io o :: xs) (.io po :: ρ) = (ioOut xs ρ).map (po :: ·) := rfl
omit [Tbs] in
theorem e_wb_i {xs : List Sl} {os : List PO} : wb (some j :: js) (.io o :: xs) (po :: os) ρ = wb js xs os (slset ρ j ((sl ρ j).chg po)) := by rw [wb]
omit [Tbs] in
theorem e_wb_v {j : Option Nat} {xs : List Sl} {os : List PO} : wb (j :: js) (.val p :: xs) os ρ = wb js xs os ρ := by
  cases j <;> (rw [wb] <;> (intros; simp_all))
omit [Tbs] in
theorem e_wb_n {xs : List Sl} {os : List PO} : wb [] xs os ρ = ρ := wb_nil _ _ _
end
end FX

/-! loops, comprehensions, small facts; the law -/
namespace FX
open PySem PySem.Spec PyProof.Rows L2 RZ PX
variable [Tbs]
/-! ### loops -/
section
variable {g : PHx} {b : PSx} {D : PD} {ρ : Ro} {α : Type}
omit [Tbs] in
/-- a loop by its invariant -/
theorem for_inv {xs : List P} (I : Nat → Ro → Prop) (h0 : I 0 ρ) (h : ∀ i x ρ, xs[i]? = some x → I i ρ → wp (g x ρ) (fun _ ρ => ws (b ρ) ⟨I (i + 1), D.rt, D.ro, D.nx, I (i + 1), D.ex⟩) D.ex) (hd : ∀ ρ, I xs.length ρ → D.nx ρ) : ws (forX g b xs ρ) D := by
  induction xs generalizing I ρ with
  | nil => exact hd ρ h0
  | cons x xs ih =>
    rw [ws_for]
    refine wp_mono (h 0 x ρ rfl h0) (fun _ ρ1 q => ?_) fun _ _ q => q
    have next : ∀ ρ, I 1 ρ → ws (forX g b xs ρ) D := fun ρ q => ih (fun i => I (i + 1)) q (fun i y ρ e w => h (i + 1) y ρ (by simpa using e) w) fun ρ w => hd ρ w
    exact ws_mono q next (fun _ _ q => q) (fun _ _ q => q) (fun _ q => q) next fun _ _ q => q
omit [Tbs] in
theorem for_rng {n : Nat} (I : Nat → Ro → Prop) (h0 : I 0 ρ) (h : ∀ i ρ, i < n → I i ρ → wp (g (.int (i : Nat)) ρ) (fun _ ρ => ws (b ρ) ⟨I (i + 1), D.rt, D.ro, D.nx, I (i + 1), D.ex⟩) D.ex) (hd : ∀ ρ, I n ρ → D.nx ρ) : ws (forX g b (rangeN n) ρ) D := by
  refine for_inv I h0 (fun i x ρ e w => ?_) fun ρ w => hd ρ (by unfold rangeN at w; rw [List.length_map, List.length_range] at w; exact w)
  unfold rangeN at e
  have hi : i < n := by
    have := (List.getElem?_eq_some_iff.mp e).1
    rw [List.length_map, List.length_range] at this
    exact this
  rw [List.getElem?_map, List.getElem?_range hi] at e
  cases e
  exact h i ρ hi w
omit [Tbs] in
theorem for_rgp {lo : Int} {n : Nat} (I : Nat → Ro → Prop) (h0 : I 0 ρ) (h : ∀ (i : Nat) ρ, i < n → I i ρ → wp (g (.int (lo + (i : Nat))) ρ) (fun _ ρ => ws (b ρ) ⟨I (i + 1), D.rt, D.ro, D.nx, I (i + 1), D.ex⟩) D.ex) (hd : ∀ ρ, I n ρ → D.nx ρ) : ws (forX g b (rangeP lo n) ρ) D := by
  refine for_inv I h0 (fun i x ρ e w => ?_) fun ρ w => hd ρ (by unfold rangeP at w; rw [List.length_map, List.length_range] at w; exact w)
  unfold rangeP at e
  have hi : i < n := by
    have := (List.getElem?_eq_some_iff.mp e).1
    rw [List.length_map, List.length_range] at this
    exact this
  rw [List.getElem?_map, List.getElem?_range hi] at e
  cases e
  exact h i ρ hi w
omit [Tbs] in
theorem for_lst {as : List α} {inj : α → P} (I : Nat → Ro → Prop) (h0 : I 0 ρ) (h : ∀ i a ρ, as[i]? = some a → I i ρ → wp (g (inj a) ρ) (fun _ ρ => ws (b ρ) ⟨I (i + 1), D.rt, D.ro, D.nx, I (i + 1), D.ex⟩) D.ex) (hd : ∀ ρ, I as.length ρ → D.nx ρ) : ws (forX g b (as.map inj) ρ) D := by
  refine for_inv I h0 (fun i x ρ e w => ?_) fun ρ w => hd ρ (by rw [List.length_map] at w; exact w)
  rw [List.getElem?_map] at e
  obtain ⟨a, ha, rfl⟩ := Option.map_eq_some_iff.mp e
  exact h i a ρ ha w
omit [Tbs] in
theorem for_enu {as : List α} {inj : α → P} (I : Nat → Ro → Prop) (h0 : I 0 ρ) (h : ∀ (i : Nat) a ρ, as[i]? = some a → I i ρ → wp (g (.tup [.int (i : Nat), inj a]) ρ) (fun _ ρ => ws (b ρ) ⟨I (i + 1), D.rt, D.ro, D.nx, I (i + 1), D.ex⟩) D.ex) (hd : ∀ ρ, I as.length ρ → D.nx ρ) : ws (forX g b (enumP 0 (as.map inj)) ρ) D := by
  refine for_inv I h0 (fun i x ρ e w => ?_) fun ρ w => hd ρ (by rw [enumP_len, List.length_map] at w; exact w)
  have hi : i < as.length := by
    have := (List.getElem?_eq_some_iff.mp e).1
    rw [enumP_len, List.length_map] at this
    exact this
  have e2 := enumP_get (n := 0) (xs := as.map inj) (i := i) (x := inj as[i]) (by rw [List.getElem?_map, List.getElem?_eq_getElem hi]; rfl)
  rw [e, Nat.zero_add] at e2
  cases e2
  exact h i _ ρ (List.getElem?_eq_getElem hi) w
omit [Tbs] in
/-- a while by its invariant and a number that falls -/
theorem while_inv {t : PTx} {n : Nat} (I : Nat → Ro → Prop) (m : Nat) (hm : m < n) (h0 : I m ρ) (h : ∀ m ρ, I m ρ → wp (t ρ) (fun c ρ => pIte c (ws (b ρ) ⟨fun ρ => ∃ k, k < m ∧ I k ρ, D.rt, D.ro, D.nx, fun ρ => ∃ k, k < m ∧ I k ρ, D.ex⟩) (D.nx ρ)) D.ex) : ws (whX t b n ρ) D := by
  induction n generalizing m ρ with
  | zero => omega
  | succ n ih =>
    rw [ws_wh]
    refine wp_mono (h m ρ h0) (fun c ρ1 q => ?_) fun _ _ q => q
    cases c with
    | false => exact q
    | true =>
      have next : ∀ ρ, (∃ k, k < m ∧ I k ρ) → ws (whX t b n ρ) D := fun ρ ⟨k, hk, w⟩ => ih k (by omega) w
      exact ws_mono (show ws (b ρ1) _ from q) next (fun _ _ q => q) (fun _ _ q => q) (fun _ q => q) next fun _ _ q => q
end
/-! ### comprehensions -/
section
variable {vs : List Nat} {g : PGx} {t : PTx} {e : PEx} {ρ : Ro} {Q : List P → Ro → Prop} {E : EP} {α : Type}
omit [Tbs] in
theorem wp_lc_cons {x : P} {xs : List P} : wp (lcX vs g t e (x :: xs) ρ) Q E = wo (g x ρ) fun ρ1 => wp (t ρ1) (fun c ρ2 => pIte c (wp (e ρ2) (fun y ρ3 => wp (lcX vs g t e xs (wipeP ρ3 vs)) (fun ys ρ4 => Q (y :: ys) ρ4) E) fun _ _ => False) (wp (lcX vs g t e xs (wipeP ρ2 vs)) Q E)) fun _ _ => False := by
  simp only [lcX, wp_bind, wp_ofO, wp_noX, wp_pIte, wp_ok]
omit [Tbs] in
/-- the comprehension of a function, under a test; J: what holds of the slots between the turns -/
theorem lc_fun {as : List α} {inj : α → P} (c : α → Bool) (f : α → P) (J : Ro → Prop) (h0 : J ρ)
    (h : ∀ a, a ∈ as → ∀ ρ, J ρ → ∀ (R : P → Ro → Prop) (N : Ro → Prop), (c a = true → ∀ ρ3, J (wipeP ρ3 vs) → R (f a) ρ3) → (c a = false → ∀ ρ2, J (wipeP ρ2 vs) → N ρ2) → wo (g (inj a) ρ) fun ρ1 => wp (t ρ1) (fun k ρ2 => pIte k (wp (e ρ2) R fun _ _ => False) (N ρ2)) fun _ _ => False)
    (q : ∀ ρ, J ρ → Q ((as.filter c).map f) ρ) : wp (lcX vs g t e (as.map inj) ρ) Q E := by
  induction as generalizing ρ Q with
  | nil => exact q ρ h0
  | cons a as ih =>
    rw [List.map_cons, wp_lc_cons]
    refine h a (List.mem_cons_self ..) ρ h0 _ _ (fun hc ρ3 j => ?_) fun hc ρ2 j => ?_
    · refine ih j (fun b hb => h b (List.mem_cons_of_mem _ hb)) fun ρ w => ?_
      have := q ρ w
      rw [List.filter_cons_of_pos hc, List.map_cons] at this
      exact this
    · refine ih j (fun b hb => h b (List.mem_cons_of_mem _ hb)) fun ρ w => ?_
      have := q ρ w
      rw [List.filter_cons_of_neg (by rw [hc]; simp)] at this
      exact this
omit [Tbs] in
/-- no test, nothing changes -/
theorem lc_map {as : List α} {inj : α → P} (f : α → P) (h : ∀ a, a ∈ as → ∀ (R : P → Ro → Prop) (N : Ro → Prop), (∀ ρ3, wipeP ρ3 vs = ρ → R (f a) ρ3) → wo (g (inj a) ρ) fun ρ1 => wp (t ρ1) (fun k ρ2 => pIte k (wp (e ρ2) R fun _ _ => False) (N ρ2)) fun _ _ => False)
    (q : Q (as.map f) ρ) : wp (lcX vs g t e (as.map inj) ρ) Q E :=
  lc_fun (fun _ => true) f (fun r => r = ρ) rfl (fun a ha ρ' hρ R N h1 _ => by subst hρ; exact h a ha R N fun ρ3 e => h1 rfl ρ3 e) fun ρ' hρ => by subst hρ; rw [List.filter_eq_self.mpr fun _ _ => rfl]; exact q
omit [Tbs] in
/-- nothing changes -/
theorem lc_flt {as : List α} {inj : α → P} (c : α → Bool) (f : α → P) (h : ∀ a, a ∈ as → ∀ (R : P → Ro → Prop) (N : Ro → Prop), (c a = true → ∀ ρ3, wipeP ρ3 vs = ρ → R (f a) ρ3) → (c a = false → ∀ ρ2, wipeP ρ2 vs = ρ → N ρ2) → wo (g (inj a) ρ) fun ρ1 => wp (t ρ1) (fun k ρ2 => pIte k (wp (e ρ2) R fun _ _ => False) (N ρ2)) fun _ _ => False)
    (q : Q ((as.filter c).map f) ρ) : wp (lcX vs g t e (as.map inj) ρ) Q E :=
  lc_fun c f (fun r => r = ρ) rfl (fun a ha ρ' hρ R N h1 h2 => by subst hρ; exact h a ha R N h1 h2) fun ρ' hρ => by subst hρ; exact q
omit [Tbs] in
/-- items of some kind -/
theorem lc_ex {xs : List P} (Kp : P → Prop) (J : Ro → Prop) (h0 : J ρ)
    (h : ∀ x, x ∈ xs → ∀ ρ, J ρ → ∀ (R : P → Ro → Prop) (N : Ro → Prop), (∀ y ρ3, Kp y → J (wipeP ρ3 vs) → R y ρ3) → wo (g x ρ) fun ρ1 => wp (t ρ1) (fun k ρ2 => pIte k (wp (e ρ2) R fun _ _ => False) (N ρ2)) fun _ _ => False)
    (q : ∀ ys ρ, ys.length = xs.length → (∀ y ∈ ys, Kp y) → J ρ → Q ys ρ) : wp (lcX vs g t e xs ρ) Q E := by
  induction xs generalizing ρ Q with
  | nil => exact q [] ρ rfl (fun _ h => (List.not_mem_nil h).elim) h0
  | cons a as ih =>
    rw [wp_lc_cons]
    refine h a (List.mem_cons_self ..) ρ h0 _ _ fun y ρ3 ky j => ?_
    refine ih j (fun b hb => h b (List.mem_cons_of_mem _ hb)) fun ys ρ hl hk w => q (y :: ys) ρ (congrArg (· + 1) hl) (fun z hz => ?_) w
    rcases List.mem_cons.mp hz with e | e
    · rw [e]; exact ky
    · exact hk z e
omit [Tbs] in
/-- some of the items, whatever the test says -/
theorem lc_sub {as : List α} {inj : α → P} (f : α → P) (J : Ro → Prop) (h0 : J ρ)
    (h : ∀ a, a ∈ as → ∀ ρ, J ρ → ∀ (R : P → Ro → Prop) (N : Ro → Prop), (∀ ρ3, J (wipeP ρ3 vs) → R (f a) ρ3) → (∀ ρ2, J (wipeP ρ2 vs) → N ρ2) → wo (g (inj a) ρ) fun ρ1 => wp (t ρ1) (fun k ρ2 => pIte k (wp (e ρ2) R fun _ _ => False) (N ρ2)) fun _ _ => False)
    (q : ∀ (bs : List α) ρ, bs.Sublist as → J ρ → Q (bs.map f) ρ) : wp (lcX vs g t e (as.map inj) ρ) Q E := by
  induction as generalizing ρ Q with
  | nil => exact q [] ρ (List.Sublist.refl _) h0
  | cons a as ih =>
    rw [List.map_cons, wp_lc_cons]
    refine h a (List.mem_cons_self ..) ρ h0 _ _ (fun ρ3 j => ?_) fun ρ2 j => ?_
    · exact ih j (fun b hb => h b (List.mem_cons_of_mem _ hb)) fun bs ρ s w => q (a :: bs) ρ (s.cons₂ a) w
    · exact ih j (fun b hb => h b (List.mem_cons_of_mem _ hb)) fun bs ρ s w => q bs ρ (s.cons a) w
end
/-! ### small facts -/
section
variable {α : Type} {R : P → Prop} {cs a : List Nat}
omit [Tbs] in
theorem at_n {xs : List α} {i : Nat} {R : α → Prop} (h : i < xs.length) (q : R xs[i]) : wo (atI xs (i : Int)) R := by rw [atI_nat (List.getElem?_eq_getElem h)]; exact q
omit [Tbs] in
theorem at_p {o : Option α} {p : α} {R : α → Prop} (e : o = some p) (h : R p) : wo o R := by rw [e]; exact h
omit [Tbs] in
theorem any_strs {xs : List (List Nat)} {a : List Nat} : (xs.map P.str).any (fun y => peq y (.str a)) = decide (a ∈ xs) := by
  rw [List.any_map, Bool.eq_iff_iff, decide_eq_true_iff, List.any_eq_true]
  exact ⟨fun ⟨x, hx, h⟩ => (of_decide_eq_true (show decide (x = a) = true from h)) ▸ hx, fun h => ⟨a, h, decide_eq_true rfl⟩⟩
omit [Tbs] in
theorem inP_lst {p : P} {xs : List P} : inP p (.lst xs) = gd (pflat p = true ∧ xs.all pflat = true) (xs.any fun y => peq y p) := by
  cases p <;> first | rfl | skip
  rename_i cs
  cases cs <;> first | rfl | skip
  rename_i c cs
  cases cs <;> rfl
omit [Tbs] in
theorem inP_tup {p : P} {xs : List P} : inP p (.tup xs) = gd (pflat p = true ∧ xs.all pflat = true) (xs.any fun y => peq y p) := by
  cases p <;> first | rfl | skip
  rename_i cs
  cases cs <;> first | rfl | skip
  rename_i c cs
  cases cs <;> rfl
omit [Tbs] in
theorem inP_strs {xs : List (List Nat)} {a : List Nat} : inP (.str a) (.lst (xs.map P.str)) = some (decide (a ∈ xs)) := by
  rw [inP_lst, any_strs]
  unfold gd
  rw [if_pos ⟨rfl, by rw [List.all_map]; exact List.all_eq_true.mpr fun _ _ => rfl⟩]
omit [Tbs] in
theorem cutL_from (xs : List α) (n : Nat) : cutL xs (some (n : Int)) none = xs.drop n := by
  unfold cutL
  rw [HT.sIx_none, show HT.sIx xs.length 0 (some (n : Int)) = min n xs.length from HT.sIx_nat xs.length 0 n]
  by_cases h : n ≤ xs.length
  · rw [Nat.min_eq_left h, List.take_of_length_le]
    rw [List.length_drop]; omega
  · rw [Nat.min_eq_right (by omega), List.drop_length, List.drop_eq_nil_of_le (by omega)]; simp
omit [Tbs] in
theorem cutL_to (xs : List α) (n : Nat) : cutL xs none (some (n : Int)) = xs.take n := by
  unfold cutL
  rw [HT.sIx_none, show HT.sIx xs.length xs.length (some (n : Int)) = min n xs.length from HT.sIx_nat xs.length _ n]
  show (xs.drop 0).take (min n xs.length - 0) = xs.take n
  rw [List.drop_zero, Nat.sub_zero]
  by_cases h : n ≤ xs.length
  · rw [Nat.min_eq_left h]
  · rw [Nat.min_eq_right (by omega), List.take_length, List.take_of_length_le (by omega)]
omit [Tbs] in
theorem seq_ch {cs : List Nat} : (cs.map fun c => P.str [c]) = (cs.map fun c => [c]).map P.str := by rw [List.map_map] <;> rfl
omit [Tbs] in
theorem joinE {ys : List (List Nat)} : TL.joinL [] ys = ys.flatten := joinL_nil ys
end
/-- a closed piece that ends in True, run by the kernel -/
def okRt : RS → Bool
  | .rt (.bl true) (_ :: _) => true
  | _ => false
omit [Tbs] in
theorem ws_okRt {r : RS} {D : PD} (h : okRt r = true) (k : ∀ s ρ, D.rt (.bl true) (s :: ρ)) : ws r D := by
  unfold okRt at h
  split at h
  · exact k _ _
  · cases h
omit [Tbs] in
theorem ioOut_val {p : P} {s : Sl} {ρ : Ro} : ioOut [.val p] (s :: ρ) = some [] := rfl
/-! ### the law -/
omit [Tbs] in
/-- the law's promise: true -/
def sp_lawG (K : PySem.W.Frag) : Sp := fun vs H Q _ => ∃ (F : Hp) (a : Addr) (ns : List Int), Ex F H ∧ TbOk F H ∧ vs = [.ref a] ∧ SqL K F a (ns.map V.int) ∧ ns.length ≤ 63 ∧ ∀ H', Q (.bl true) H'
theorem HasF.law {P' : Program} {w : World} {K : PySem.W.Frag} {mg : Str → Option Value} {base : Heap} {x : Str} {st : Stmt} {k : Nat} {ps : List Str} {f : FL} (h : HasF P' w K mg base x st k ps (liftF K 1 f))
    (hf : ∀ ns : List Int, ns.length ≤ 63 → f [.val (.scr ns)] = .ok (.bl true) []) : Has P' w K mg base x st k ps (sp_lawG K) := by
  obtain ⟨fa, fd, F, g, G, b⟩ := h.ex
  have up : ∀ vs H Q E, sp_lawG K vs H Q E → liftF K 1 f vs H Q (fun _ _ _ => False) := fun vs H Q E ⟨F0, a, ns, hF, tb, e, hs, hl, q⟩ => by
    subst e
    refine ⟨F0, [.val (.scr ns)], fun p os => p = .bl true ∧ os = [], fun _ _ => False, hF, ⟨rfl, fun i s e => ?_, fun i j c o o' n e1 _ _ _ => ?_⟩, tb, rfl, by rw [hf ns hl]; exact ⟨rfl, rfl⟩, fun p v os F' H' _ _ r ⟨e, _⟩ => ?_, fun _ _ _ _ _ _ _ _ _ z => z.elim⟩
    · cases i with
      | zero => cases e; exact ⟨_, rfl, a, rfl, hs⟩
      | succ i => simp at e
    · cases i with
      | zero => cases e1
      | succ i => simp at e1
    · subst e
      cases r
      exact q H'
  refine ⟨fa, fd, F, g, ⟨fun vs H Q E z => ?_, fun A outer s H args us vs Q E hr e0 hb r z => ?_⟩, b⟩
  · exact G.len vs H Q _ (up vs H Q E z)
  · refine codeAny_mono (G.run A outer s H args us vs Q (fun _ _ _ => False) hr e0 hb r (up vs H Q E z)) fun r s' hq => ?_
    cases r with
    | error e =>
      obtain ⟨_, _, _, _, _, _, _, _, _, _, _, _, z⟩ := hq
      exact z.elim
    | ok fl =>
      cases fl with
      | ret u => exact hq
      | next => exact hq
      | brk => exact hq
      | cont => exact hq
/-! ### lists of one kind -/
omit [Tbs] in
theorem e_strs {xs : List (List Nat)} : strsOf (xs.map P.str) = some xs := by
  induction xs with
  | nil => rfl
  | cons x xs ih => show (strsOf (xs.map P.str)).map (x :: ·) = _; rw [ih]; rfl
omit [Tbs] in
theorem e_strs_f {α : Type} {f : α → List Nat} {xs : List α} : strsOf (xs.map fun a => P.str (f a)) = some (xs.map f) := by
  rw [show (xs.map fun a => P.str (f a)) = (xs.map f).map P.str by rw [List.map_map]; rfl]; exact e_strs
omit [Tbs] in
theorem e_ints {xs : List Int} : intsOf (xs.map P.int) = some xs := by
  induction xs with
  | nil => rfl
  | cons x xs ih => show (intsOf (xs.map P.int)).map (x :: ·) = _; rw [ih]; rfl
omit [Tbs] in
theorem e_ints_f {α : Type} {f : α → Int} {xs : List α} : intsOf (xs.map fun a => P.int (f a)) = some (xs.map f) := by
  rw [show (xs.map fun a => P.int (f a)) = (xs.map f).map P.int by rw [List.map_map]; rfl]; exact e_ints
omit [Tbs] in
theorem e_bls {xs : List Bool} : blsOf (xs.map P.bl) = some xs := by
  induction xs with
  | nil => rfl
  | cons x xs ih => show (blsOf (xs.map P.bl)).map (x :: ·) = _; rw [ih]; rfl
omit [Tbs] in
theorem e_bls_f {α : Type} {f : α → Bool} {xs : List α} : blsOf (xs.map fun a => P.bl (f a)) = some (xs.map f) := by
  rw [show (xs.map fun a => P.bl (f a)) = (xs.map f).map P.bl by rw [List.map_map]; rfl]; exact e_bls
omit [Tbs] in
theorem abcL_eq : abcL = [97, 98, 99, 100, 101, 102, 103, 104, 105, 106, 107, 108, 109, 110, 111, 112, 113, 114, 115, 116, 117, 118, 119, 120, 121, 122] := by decide +kernel
omit [Tbs] in
theorem e_low {c : Nat} : decide (c ∈ [97, 98, 99, 100, 101, 102, 103, 104, 105, 106, 107, 108, 109, 110, 111, 112, 113, 114, 115, 116, 117, 118, 119, 120, 121, 122]) = isLow c := by unfold isLow; rw [abcL_eq]
omit [Tbs] in
theorem e_joinE {ys : List (List Nat)} : TL.joinL [] ys = ys.flatten := joinE
omit [Tbs] in
theorem e_inP_strs {xs : List (List Nat)} {a : List Nat} : inP (.str a) (.lst (xs.map P.str)) = some (decide (a ∈ xs)) := inP_strs
omit [Tbs] in
theorem e_at_ints {l : List Int} {k : Nat} (h : k < l.length) : atI (l.map P.int) (k : Int) = some (.int (l.getD k 0)) := by
  rw [atI_nat (v := .int (l.getD k 0)) (by rw [List.getElem?_map, List.getElem?_eq_getElem h, List.getD_eq_getElem?_getD, List.getElem?_eq_getElem h]; rfl)]
/-! ### kinds -/
omit [Tbs] in
theorem e_okT_bool : okTy "bool" = true := rfl
omit [Tbs] in
theorem e_isP_bool_non : isP "bool" (.non) = false := rfl
omit [Tbs] in
theorem e_isP_bool_bl {b : Bool} : isP "bool" (.bl b) = true := rfl
omit [Tbs] in
theorem e_isP_bool_int {z : Int} : isP "bool" (.int z) = false := rfl
omit [Tbs] in
theorem e_isP_bool_str {c : List Nat} : isP "bool" (.str c) = false := rfl
omit [Tbs] in
theorem e_isP_bool_lst {x : List P} : isP "bool" (.lst x) = false := rfl
omit [Tbs] in
theorem e_isP_bool_tup {x : List P} : isP "bool" (.tup x) = false := rfl
omit [Tbs] in
theorem e_okT_int : okTy "int" = true := rfl
omit [Tbs] in
theorem e_isP_int_non : isP "int" (.non) = false := rfl
omit [Tbs] in
theorem e_isP_int_bl {b : Bool} : isP "int" (.bl b) = true := rfl
omit [Tbs] in
theorem e_isP_int_int {z : Int} : isP "int" (.int z) = true := rfl
omit [Tbs] in
theorem e_isP_int_str {c : List Nat} : isP "int" (.str c) = false := rfl
omit [Tbs] in
theorem e_isP_int_lst {x : List P} : isP "int" (.lst x) = false := rfl
omit [Tbs] in
theorem e_isP_int_tup {x : List P} : isP "int" (.tup x) = false := rfl
omit [Tbs] in
theorem e_okT_str : okTy "str" = true := rfl
omit [Tbs] in
theorem e_isP_str_non : isP "str" (.non) = false := rfl
omit [Tbs] in
theorem e_isP_str_bl {b : Bool} : isP "str" (.bl b) = false := rfl
omit [Tbs] in
theorem e_isP_str_int {z : Int} : isP "str" (.int z) = false := rfl
omit [Tbs] in
theorem e_isP_str_str {c : List Nat} : isP "str" (.str c) = true := rfl
omit [Tbs] in
theorem e_isP_str_lst {x : List P} : isP "str" (.lst x) = false := rfl
omit [Tbs] in
theorem e_isP_str_tup {x : List P} : isP "str" (.tup x) = false := rfl
omit [Tbs] in
theorem e_okT_list : okTy "list" = true := rfl
omit [Tbs] in
theorem e_isP_list_non : isP "list" (.non) = false := rfl
omit [Tbs] in
theorem e_isP_list_bl {b : Bool} : isP "list" (.bl b) = false := rfl
omit [Tbs] in
theorem e_isP_list_int {z : Int} : isP "list" (.int z) = false := rfl
omit [Tbs] in
theorem e_isP_list_str {c : List Nat} : isP "list" (.str c) = false := rfl
omit [Tbs] in
theorem e_isP_list_lst {x : List P} : isP "list" (.lst x) = true := rfl
omit [Tbs] in
theorem e_isP_list_tup {x : List P} : isP "list" (.tup x) = false := rfl
omit [Tbs] in
theorem e_okT_tuple : okTy "tuple" = true := rfl
omit [Tbs] in
theorem e_isP_tuple_non : isP "tuple" (.non) = false := rfl
omit [Tbs] in
theorem e_isP_tuple_bl {b : Bool} : isP "tuple" (.bl b) = false := rfl
omit [Tbs] in
theorem e_isP_tuple_int {z : Int} : isP "tuple" (.int z) = false := rfl
omit [Tbs] in
theorem e_isP_tuple_str {c : List Nat} : isP "tuple" (.str c) = false := rfl
omit [Tbs] in
theorem e_isP_tuple_lst {x : List P} : isP "tuple" (.lst x) = false := rfl
omit [Tbs] in
theorem e_isP_tuple_tup {x : List P} : isP "tuple" (.tup x) = true := rfl
omit [Tbs] in
theorem e_kd_non : (kindP (.non) ≠ "") = True := eq_true (show "NoneType" ≠ "" by decide)
omit [Tbs] in
theorem e_kd_bl {b : Bool} : (kindP (.bl b) ≠ "") = True := eq_true (show "bool" ≠ "" by decide)
omit [Tbs] in
theorem e_kd_int {z : Int} : (kindP (.int z) ≠ "") = True := eq_true (show "int" ≠ "" by decide)
omit [Tbs] in
theorem e_kd_str {c : List Nat} : (kindP (.str c) ≠ "") = True := eq_true (show "str" ≠ "" by decide)
omit [Tbs] in
theorem e_kd_lst {x : List P} : (kindP (.lst x) ≠ "") = True := eq_true (show "list" ≠ "" by decide)
omit [Tbs] in
theorem e_kd_tup {x : List P} : (kindP (.tup x) ≠ "") = True := eq_true (show "tuple" ≠ "" by decide)
omit [Tbs] in
theorem e_isi2 {S T : String} {p : P} : fIsi2 S T p = gd (kindP p ≠ "" ∧ okTy S = true ∧ okTy T = true) (.bl (isP S p || isP T p)) := rfl
omit [Tbs] in
theorem e_ints_n : intsOf [] = some [] := rfl
omit [Tbs] in
theorem e_ints_c {z : Int} {xs : List P} : intsOf (.int z :: xs) = (intsOf xs).map (z :: ·) := rfl
omit [Tbs] in
theorem e_strs_n : strsOf [] = some [] := rfl
omit [Tbs] in
theorem e_strs_c {z : List Nat} {xs : List P} : strsOf (.str z :: xs) = (strsOf xs).map (z :: ·) := rfl
omit [Tbs] in
theorem e_bls_n : blsOf [] = some [] := rfl
omit [Tbs] in
theorem e_bls_c {z : Bool} {xs : List P} : blsOf (.bl z :: xs) = (blsOf xs).map (z :: ·) := rfl
omit [Tbs] in
theorem rangeN_len {n : Nat} : (rangeN n).length = n := by unfold rangeN; rw [List.length_map, List.length_range]
omit [Tbs] in
theorem rangeP_len {a : Int} {n : Nat} : (rangeP a n).length = n := by unfold rangeP; rw [List.length_map, List.length_range]
omit [Tbs] in
theorem e_maxI2 {a b : Int} : maxI [a, b] = max a b := by show (if b ≤ a then a else b) = _; rw [Int.max_def]; split <;> split <;> omega
omit [Tbs] in
theorem e_minI2 {a b : Int} : minI [a, b] = min a b := by show (if a ≤ b then a else b) = _; rw [Int.min_def]
omit [Tbs] in
theorem e_pick {α : Type} {i : Nat} {l : List α} : pick i l = (l.drop i).take 1 := rfl
/-! ### fields -/
section
variable {c f n : Str} {ns : List Str} {p q : P} {xs : List P}
omit [Tbs] in
theorem e_insO_i : insO c (.io (.ins c ns xs)) = some (ns, xs) := by show (match c == c with | true => some (ns, xs) | false => none) = _; rw [beq_self_eq_true]
omit [Tbs] in
theorem e_insO_l : insO c (.loc (.ins c ns xs)) = some (ns, xs) := by show (match c == c with | true => some (ns, xs) | false => none) = _; rw [beq_self_eq_true]
omit [Tbs] in
theorem e_put_nil : putN1 f p [] [] = ([f], [p]) := rfl
omit [Tbs] in
theorem e_put_here : putN1 f p (f :: ns) (q :: xs) = (f :: ns, p :: xs) := by unfold putN1; rw [beq_self_eq_true]
omit [Tbs] in
theorem e_put_next (h : (f == n) = false) : putN1 f p (n :: ns) (q :: xs) = (n :: (putN1 f p ns xs).1, q :: (putN1 f p ns xs).2) := by rw [putN1, h]
omit [Tbs] in
theorem e_look_here : lookP (f :: ns) (q :: xs) f = some q := by unfold lookP; rw [beq_self_eq_true]
omit [Tbs] in
theorem e_look_next (h : (f == n) = false) : lookP (n :: ns) (q :: xs) f = lookP ns xs f := by rw [lookP, h]
omit [Tbs] in
theorem e_self {m : Str} : selfB c m (.ins c ns xs) = !(ns.contains m) := by show (c == c && !(ns.contains m)) = _; rw [beq_self_eq_true, Bool.true_and]
omit [Tbs] in
theorem e_fld : fldP c f (.ins c ns xs) = lookP ns xs f := by show (match c == c with | true => lookP ns xs f | false => none) = _; rw [beq_self_eq_true]
end
/-! ### places -/
omit [Tbs] in
theorem e_na10 : Int.natAbs 10 = 10 := rfl
omit [Tbs] in
theorem e_na2 : Int.natAbs 2 = 2 := rfl
omit [Tbs] in
theorem ixN_k {n k : Nat} (h : k < n) : ixN n (k : Int) = some k := by unfold L2.ixN; rw [if_pos (by omega), if_pos (by omega)]; simp
omit [Tbs] in
theorem e_at0 {α : Type} {x0 : α} {xs : List α} : atI (x0 :: xs) 0 = some x0 := atI_nat (j := 0) rfl
omit [Tbs] in
theorem e_at1 {α : Type} {x0 x1 : α} {xs : List α} : atI (x0 :: x1 :: xs) 1 = some x1 := atI_nat (j := 1) rfl
omit [Tbs] in
theorem e_at2 {α : Type} {x0 x1 x2 : α} {xs : List α} : atI (x0 :: x1 :: x2 :: xs) 2 = some x2 := atI_nat (j := 2) rfl
omit [Tbs] in
theorem e_at3 {α : Type} {x0 x1 x2 x3 : α} {xs : List α} : atI (x0 :: x1 :: x2 :: x3 :: xs) 3 = some x3 := atI_nat (j := 3) rfl
omit [Tbs] in
theorem e_at4 {α : Type} {x0 x1 x2 x3 x4 : α} {xs : List α} : atI (x0 :: x1 :: x2 :: x3 :: x4 :: xs) 4 = some x4 := atI_nat (j := 4) rfl
omit [Tbs] in
theorem e_at5 {α : Type} {x0 x1 x2 x3 x4 x5 : α} {xs : List α} : atI (x0 :: x1 :: x2 :: x3 :: x4 :: x5 :: xs) 5 = some x5 := atI_nat (j := 5) rfl
omit [Tbs] in
theorem e_at6 {α : Type} {x0 x1 x2 x3 x4 x5 x6 : α} {xs : List α} : atI (x0 :: x1 :: x2 :: x3 :: x4 :: x5 :: x6 :: xs) 6 = some x6 := atI_nat (j := 6) rfl
omit [Tbs] in
theorem e_at7 {α : Type} {x0 x1 x2 x3 x4 x5 x6 x7 : α} {xs : List α} : atI (x0 :: x1 :: x2 :: x3 :: x4 :: x5 :: x6 :: x7 :: xs) 7 = some x7 := atI_nat (j := 7) rfl
omit [Tbs] in
theorem e_at8 {α : Type} {x0 x1 x2 x3 x4 x5 x6 x7 x8 : α} {xs : List α} : atI (x0 :: x1 :: x2 :: x3 :: x4 :: x5 :: x6 :: x7 :: x8 :: xs) 8 = some x8 := atI_nat (j := 8) rfl
omit [Tbs] in
theorem e_at9 {α : Type} {x0 x1 x2 x3 x4 x5 x6 x7 x8 x9 : α} {xs : List α} : atI (x0 :: x1 :: x2 :: x3 :: x4 :: x5 :: x6 :: x7 :: x8 :: x9 :: xs) 9 = some x9 := atI_nat (j := 9) rfl
omit [Tbs] in
theorem e_ixN0 {n : Nat} : ixN (n + 1) 0 = some 0 := ixN_k (n := n + 1) (k := 0) (by omega)
omit [Tbs] in
theorem e_ixN1 {n : Nat} : ixN (n + 2) 1 = some 1 := ixN_k (n := n + 2) (k := 1) (by omega)
omit [Tbs] in
theorem e_ixN2 {n : Nat} : ixN (n + 3) 2 = some 2 := ixN_k (n := n + 3) (k := 2) (by omega)
omit [Tbs] in
theorem e_ixN3 {n : Nat} : ixN (n + 4) 3 = some 3 := ixN_k (n := n + 4) (k := 3) (by omega)
omit [Tbs] in
theorem e_ixN4 {n : Nat} : ixN (n + 5) 4 = some 4 := ixN_k (n := n + 5) (k := 4) (by omega)
omit [Tbs] in
theorem e_ixN5 {n : Nat} : ixN (n + 6) 5 = some 5 := ixN_k (n := n + 6) (k := 5) (by omega)
omit [Tbs] in
theorem e_ixN6 {n : Nat} : ixN (n + 7) 6 = some 6 := ixN_k (n := n + 7) (k := 6) (by omega)
omit [Tbs] in
theorem e_ixN7 {n : Nat} : ixN (n + 8) 7 = some 7 := ixN_k (n := n + 8) (k := 7) (by omega)
omit [Tbs] in
theorem e_ixN8 {n : Nat} : ixN (n + 9) 8 = some 8 := ixN_k (n := n + 9) (k := 8) (by omega)
omit [Tbs] in
theorem e_ixN9 {n : Nat} : ixN (n + 10) 9 = some 9 := ixN_k (n := n + 10) (k := 9) (by omega)
end FX

/-! own exceptions in two steps: the base class's __init__, which says super().__init__(code) -/
namespace XS
open PySem PySem.W PySem.Spec PyProof.Rows L2
/-- the bound __init__ called -/
theorem call_mw {prog : Program} {w : World} {A : Around} {E : Value → Shared → Prop} {h : Heap} {g : Array GenState} {d : Drawn} {t : Nat} {os : OsState} {nm q : Str} {C N : Addr} {bs bm bmB : List Value} {hdct : Bool} {sn : List Str} {sub : List Value} {ab : Bool} {col : Option Bool} {dd : Option Addr} {k0 k1 k2 k3 k5 : Option Value} {B newId i : String} {u e t0 : Addr} {rest : List Value} {Q : Value → Shared → Prop} (FB : ExcBaseFacts B newId i bmB)
    (hC : h.get? C = some (excClassObj nm q C N bs bm hdct sn sub ab col dd k0 k1 k2 k3 k5 newId)) (he : h.get? e = some ({ cls := .ref C, dict := none, data := .fields #[.ref t0, .none, .none, .none, .bool false, .none] } : Obj)) (hu : h.get? u = some (kxs_mw i e)) (hz : rest.length ≤ sizeLine)
    (hq : ∀ h' t1, (∀ b o, b ≠ e → h.get? b = some o → h'.get? b = some o) → h'.get? e = some ({ cls := .ref C, dict := none, data := .fields #[.ref t1, .none, .none, .none, .bool false, .none] } : Obj) → Q .none ⟨h', g, d, t, os⟩) :
    wpAny (model prog w) A (call (.ref u) rest) Q E ⟨h, g, d, t, os⟩ := by
  refine wpAny_call (codeAny_of_tree ?_)
  show wpAny _ A.in1 (callAny (.ref u) ⟨rest, []⟩) _ _ _
  simp only [callAny]
  refine wpAny_bind (wpAny_load hu ?_)
  simp only [kxs_mw, show (Value.type "method-wrapper" == Value.type "method" || Value.type "method-wrapper" == Value.type "builtin_function_or_method" || Value.type "method-wrapper" == Value.type "method-wrapper") = true by decide, if_true]
  refine KFB.if_so (by decide) ?_
  refine wpAny_bind (check_bound_init FB.toExcCallFacts hC he rfl ?_)
  refine wpAny_bind (wpAny_pure (wpAny_pure ?_))
  refine ⟨plainId_quiet FB.init.plain _, codeAny_builtin FB.initEntry ?_⟩
  exact exc_init_tree (cls := .ref C) (t0 := t0) (dv := none) (c2 := .none) (c3 := .none) (b4 := .bool false) he hz fun h' k h1 _ => hq h' _ k h1
/-- what the written part says of a class C below D, whose __init__ leads on to the built-in i of B -/
structure SupC (K : Frag) (D C : Addr) (B i : String) : Prop where
  sub : mroIn K C (.ref D) = some true
  meth : ks_superIn K C D "__init__" = some (some (.builtin i))
  subB : subIn K (.ref C) (.type B) = some true
  no : findIn K (.ref C) "code" = some none
/-- the promise of D.__init__(self, code) -/
def spSup (K : Frag) (D : Addr) : Sp := fun vs H Q _ => ∃ (a C : Addr) (v : V), vs = [.ref a, v] ∧ H a = some (exo a C none) ∧ OexC K C ∧ SupC K D C "ValueError" "ValueError.__init__" ∧ ∀ dx, H dx = none → dx ≠ a → Q .non (upd (upd H dx (exd dx [("code", v)])) a (exo a C (some dx)))
/-- the frame of a def with the cell __class__ -/
def cxS (CX : CXT) (P : Program) (w : World) (K : Frag) (mg : Str → Option Value) (base : Heap) (N : List Str) (qual : Str) (scope : Scope) (f cc : Addr) (cd : Value) (A : Around) (outer : List Env) (s : Shared) (H : Hp) (E : XK) : Cx where
  prog := P
  w := w
  K := K
  mg := mg
  base := base
  A := A.deeper (ksEnv qual scope s.heap.objs.size f cd cc)
  N := N
  s_0 := s
  H_0 := H
  env := ksEnv qual scope s.heap.objs.size f cd cc
  outer := outer
  stack := ksEnv qual scope s.heap.objs.size f cd cc :: outer
  ex := []
  calm := true
  fn := fun _ => false
  pn := []
  xe := fun e s' => wpAny (model P w) (A.deeper (ksEnv qual scope s.heap.objs.size f cd cc)) (leaving (ksEnv qual scope s.heap.objs.size f cd cc) e) (fun _ s'' => CX outer H s E e s'') (fun e' s'' => CX outer H s E e' s'') s'
structure ScS (scope : Scope) (x y : Str) : Prop where
  kind : scope.kind = .function
  co : scope.isCoroutine = false
  gen : scope.isGenerator = false
  sup : scope.names.lookup ("super" : Str) = some NameKind.globalImplicit
  cls : scope.names.lookup ("__class__" : Str) = some NameKind.free
  px : scope.names.lookup x = some NameKind.local
  py : scope.names.lookup y = some NameKind.local
  nocell : ∀ z ∈ scope.names, z.2 ≠ .cell
  free : ∀ z ∈ scope.names, z.2 = .free → z.1 = "__class__"
  ne : x ≠ y
theorem inv_sup {CX : CXT} {P : Program} {w : World} {K : Frag} {mg : Str → Option Value} {base : Heap} {qual : Str} {scope : Scope} {f cc D : Addr} {cd : Value} {A : Around} {outer : List Env} {s : Shared} {H : Hp} {E : XK} {x y : Str} {a b : V} {u v : Value} {h₀ : Heap} {tk : Nat} {cl : Value} {cld : Option Addr} {csl : Array (Option Value)}
    (S : ScS scope x y) (hd : A.handled = none) (e0 : Env0 P w K mg base A outer s H) (ra : RelV a u) (rb : RelV b v) (hcell : K.lookup cc = some ⟨cl, cld, .cell (some (.ref D)), csl⟩)
    (ns : h₀.Ns s.heap.objs.size fun z => [(x, u), (y, v)].reverse.lookup z) (kp : ∀ b o, s.heap.get? b = some o → h₀.get? b = some o) :
    Inv (cxS CX P w K mg base [x, y] qual scope f cc cd A outer s H E) [] [some a, some b] H { s with heap := h₀, toks := tk } := by
  have only : ∀ {z c}, (cxS CX P w K mg base [x, y] qual scope f cc cd A outer s H E).env.cells.lookup z = some c → z = "__class__" ∧ c = cc := fun {z c} h => by
    have h : [(("__class__" : Str), cc)].lookup z = some c := h
    by_cases e : z = "__class__"
    · subst e
      simp [List.lookup] at h
      exact ⟨rfl, h.symm⟩
    · have : (z == ("__class__" : Str)) = false := by simpa using e
      simp [List.lookup, this] at h
  have nf : ∀ {z}, scope.names.lookup z = some .cell ∨ scope.names.lookup z = some .free → z = "__class__" := fun {z} h => by
    rcases h with h | h
    · exact absurd rfl (S.nocell _ (PySem.mem_of_lookup h))
    · exact S.free _ (PySem.mem_of_lookup h) rfl
  have hcc : base.get? cc = some ⟨cl, cld, .cell (some (.ref D)), csl⟩ := e0.mod.kin _ _ hcell
  have noA : ∀ b : Addr, b ∉ (cxS CX P w K mg base [x, y] qual scope f cc cd A outer s H E).ex := fun b z => absurd (show b ∈ ([] : List Addr) from z) (by simp)
  refine ⟨⟨e0.mod, S.kind, rfl, rfl, Nat.le_refl _, fun z z' c h1 h2 => ?_, fun z hz => ?_, fun z c h _ => Bool.noConfusion h, fun _ => hd, Around.frames_deeper e0.frames, .inr ⟨rfl, rfl⟩, fun b z => absurd z (noA b), e0.bs, e0.bsz, fun b _ _ => noA b, fun b z => absurd z (noA b), e0.funs, e0.frf⟩,
    rfl, e0.bare, Un.kept kp, ⟨_, ns, fun i z t h1 h2 h3 => ?_⟩, fun z c h => ?_, e0.hok.fresh (Nat.le_refl _), fun z c h => ?_, fun p hp => absurd (show p ∈ ([] : List (Addr × Obj)) from hp) (by simp), e0.hok.kept kp, rfl⟩
  · rw [(only h1).1, (only h2).1]
  · have e := nf hz
    subst e
    exact ⟨cc, by show [(("__class__" : Str), cc)].lookup _ = _; simp [List.lookup]⟩
  · match i, h1, h2 with
    | 0, h1, h2 =>
      cases h1; cases h2
      refine ⟨u, ra, .inl ⟨S.px, ?_⟩⟩
      show [(y, v), (x, u)].lookup x = some u
      have : (x == y) = false := by simpa using S.ne
      simp [List.lookup, this]
    | 1, h1, h2 =>
      cases h1; cases h2
      refine ⟨v, rb, .inl ⟨S.py, ?_⟩⟩
      show [(y, v), (x, u)].lookup y = some v
      simp [List.lookup]
    | i + 2, h1, h2 => simp at h2
  · obtain ⟨_, rfl⟩ := only h
    exact ⟨_, _, kp _ _ (e0.bs _ _ hcc).1, rfl⟩
  · obtain ⟨_, rfl⟩ := only h
    exact (e0.bs _ _ hcc).2

theorem fn_sup {CX : CXT} {P : Program} {w : World} {K : Frag} {mg : Str → Option Value} {base : Heap} {k : Nat} {qual : Str} {params : Arguments} {scope : Scope} {dV kV doc pm ct oc : Value} {an od : Option Addr} {osl : Array (Option Value)} {f cc cda D : Addr} {ar : Arg} {vs : Array Value} {file : Str} {tf : Tok} {ccl cl : Value} {cdd cld : Option Addr} {ccs csl : Array (Option Value)} {cdD : ClassData} {p0 p1 p2 p3 p4 p5 p6 p7 p8 ap : Pos} {y : Str}
    (lk : K.lookup f = some ⟨oc, od, .func (ksFn "__init__" qual params [.Expr (.Call (.Attribute (.Call (.Name "super" p0) [] [] p1) "__init__" ap) [.Name y p2] [] p3) p4, .Assign [.Attribute (.Name ar.arg p5) "code" p6] (.Name y p7) p8] scope dV kV doc pm an (.ref cda) ct cc), osl⟩)
    (hcd : codeIn K (.ref cda) qual = true) (hp : (params.posonlyargs ++ params.args).head? = some ar) (S : ScS scope ar.arg y)
    (hcode : K.lookup cda = some ⟨ccl, cdd, .fields vs, ccs⟩) (hvs : vs[2]? = some (.str file tf)) (hfile : ((P.main.file : Str) == file) = true)
    (hcell : K.lookup cc = some ⟨cl, cld, .cell (some (.ref D)), csl⟩) (hD : clsIn K D = some cdD) (hsup : mg "super" = none) (ho : nsIn K cStatics "thirdparty.any" = some none)
    (htop : (P.main.scope.names.lookup ("super" : Str)).isSome = false) {pl : Sem Bool} (hev : ∀ env : Env, eval (.Call (.Attribute (.Call (.Name "super" p0) [] [] p1) "__init__" ap) [.Name y p2] [] p3) env = (do
      let ov ← attributeBase (.Call (.Name "super" p0) [] [] p1) "__init__" env (eval (.Call (.Name "super" p0) [] [] p1) env)
      standAt ap.atName
      let (f, first) ← holding [ov] (getMethod ov "__init__" pl)
      callWith p3 f first (backTo p3 (starEach [.Name y p2] env)) [])) (hdy : (y == ("__debug__" : Str)) = false) (hdx : (ar.arg == ("__debug__" : Str)) = false) (hcy : (y == ("__classdict__" : Str)) = false) (hcx : (ar.arg == ("__classdict__" : Str)) = false) :
    FnOk P w K mg base CX (k + 1) f (ksFn "__init__" qual params [.Expr (.Call (.Attribute (.Call (.Name "super" p0) [] [] p1) "__init__" ap) [.Name y p2] [] p3) p4, .Assign [.Attribute (.Name ar.arg p5) "code" p6] (.Name y p7) p8] scope dV kV doc pm an (.ref cda) ct cc) [ar.arg, y] (spSup K D) := by
  refine ⟨fun vs H Q E h => by obtain ⟨a, C, v, e, _⟩ := h; rw [e]; rfl, fun A outer s H args us vs' Q E hr e0 hb r hsp => ?_⟩
  obtain ⟨a, C, v, rfl, ea, T, SC, hq⟩ := hsp
  obtain ⟨ua, uv, rfl⟩ : ∃ ua uv, us = [ua, uv] := by
    cases r with
    | cons r1 r2 => cases r2 with
      | cons r3 r4 => cases r4; exact ⟨_, _, rfl⟩
  have ra : RelV (.ref a) ua := by cases r with | cons r1 r2 => exact r1
  have rv : RelV v uv := by cases r with | cons r1 r2 => cases r2 with | cons r3 r4 => exact r3
  obtain rfl : ua = Value.ref a := ra
  have KX : K.In s.heap := e0.mod.kin.keeps fun b o e => (e0.bs b o e).1
  have lim : s.heap.NoLimit := e0.mod.nolimit.keeps fun b o e => (e0.bs b o e).1
  refine ks_codeAny_call_defAt (binds := [(ar.arg, .ref a), (y, uv)]) hr.depth (KX _ _ lk) rfl lim (codeRec_of KX hcd) rfl hb S.nocell (fun x hx => ?_) (fun h₀ hns kp => ?_) S.co S.gen S.kind
  · simp only [List.mem_cons, List.not_mem_nil, or_false] at hx
    rcases hx with rfl | rfl
    · exact S.px
    · exact S.py
  have I : Inv (cxS CX P w K mg base [ar.arg, y] qual scope f cc (.ref cda) A outer s H E) [] [some (.ref a), some v] H { s with heap := h₀, toks := s.toks + 2 } := inv_sup (tk := s.toks + 2) S hr.hd e0 rfl rv hcell hns kp
  let X : Cx := cxS CX P w K mg base [ar.arg, y] qual scope f cc (.ref cda) A outer s H E
  have I : Inv X [] [some (.ref a), some v] H { s with heap := h₀, toks := s.toks + 2 } := I
  have XK : K.In h₀ := I.kIn
  obtain ⟨mb, hmb, hbb⟩ := e0.mod.blt
  obtain ⟨t0, hex⟩ := exo_at I.hok ea
  obtain ⟨oD, hD1, hD2⟩ : ∃ oD, h₀.get? D = some oD ∧ oD.data = .cls cdD := by
    unfold clsIn at hD
    split at hD
    · rename_i c d cd' sl ho
      cases hD
      exact ⟨_, XK _ _ ho, rfl⟩
    · cases hD
  have done : ∀ {s' : Shared}, Inv X [] [some (.ref a), some v] H s' → wpAny (model P w) X.A (execs [.Assign [.Attribute (.Name ar.arg p5) "code" p6] (.Name y p7) p8] X.env) (fun fl s' => CR CX outer P w H s Q E (.ok (.ret (match fl with | .ret v => v | _ => .none))) s') X.xe s' := fun {s'} J => by
    have hw : PSs X [.Assign [.Attribute (.Name ar.arg p5) "code" p6] (.Name y p7) p8] (tOst X.K "code" (tVar 0) (tVar 1)) := pss_one (ps_ost (pe_var (i := 0) rfl (.inl S.px) hdx hcx) (pe_var (i := 1) rfl (.inl S.py) hdy hcy))
    refine wpAny_mono (hw.run [] s' _ H { nx := fun _ H' => Q .non H', rt := Q } J ⟨v, rfl, .ref a, rfl, a, C, rfl, T, SC.no, .inl ⟨ea, fun dx n1 n2 => hq dx n1 n2⟩⟩) (fun fl s' hs => ?_) fun e s' hs => hs
    have fin : ∀ {σ' : L2.St} {H' : Hp} {v : V} {u : Value}, Inv X [] σ' H' s' → RelV v u → Q v H' → CE outer P w H s Q u s' := fun {σ' H' v u} J rv q => ⟨v, H', J.os, J.bare, J.base, J.hok, rv, q⟩
    cases fl with
    | ret u =>
      obtain ⟨v, σ', H', J, rv, q⟩ := hs
      exact fin J rv q
    | next =>
      obtain ⟨σ', H', J, q⟩ := hs
      exact fin (v := V.non) (u := Value.none) J rfl q
    | brk => obtain ⟨_, _, _, q⟩ := hs; exact False.elim q
    | cont => obtain ⟨_, _, _, q⟩ := hs; exact False.elim q
  show _root_.PySem.wpAt (model P w) (A.deeper (ksEnv qual scope s.heap.objs.size f (.ref cda) cc)) (.func _ (ksEnv qual scope s.heap.objs.size f (.ref cda) cc)) (execs _ (ksEnv qual scope s.heap.objs.size f (.ref cda) cc)) _ X.xe _
  refine ks_wpAt_execs_cons (ks_wpAt_Expr_any (ks_wpAt_MethodCall (pl := pl) ?_ (hev _)) I.quiet rfl)
  refine ks_wpAt_super_base S.sup S.cls (by decide) rfl (XK _ _ lk) rfl hp rfl (XK _ _ hcode) rfl hvs hfile htop ?_
  refine ks_loadName_global S.kind S.sup (PySem.Calls.loadGlobal_builtin (I.mod.glob.keeps I.bk) hsup (hmb.keeps I.bk) ((hbb _ (by decide)).trans PyProof.Rows.Boot.«super») ⟨rfl, ?_⟩)
  refine wpAny_loadName_free S.kind S.cls rfl ⟨_, XK _ _ hcell, rfl⟩ ?_
  refine wpAny_loadName_local S.kind S.px hns (v := .ref a) ?_ ?_
  · show [(y, uv), (ar.arg, Value.ref a)].lookup ar.arg = some _
    have : (ar.arg == y) = false := by simpa using S.ne
    simp [List.lookup, this]
  refine ks_wpAny_isType_cls hD1 hD2 ⟨rfl, ?_⟩
  refine ks_wpAny_call_super hD1 hD2 hex rfl (fun c e => by cases e) (looks_mroIn XK SC.sub) fun h1 so1 k1 => ?_
  have I1 : Inv X [] [some (.ref a), some v] H { s with heap := h1, toks := s.toks + 2 } := I.kept k1
  have XK1 : K.In h1 := I1.kIn
  obtain ⟨nm, q, N, bs, bm, sn, sub, ab, col, dd, k0, k1', k2, k3, k5, hC, hbm⟩ := T.cls
  have hcl : clsIn K C = some { name := nm, bases := bs, mro := .ref C :: bm, ns := N, qualname := q, hasDict := true, slotNames := sn, subclasses := sub, abstract := ab, collection := col, hasDel := false } := by unfold clsIn; rw [hC] <;> rfl
  obtain ⟨t1, hex1⟩ := exo_at I1.hok ea
  have J0 : InstAt h1 a ({ cls := .ref C, dict := none, data := .fields #[.ref t1, .none, .none, .none, .bool false, .none] } : Obj) C none := ⟨hex1, rfl, rfl, trivial⟩
  have hI : Looks (model P w) h1 (isInstance (.ref a) (.type "ValueError")) true := J0.type.andThen (looks_subIn XK1 SC.subB)
  have hm := SC.meth
  unfold ks_superIn at hm
  rw [hcl] at hm
  refine kxs_getMethod kxs_ValueError so1 (looks_opaque XK1 ho) (l₀ := .ref C :: bm) (fun A Q E s k q => wpAny_bind ((looks_clsIn XK1 hcl) A _ E s k (wpAny_pure q))) rfl XK1 hm hI (ks_ne XK1 J0 hcl) (by decide) ?_
  have nF : ∀ b, h1.objs.size ≤ b → b ∉ X.fs := fun b hb => I1.nofs hb
  have I2 : Inv X [] [some (.ref a), some v] H { s with heap := h1.push (kxs_mw "ValueError.__init__" a), toks := s.toks + 2 + 1 } := I1.kept fun b o e => Heap.get?_push_of_some _ e
  have hgu : (h1.push (kxs_mw "ValueError.__init__" a)).get? h1.objs.size = some (kxs_mw "ValueError.__init__" a) := Heap.get?_push_size _ rfl
  have I3 : Inv X [(h1.objs.size, kxs_mw "ValueError.__init__" a)] [some (.ref a), some v] H { s with heap := h1.push (kxs_mw "ValueError.__init__" a), toks := s.toks + 2 + 1 } := I2.pins_of fun p hp => by
    rw [List.mem_singleton.mp hp]
    exact ⟨hgu, I1.hok.fresh (Nat.le_refl _), fun z => absurd I1.lt (by rw [← z]; exact Nat.lt_irrefl _), nF _ (Nat.le_refl _), fun v e => by cases e⟩
  have ha : PA X [.Name y p2] (tCons (tVar 1) tNil) := pa_cons (pe_var (i := 1) rfl (.inl S.py) hdy hcy) pa_nil
  refine kxs_callWith (i := "ValueError.__init__") (x := a) rfl (PySem.Calls.evalArgs_plain (thn (ha.run p3 _ _ _ H (fun vs H' => vs = [v] ∧ H' = H) I3 ⟨v, rfl, rfl, rfl⟩) fun us s1 ⟨vs, H1, I4, r1, e1, e2⟩ => ?_))
  subst e1
  subst e2
  have hp4 := I4.pin (h1.objs.size, kxs_mw "ValueError.__init__" a) (List.mem_append_right _ (List.mem_singleton.mpr rfl))
  refine ⟨hp4.1, ?_⟩
  obtain ⟨t2, hex2⟩ := exo_at I4.hok ea
  obtain ⟨hh, g, d, t, os⟩ := s1
  have hus : us.length ≤ sizeLine := by
    rw [← Paired.length r1, sizeLine_eq]
    show 1 ≤ _
    omega
  refine call_mw F.excBase_ValueError (I4.kIn _ _ hC) hex2 hp4.1 hus fun h' t3 k' hx => ?_
  have J := I4.write (t' := t) (x := a) (e := a) (o := exo a C none) (by rw [ea]; exact True.intro) (.inl rfl) k' ⟨_, hx⟩ (exo_ok hx)
  have eu : upd H1 a (exo a C none) = H1 := by
    funext b
    by_cases hb : b = a
    · rw [hb, upd_same, ea]
    · rw [upd_ne hb]
  rw [eu] at J
  exact wpAt_of_wpAny (done J.unpinned)
end XS

/-! what the written part must have for own exceptions: checks that the kernel runs -/
namespace XS
open PySem PySem.W PySem.Spec PyProof.Rows L2
theorem ba {a b : Bool} (h : (a && b) = true) : a = true ∧ b = true := Bool.and_eq_true_iff.mp h
abbrev selfS : Str := "self"
abbrev codeS : Str := "code"
theorem sup_bind (name qual : Str) (a b : Option Expr) (p q : Pos) (body : List Stmt) (scope : Scope) (kV doc pm cdv ct : Value) (an : Option Addr) (cc : Addr) (u v : Value) :
  bindArgs (ksFn name qual ⟨[], [⟨selfS, a, p⟩, ⟨codeS, b, q⟩], none, [], [], none, []⟩ body scope .none kV doc pm an cdv ct cc) ⟨[u, v], []⟩ = pure [(selfS, u), (codeS, v)] := by rfl
theorem sup_eval (p0 p1 p2 p3 ap : Pos) (h : (ap.endLine == p3.line) = true) (env : Env) : eval (.Call (.Attribute (.Call (.Name "super" p0) [] [] p1) "__init__" ap) [.Name codeS p2] [] p3) env = (do
      let ov ← attributeBase (.Call (.Name "super" p0) [] [] p1) "__init__" env (eval (.Call (.Name "super" p0) [] [] p1) env)
      standAt ap.atName
      let (f, first) ← holding [ov] (getMethod ov "__init__" (do return (← (pure (some false) : Sem (Option Bool))).getD true))
      callWith p3 f first (backTo p3 (starEach [.Name codeS p2] env)) []) := by
  have e : ∀ env ov n args kw, methodCall (.Call (.Name "super" p0) [] [] p1) "__init__" ap p3 env ov n args kw = (do
     let (f, first) ← holding [ov] (calleeOf (methodCallForm n args kw) (.Call (.Name "super" p0) [] [] p1) env ov "__init__")
     callWith p3 f first args kw) := fun env ov n args kw => by
    unfold methodCall methodCallPos
    rw [h]
    simp only [Bool.or_true, if_true, pure_bind]
  rw [show eval (.Call (.Attribute (.Call (.Name "super" p0) [] [] p1) "__init__" ap) [.Name codeS p2] [] p3) env = (do
     let ov ← attributeBase (.Call (.Name "super" p0) [] [] p1) "__init__" env (eval (.Call (.Name "super" p0) [] [] p1) env)
     standAt ap.atName
     methodCall (.Call (.Name "super" p0) [] [] p1) "__init__" ap p3 env ov 1 (backTo p3 (starEach [.Name codeS p2] env)) (backToKw p3 (keywordEach [] env))) from rfl]
  simp only [e]
  rfl
def scB (scope : Scope) : Bool :=
  decide (scope.kind = .function) && (!scope.isCoroutine && (!scope.isGenerator && (decide (scope.names.lookup ("super" : Str) = some NameKind.globalImplicit) && (decide (scope.names.lookup ("__class__" : Str) = some NameKind.free) && (decide (scope.names.lookup selfS = some NameKind.local) && (decide (scope.names.lookup codeS = some NameKind.local) && scope.names.all fun z => !decide (z.2 = .cell) && (!decide (z.2 = .free) || decide (z.1 = "__class__"))))))))
theorem scB_ok {scope : Scope} (h : scB scope = true) : ScS scope selfS codeS := by
  obtain ⟨h1, h⟩ := ba h
  obtain ⟨h2, h⟩ := ba h
  obtain ⟨h3, h⟩ := ba h
  obtain ⟨h4, h⟩ := ba h
  obtain ⟨h5, h⟩ := ba h
  obtain ⟨h6, h⟩ := ba h
  obtain ⟨h7, h⟩ := ba h
  refine ⟨of_decide_eq_true h1, by simpa using h2, by simpa using h3, of_decide_eq_true h4, of_decide_eq_true h5, of_decide_eq_true h6, of_decide_eq_true h7, fun z hz e => ?_, fun z hz e => ?_, by decide⟩
  · have := (ba (List.all_eq_true.mp h z hz)).1
    rw [e] at this; simp at this
  · have := (ba (List.all_eq_true.mp h z hz)).2
    rw [e] at this; simpa using this
/-- the shape of def __init__(self, code): super().__init__(code); self.code = code -/
def shapeB (K : Frag) (P : Program) (D : Addr) : Obj → Bool
  | ⟨_, _, .func ⟨name, qual, ⟨[], [⟨x, _, _⟩, ⟨y, _, _⟩], none, [], [], none, []⟩, .stmts [.Expr (.Call (.Attribute (.Call (.Name s _) [] [] _) m ap) [.Name y1 _] [] p3) _, .Assign [.Attribute (.Name x1 _) c _] (.Name y2 _) _], scope, gl, [(k0, cc)], .none, _, _, _, _, .ref cda, _, bl⟩, _⟩ =>
    decide (name = "__init__") && (decide (x = selfS) && (decide (y = codeS) && (decide (s = "super") && (decide (m = "__init__") && (decide (y1 = codeS) && (decide (x1 = selfS) && (decide (c = codeS) && (decide (y2 = codeS) && ((ap.endLine == p3.line) && (scB scope && (decide (gl = mainGlobals) && (decide (bl = builtinsNs) && (decide (k0 = "__class__") && (codeIn K (.ref cda) qual &&
    ((match K.lookup cda with
      | some ⟨_, _, .fields vs, _⟩ => (match (vs[2]? : Option Value) with | some (.str file _) => ((P.main.file : Str) == file) | _ => false)
      | _ => false) &&
    (match K.lookup cc with
      | some ⟨_, _, .cell (some (.ref D')), _⟩ => decide (D' = D)
      | _ => false))))))))))))))))
  | _ => false
def supB (K : Frag) (P : Program) (D : Addr) (f : Addr) : Bool := (match K.lookup f with | some o => shapeB K P D o | none => false) && ((clsIn K D).isSome && (decide (nsIn K cStatics "thirdparty.any" = some none) && !(P.main.scope.names.lookup ("super" : Str)).isSome))
theorem sup_ok {CX : CXT} {P : Program} {w : World} {K : Frag} {mg : Str → Option Value} {base : Heap} {k : Nat} {D f : Addr} (h : supB K P D f = true) (hsup : mg "super" = none) :
    ∃ fd, FnOk P w K mg base CX (k + 1) f fd [selfS, codeS] (spSup K D) ∧ Binds K fd [selfS, codeS] [] := by
  obtain ⟨h1, h⟩ := ba h
  obtain ⟨h2, h⟩ := ba h
  obtain ⟨h3, h4⟩ := ba h
  cases e : K.lookup f with
  | none => rw [e] at h1; cases h1
  | some o =>
    rw [e] at h1
    have h1 : shapeB K P D o = true := h1
    unfold shapeB at h1
    split at h1
    · rename_i oc od name qual x xa xp y ya yp s p0 p1 m ap y1 p2 p3 p4 x1 p5 c p6 y2 p7 p8 scope gl k0 cc kV doc pm an cda ct bl osl
      obtain ⟨g1, h1⟩ := ba h1
      obtain ⟨g2, h1⟩ := ba h1
      obtain ⟨g3, h1⟩ := ba h1
      obtain ⟨g4, h1⟩ := ba h1
      obtain ⟨g5, h1⟩ := ba h1
      obtain ⟨g6, h1⟩ := ba h1
      obtain ⟨g7, h1⟩ := ba h1
      obtain ⟨g8, h1⟩ := ba h1
      obtain ⟨g9, h1⟩ := ba h1
      obtain ⟨g10, h1⟩ := ba h1
      obtain ⟨g11, h1⟩ := ba h1
      obtain ⟨g12, h1⟩ := ba h1
      obtain ⟨g13, h1⟩ := ba h1
      obtain ⟨g14, h1⟩ := ba h1
      obtain ⟨g15, h1⟩ := ba h1
      obtain ⟨g16, g17⟩ := ba h1
      have g1 := of_decide_eq_true g1
      have g2 := of_decide_eq_true g2
      have g3 := of_decide_eq_true g3
      have g4 := of_decide_eq_true g4
      have g5 := of_decide_eq_true g5
      have g6 := of_decide_eq_true g6
      have g7 := of_decide_eq_true g7
      have g8 := of_decide_eq_true g8
      have g9 := of_decide_eq_true g9
      have g12 := of_decide_eq_true g12
      have g13 := of_decide_eq_true g13
      have g14 := of_decide_eq_true g14
      subst g1 g2 g3 g4 g5 g6 g7 g8 g9 g12 g13 g14
      obtain ⟨cdD, hD⟩ := Option.isSome_iff_exists.mp h2
      split at g16
      · rename_i ccl cdd vs ccs hcode
        split at g16
        · rename_i file tf hvs
          split at g17
          · rename_i cl cld D' csl hcell
            have g17 := of_decide_eq_true g17
            subst g17
            exact ⟨_, fn_sup (ar := ⟨selfS, _, _⟩) (y := codeS) e g15 rfl (scB_ok g11) hcode hvs g16 hcell hD hsup (of_decide_eq_true h3) (by simpa using h4) (sup_eval _ _ _ _ _ g10) (by decide) (show (selfS == ("__debug__" : Str)) = false by decide) (by decide) (show (selfS == ("__classdict__" : Str)) = false by decide), Binds.all fun us hl => match us, hl with | [_, _], _ => sup_bind _ _ _ _ _ _ _ _ _ _ _ _ _ _ _ _ _⟩
          · cases g17
        · cases g16
      · cases g16
    · cases h1
end XS

/-! own exceptions: made, raised -/
namespace FX
open PySem PySem.Spec PyProof.Rows L2 RZ PX XS
variable [Tbs]
/-! ### checks -/
def oexB (K : PySem.W.Frag) (C : Addr) : Bool := (match K.lookup C with
  | some ⟨.type "type", _, .cls cd, sl⟩ => (match cd.mro, sl.toList with
    | .ref C' :: bm, [_, _, _, _, some (.builtin n), _] => C' == C && (n == "ValueError.__new__" && (!cd.hasDel && (cd.hasDict && PySem.HandSPX.refsVE bm)))
    | _, _ => false)
  | _ => false) && (decide (PySem.W.findIn K (.ref C) "__setattr__" = some (some (.builtin "object.__setattr__"))) && (decide (PySem.W.subIn K (.ref C) (.type "BaseException") = some true) && (decide (PySem.W.typeIn K (.ref C) = some (.type "type")) && PySem.W.keepIn K (.ref C))))
theorem oex_ok {K : PySem.W.Frag} {C : Addr} (h : oexB K C = true) : OexC K C := by
  obtain ⟨q, h⟩ := XS.ba h
  obtain ⟨h2, h⟩ := XS.ba h
  obtain ⟨h3, h⟩ := XS.ba h
  obtain ⟨h4, h5⟩ := XS.ba h
  refine ⟨?_, of_decide_eq_true h2, of_decide_eq_true h3, of_decide_eq_true h4, h5⟩
  split at q
  · rename_i dd cd sl ho
    split at q
    · rename_i C' bm k0 k1 k2 k3 n k5 hm hs
      simp only [Bool.and_eq_true, beq_iff_eq, Bool.not_eq_true'] at q
      obtain ⟨rfl, rfl, hdel, hdic, hr⟩ := q
      obtain ⟨nm, bs, mro, ns, qn, hd, sn, sub, ab, col, del⟩ := cd
      dsimp only at hm hdel hdic
      subst hm hdel hdic
      have hsl : sl = #[k0, k1, k2, k3, some (.builtin "ValueError.__new__"), k5] := by
        obtain ⟨l⟩ := sl
        simp only at hs
        rw [hs]
      subst hsl
      exact ⟨nm, qn, ns, bs, bm, sn, sub, ab, col, dd, k0, k1, k2, k3, k5, ho, hr⟩
    · cases q
  · cases q
def supcB (K : PySem.W.Frag) (D C : Addr) : Bool := decide (PySem.W.mroIn K C (.ref D) = some true) && (decide (PySem.W.ks_superIn K C D "__init__" = some (some (.builtin "ValueError.__init__"))) && (decide (PySem.W.subIn K (.ref C) (.type "ValueError") = some true) && decide (PySem.W.findIn K (.ref C) "code" = some none)))
theorem supc_ok {K : PySem.W.Frag} {D C : Addr} (h : supcB K D C = true) : SupC K D C "ValueError" "ValueError.__init__" := by
  obtain ⟨h1, h⟩ := XS.ba h
  obtain ⟨h2, h⟩ := XS.ba h
  obtain ⟨h3, h4⟩ := XS.ba h
  exact ⟨of_decide_eq_true h1, of_decide_eq_true h2, of_decide_eq_true h3, of_decide_eq_true h4⟩
/-! ### D.__init__(self, ..) -/
section
variable {X : Cx} {k : Nat} {x m : Str} {p1 p2 pos : Pos} {e : Expr} {es : List Expr} {t : TA} {E : XK} {D f : Addr} {fd : FuncData} {ps : List Str} {sp : Sp}
/-- the def under a class's name stands as a plain function -/
structure CFn (K : PySem.W.Frag) (D : Addr) (m : Str) (f : Addr) : Prop where
  ga : PySem.W.specialIn K (.ref D) "__getattribute__" = some (some (.builtin "type.__getattribute__"))
  rd : PySem.W.readsIn K D (.type "type") = true
  fc : PySem.W.findCls K (.ref D) (.type "type") m = some (.val (.ref f))
  kp : PySem.W.keepIn K (.ref f) = true
theorem pe_cfn {pl : Sem Bool} (c : CFn X.K D m f) (F : FnOk X.prog X.w X.K X.mg X.base (L2N.CX X.prog X.w) k f fd ps sp) (hr : Room k X.A) (hb : Binds X.K fd ps []) (hx : Passes (L2N.CX X.prog X.w) X E) (hg : Gl X x) (hm : X.mg x = some (.ref D)) (ha : PA X (e :: es) t)
    (hdb : (x == ("__debug__" : Str)) = false := by decide) (hst : starEach (e :: es) X.env = (false, eval e X.env) :: starEach es X.env := by rfl) (hpl : (backTo pos (starEach es X.env)).any (·.1) = false := by rfl)
    (ht : eval (.Call (.Attribute (.Name x p1) m p2) (e :: es) [] pos) X.env = (do
      let ov ← eval (.Name x p1) X.env
      standAt p2.atName
      let (f, first) ← holding [ov] (getMethod ov m pl)
      callWith pos f first (backTo pos (starEach (e :: es) X.env)) (backToKw pos (keywordEach [] X.env))) := by rfl) :
    PE X (.Call (.Attribute (.Name x p1) m p2) (e :: es) [] pos) (tCall sp [] E t) := by
  refine ⟨fun pins s σ H Q I h => ?_⟩
  refine PySem.W.methodCall_KW (pl := pl) (ld_glob I hg hm ?_ hdb) ht
  refine PySem.W.method_cls I.kIn c.ga (PySem.W.cls_value I.kIn c.rd c.fc rfl ?_)
  refine PySem.W.callWith_K (first := []) (h₀ := X.base) I.ok.mod.kin c.kp (thn (ha.run pos pins _ σ H _ (I.tok _) h) fun us s2 ⟨vs, H2, I2, r, q2⟩ => ⟨I2.kIn, ?_⟩) hst hpl
  exact run_fn (us := us) (vs := vs) F hr hb .nil hx I2 r q2
end
/-! ### the promise of an own exception's __init__ -/
def spX (K : PySem.W.Frag) (c : Str) (code : List Nat) (ns : List Str) : Sp := fun vs H Q _ => ∃ (a : Addr) (ws : List V), vs = .ref a :: ws ∧ ws.length = ns.length ∧ H a = some (exo a (He.ga K c) none) ∧
  ∀ (dx : Addr) (H' : Hp), H dx = none → dx ≠ a → H' a = some (exo a (He.ga K c) (some dx)) → H' dx = some (exd dx ((ns.zip ws).reverse ++ [(("code" : Str), V.str (SX.S code))])) → (∀ b, b ≠ a → b ≠ dx → H' b = H b) → Q .non H'
/-- how an own exception stands behind the top: D its base, f0 the base's __init__ -/
structure StoodX (K : PySem.W.Frag) (mg : Str → Option Value) (P : Program) (d c : Str) (st : Stmt) (ns : List Str) : Prop where
  fn : ∃ fd, FunD K "__init__" (c ++ ".__init__") (defArgs st) (defBody st) (defScope st) [] [] (He.ma K (He.ga K c) "__init__") fd
  gl : mg c = some (.ref (He.ga K c))
  gd : mg d = some (.ref (He.ga K d))
  sup : mg "super" = none
  oex : OexC K (He.ga K c)
  supc : SupC K (He.ga K d) (He.ga K c) "ValueError" "ValueError.__init__"
  supb : supB K P (He.ga K d) (He.ma K (He.ga K d) "__init__") = true
  cfn : CFn K (He.ga K d) "__init__" (He.ma K (He.ga K d) "__init__")
  ini : PySem.W.findIn K (.ref (He.ga K c)) "__init__" = some (some (.ref (He.ma K (He.ga K c) "__init__")))
  ty : PySem.W.typeIn K (.ref (He.ma K (He.ga K c) "__init__")) = some (.type "function")
  no : ∀ f ∈ ns, PySem.W.findIn K (.ref (He.ga K c)) f = some none
  xf : XfC K (He.ga K c)
structure HasX (P : Program) (w : World) (K : PySem.W.Frag) (mg : Str → Option Value) (base : Heap) (c : Str) (k : Nat) (code : List Nat) (ns : List Str) : Prop where
  ex : ∃ fd, FnOk P w K mg base (L2N.CX P w) k (He.ma K (He.ga K c) "__init__") fd ("self" :: ns) (spX K c code ns) ∧ Binds K fd ("self" :: ns) []
  gl : mg c = some (.ref (He.ga K c))
  oex : OexC K (He.ga K c)
  ini : PySem.W.findIn K (.ref (He.ga K c)) "__init__" = some (some (.ref (He.ma K (He.ga K c) "__init__")))
  ty : PySem.W.typeIn K (.ref (He.ma K (He.ga K c) "__init__")) = some (.type "function")
  xf : XfC K (He.ga K c)
/-- what the first row does -/
def tXi (K : PySem.W.Frag) (d : Str) (code : List Nat) : TE := tCall (spSup K (He.ga K d)) [] (fun _ _ _ => False) (tCons (tVar 0) (tCons (tC (.str (SX.S code))) tNil))
/-- the whole body -/
def tXb (K : PySem.W.Frag) (d : Str) (code : List Nat) (r : TS) : TS := tSeq (tDrop (tXi K d code)) r
section
variable {P : Program} {w : World} {K : PySem.W.Frag} {mg : Str → Option Value} {base : Heap} {d c : Str} {st : Stmt} {k : Nat} {code : List Nat} {f g : Str} {N : List Str}
theorem pe_xi {X : Cx} {p1 p2 p3 p4 pos : Pos} {i : Str} {tk : Nat} {pl : Sem Bool} (S : StoodX X.K X.mg X.prog d c st N) (hr : Room (k + 1) X.A) (hg : Gl X d) (hi : SX.S code = i) (hs : PE X (.Name "self" p3) (tVar 0))
    (hdb : (d == ("__debug__" : Str)) = false := by decide) (hst : starEach [.Name "self" p3, .Constant (.str i) tk p4] X.env = (false, eval (.Name "self" p3) X.env) :: starEach [.Constant (.str i) tk p4] X.env := by rfl) (hpl : (backTo pos (starEach [.Constant (.str i) tk p4] X.env)).any (·.1) = false := by rfl)
    (ht : eval (.Call (.Attribute (.Name d p1) "__init__" p2) [.Name "self" p3, .Constant (.str i) tk p4] [] pos) X.env = (do
      let ov ← eval (.Name d p1) X.env
      standAt p2.atName
      let (f, first) ← holding [ov] (getMethod ov "__init__" pl)
      callWith pos f first (backTo pos (starEach [.Name "self" p3, .Constant (.str i) tk p4] X.env)) (backToKw pos (keywordEach [] X.env))) := by rfl) :
    PE X (.Call (.Attribute (.Name d p1) "__init__" p2) [.Name "self" p3, .Constant (.str i) tk p4] [] pos) (tXi X.K d code) := by
  obtain ⟨fd, F, B⟩ := sup_ok (CX := L2N.CX X.prog X.w) (w := X.w) (base := X.base) (k := k) S.supb S.sup
  subst hi
  exact pe_cfn S.cfn F hr B passE0 hg S.gd (pa_cons hs (pa_cons pe_str pa_nil)) hdb hst hpl ht
/-- the base's part -/
theorem xi_run (S : StoodX K mg P d c st N) {a : Addr} {σ : L2.St} {H : Hp} {Q : VK} (h0 : σ[0]? = some (some (.ref a))) (e : H a = some (exo a (He.ga K c) none))
    (q : ∀ dx, H dx = none → dx ≠ a → Q .non (upd (upd H dx (exd dx [("code", .str (SX.S code))])) a (exo a (He.ga K c) (some dx)))) : tXi K d code σ H Q :=
  ⟨.ref a, h0, a, He.ga K c, .str (SX.S code), rfl, e, S.oex, S.supc, q⟩
/-- no field -/
theorem StoodX.ok0 (S : StoodX K mg P d c st []) (sc : FnScope N ["self"] (defScope st))
    (hb : ∀ (kV doc pm : Value) (an : Option Addr) (cdv ct : Value) (us : List Value), us.length = 1 → bindArgs (PySem.W.fnOf "__init__" (c ++ ".__init__") (defArgs st) (defBody st) (defScope st) .none kV doc pm an cdv ct) ⟨us, []⟩ = pure (([("self" : Str)] : List Str).zip us))
    (der : ∀ (fa : Addr) (cdv : Value) (A : Around) (outer : List Env) (sh : Shared) (H : Hp) (E : XK), Room k (A.deeper (envOfC (c ++ ".__init__") (defScope st) sh.heap.objs.size fa cdv)) →
      PSs (cxOf (L2N.CX P w) P w K mg base N (c ++ ".__init__") (defScope st) fa cdv A outer sh H E) (defBody st) (tDrop (tXi K d code))) : HasX P w K mg base c (k + 1) code [] := by
  obtain ⟨fd, F⟩ := S.fn
  refine ⟨⟨fd, ?_, F.bindsN hb⟩, S.gl, S.oex, S.ini, S.ty, S.xf⟩
  obtain ⟨oc, od, dV, kV, doc, pm, an, cdv, ct, osl, rfl, lk, hcd, hD, hK⟩ := F.ex
  refine fn_of lk hcd sc (fun vs H Q E ⟨a, ws, e, hl, _⟩ => by rw [e, List.length_cons, hl]; rfl) fun A outer sh H vs Q E hr hsp => ⟨_, der _ cdv A outer sh H E hr, ?_⟩
  obtain ⟨a, ws, rfl, hl, e, q⟩ := hsp
  obtain rfl := List.length_eq_zero_iff.mp hl
  refine xi_run S rfl e fun dx n1 n2 => q dx _ n1 n2 upd_same ?_ fun b h1 h2 => ?_
  · rw [upd_ne n2, upd_same]; rfl
  · rw [upd_ne h1, upd_ne h2]
/-- one field -/
theorem StoodX.ok1 (S : StoodX K mg P d c st [f]) (sc : FnScope N ["self", f] (defScope st))
    (hb : ∀ (kV doc pm : Value) (an : Option Addr) (cdv ct : Value) (us : List Value), us.length = 2 → bindArgs (PySem.W.fnOf "__init__" (c ++ ".__init__") (defArgs st) (defBody st) (defScope st) .none kV doc pm an cdv ct) ⟨us, []⟩ = pure (([("self" : Str), f] : List Str).zip us))
    (der : ∀ (fa : Addr) (cdv : Value) (A : Around) (outer : List Env) (sh : Shared) (H : Hp) (E : XK), Room k (A.deeper (envOfC (c ++ ".__init__") (defScope st) sh.heap.objs.size fa cdv)) →
      PSs (cxOf (L2N.CX P w) P w K mg base N (c ++ ".__init__") (defScope st) fa cdv A outer sh H E) (defBody st) (tXb K d code (tOst K f (tVar 0) (tVar 1)))) : HasX P w K mg base c (k + 1) code [f] := by
  obtain ⟨fd, F⟩ := S.fn
  refine ⟨⟨fd, ?_, F.bindsN hb⟩, S.gl, S.oex, S.ini, S.ty, S.xf⟩
  obtain ⟨oc, od, dV, kV, doc, pm, an, cdv, ct, osl, rfl, lk, hcd, hD, hK⟩ := F.ex
  refine fn_of lk hcd sc (fun vs H Q E ⟨a, ws, e, hl, _⟩ => by rw [e, List.length_cons, hl]; rfl) fun A outer sh H vs Q E hr hsp => ⟨_, der _ cdv A outer sh H E hr, ?_⟩
  obtain ⟨a, ws, rfl, hl, e, q⟩ := hsp
  match ws, hl with
  | [y], _ =>
    refine xi_run S rfl e fun dx n1 n2 => ⟨y, rfl, .ref a, rfl, a, He.ga K c, rfl, S.oex, S.no f (List.mem_cons_self ..), .inr ⟨dx, [("code", .str (SX.S code))], upd_same, by rw [upd_ne n2, upd_same], by simp, q dx _ n1 n2 ?_ upd_same fun b h1 h2 => ?_⟩⟩
    · rw [upd_ne (Ne.symm n2), upd_same]
    · rw [upd_ne h2, upd_ne h1, upd_ne h2]
/-- two fields -/
theorem StoodX.ok2 (S : StoodX K mg P d c st [f, g]) (sc : FnScope N ["self", f, g] (defScope st))
    (hb : ∀ (kV doc pm : Value) (an : Option Addr) (cdv ct : Value) (us : List Value), us.length = 3 → bindArgs (PySem.W.fnOf "__init__" (c ++ ".__init__") (defArgs st) (defBody st) (defScope st) .none kV doc pm an cdv ct) ⟨us, []⟩ = pure (([("self" : Str), f, g] : List Str).zip us))
    (der : ∀ (fa : Addr) (cdv : Value) (A : Around) (outer : List Env) (sh : Shared) (H : Hp) (E : XK), Room k (A.deeper (envOfC (c ++ ".__init__") (defScope st) sh.heap.objs.size fa cdv)) →
      PSs (cxOf (L2N.CX P w) P w K mg base N (c ++ ".__init__") (defScope st) fa cdv A outer sh H E) (defBody st) (tXb K d code (tSeq (tOst K f (tVar 0) (tVar 1)) (tOst K g (tVar 0) (tVar 2))))) : HasX P w K mg base c (k + 1) code [f, g] := by
  obtain ⟨fd, F⟩ := S.fn
  refine ⟨⟨fd, ?_, F.bindsN hb⟩, S.gl, S.oex, S.ini, S.ty, S.xf⟩
  obtain ⟨oc, od, dV, kV, doc, pm, an, cdv, ct, osl, rfl, lk, hcd, hD, hK⟩ := F.ex
  refine fn_of lk hcd sc (fun vs H Q E ⟨a, ws, e, hl, _⟩ => by rw [e, List.length_cons, hl]; rfl) fun A outer sh H vs Q E hr hsp => ⟨_, der _ cdv A outer sh H E hr, ?_⟩
  obtain ⟨a, ws, rfl, hl, e, q⟩ := hsp
  match ws, hl with
  | [y, z], _ =>
    refine xi_run S rfl e fun dx n1 n2 => ⟨y, rfl, .ref a, rfl, a, He.ga K c, rfl, S.oex, S.no f (List.mem_cons_self ..), .inr ⟨dx, [("code", .str (SX.S code))], upd_same, by rw [upd_ne n2, upd_same], by simp,
      ⟨z, rfl, .ref a, rfl, a, He.ga K c, rfl, S.oex, S.no g (List.mem_cons_of_mem _ (List.mem_cons_self ..)), .inr ⟨dx, [(f, y), ("code", .str (SX.S code))], ?_, upd_same, by simp, q dx _ n1 n2 ?_ upd_same fun b h1 h2 => ?_⟩⟩⟩⟩
    · rw [upd_ne (Ne.symm n2), upd_same]
    · rw [upd_ne (Ne.symm n2), upd_ne (Ne.symm n2), upd_same]
    · rw [upd_ne h2, upd_ne h2, upd_ne h1, upd_ne h2]
end
/-! ### made, raised: the pure reading -/
abbrev PMx := Ro → R Xn
structure SndM (C : Cc) (t : L2.St → Hp → XK → Prop) (m : PMx) : Prop where
  run : ∀ {ρ : Ro} {σ : L2.St} {F H : Hp} {Q : XK} {Qp : Xn → Ro → Prop} {E : EP}, Stt C ρ σ F H → wp (m ρ) Qp E → XOe C σ ρ F H E → (∀ e cls d ρ' F' H', Stp C σ ρ F H ρ' F' H' → RepX C.K e cls d F' H' → Qp e ρ' → Q cls d H') → t σ H Q
def mkXn (c : Str) (code : List Nat) (ns : List Str) (ps : List P) : Xn := ⟨c, ns.reverse ++ [("code" : Str)], ps.reverse ++ [.str code]⟩
def xMk (c : Str) (code : List Nat) (ns : List Str) (x : PAx) : PMx := fun ρ => (x ρ).bind fun ps ρ => (ofO (gd (ps.length = ns.length ∧ ps.length ≤ 900) ()) ρ).bind fun _ ρ => .ok (mkXn c code ns ps) ρ
theorem zip_rev {α β : Type} : ∀ {xs : List α} {ys : List β}, xs.length = ys.length → (xs.zip ys).reverse = xs.reverse.zip ys.reverse
  | [], [], _ => rfl
  | [], _ :: _, h => by cases h
  | _ :: _, [], h => by cases h
  | x :: xs, y :: ys, h => by
    have h : xs.length = ys.length := by simpa using h
    rw [List.zip_cons_cons, List.reverse_cons, zip_rev h, List.reverse_cons, List.reverse_cons, List.zip_append (by simpa using h)]
    rfl
theorem reps_rev {K : PySem.W.Frag} {F : Hp} : ∀ {ps : List P} {vs : List V}, Reps K ps vs F → Reps K ps.reverse vs.reverse F
  | [], _, h => by rw [show _ = [] from h]; rfl
  | p :: ps, _, ⟨v, ws, e, h1, h2⟩ => by rw [e, List.reverse_cons, List.reverse_cons]; exact reps_app (reps_rev h2) (reps_one h1)
theorem m_mk {C : Cc} {c : Str} {code : List Nat} {ns : List Str} {ta : TA} {x : PAx} (hx : SndA C ta x) : SndM C (tMkO (He.ga C.K c) (spX C.K c code ns) [] ta) (xMk c code ns x) := .mk fun {ρ σ F H Q Qp E} S h kx k => hx.run S (wp_b h) kx fun ps vs ρ1 F1 H1 s1 rs h => by
  obtain ⟨_, e, h⟩ := wp_o (wp_b h)
  obtain ⟨⟨hl, hz⟩, _⟩ := gd_some e
  have lv := reps_len rs
  refine ⟨by omega, fun a na => ⟨a, vs, by rw [List.append_nil], by omega, upd_same, fun dx H' n1 n2 e1 e2 e3 => ⟨rfl, dx, _, e1, e2, by rw [upd_ne n2] at n1; exact n1, ?_⟩⟩⟩
  rw [upd_ne n2] at n1
  have eH : upd (del H' a) dx (.xd ((ns.zip vs).reverse ++ [(("code" : Str), V.str (SX.S code))])) = upd H1 dx (.xd ((ns.zip vs).reverse ++ [(("code" : Str), V.str (SX.S code))])) := by
    funext b
    by_cases hb : b = dx
    · rw [hb, upd_same, upd_same]
    · rw [upd_ne hb, upd_ne hb]
      by_cases hb2 : b = a
      · rw [hb2, del_same, na]
      · rw [del_ne hb2, e3 b hb2 hb, upd_ne hb2]
  rw [eH]
  have nF : F1 dx = none := by
    cases q : F1 dx with
    | none => rfl
    | some o => have := s1.st.x.fh _ _ q; rw [n1] at this; cases this
  refine k (mkXn c code ns ps) _ _ ρ1 F1 _ (s1.trans (Stp.own s1.st n1)) ⟨rfl, dx, vs.reverse ++ [V.str (SX.S code)], rfl, ?_, nF, ?_, ?_⟩ h
  · rw [upd_same]
    show _ = some (HO.xd ((ns.reverse ++ [("code" : Str)]).zip (vs.reverse ++ [V.str (SX.S code)])))
    rw [List.zip_append (by rw [List.length_reverse, List.length_reverse]; omega), zip_rev (by omega)]
    rfl
  · show (ns.reverse ++ [("code" : Str)]).length = (vs.reverse ++ [V.str (SX.S code)]).length
    rw [List.length_append, List.length_append, List.length_reverse, List.length_reverse, ← lv, hl]; rfl
  · exact reps_app (reps_rev rs) (reps_one (p := .str code) rfl)
def sRaise (m : PMx) : PSx := fun ρ => (m ρ).st fun e ρ => .ex e ρ
theorem s_raise {C : Cc} {t : L2.St → Hp → XK → Prop} {m : PMx} (hm : SndM C t m) : SndS C (fun _ σ H => t σ H fun cls d H' => C.W cls d H') (sRaise m) := .mk fun {ρ σ F H D E} S h kx k => hm.run S (ws_s h) kx.e fun e cls d ρ' F' H' s r q => kx e ρ' σ cls d F' H' s.st r q
/-- the class is called: its object is made, its __init__ runs -/
theorem mk_run {X : Cx} {CX : CXT} {C fI : Addr} {k : Nat} {fd : FuncData} {ps : List Str} {sp : Sp} {pins : List (Addr × Obj)} {σ : L2.St} {H1 : Hp} {s1 : Shared} {Q : XK} {us : List Value} {vs : List V} (T : OexC X.K C) (iC : PySem.W.findIn X.K (.ref C) "__init__" = some (some (.ref fI))) (tI : PySem.W.typeIn X.K (.ref fI) = some (.type "function"))
    (F1 : FnOk X.prog X.w X.K X.mg X.base CX k fI fd ps sp) (hr : Room (k + 1) X.A) (hb : Binds X.K fd ps []) (hx : Passes CX X (fun _ _ _ => False)) (I1 : Inv X pins σ H1 s1) (r1 : Vals vs us)
    (hz : vs.length ≤ 1000 ∧ ∀ a, H1 a = none → sp (.ref a :: (vs ++ [])) (upd H1 a (exo a C none)) (fun v H2 => v = .non ∧ ∃ (d : Addr) (fs : List (Str × V)), H2 a = some (exo a C (some d)) ∧ H2 d = some (exd d fs) ∧ H1 d = none ∧ Q (.ref C) (some d) (upd (del H2 a) d (.xd fs))) (fun _ _ _ => False)) :
    wpAny (model X.prog X.w) X.A (call (.ref C) us) (L2N.MkP X pins σ Q) X.xe s1 := by
  obtain ⟨nm, q, N, bs, bm, sn, sub, ab, col, dd, k0, k1, k2, k3, k5, hC, hbm⟩ := T.cls
  obtain ⟨hz, q1⟩ := hz
  obtain ⟨hp, g, dr, tk, os⟩ := s1
  have up : hp.objs.size ≤ hp.objs.size + 1 := Nat.le_succ _
  have new : H1 (hp.objs.size + 1) = none := I1.hok.fresh up
  have go := q1 (hp.objs.size + 1) new
  have kk : ∀ b o, hp.get? b = some o → ((hp.push (PySem.W.kdv_tup us)).push (PySem.HandSPX.excO C hp.objs.size)).get? b = some o := fun b o e => Heap.get?_push_of_some _ (Heap.get?_push_of_some _ e)
  have at1 : ((hp.push (PySem.W.kdv_tup us)).push (PySem.HandSPX.excO C hp.objs.size)).get? (hp.objs.size + 1) = some (PySem.HandSPX.excO C hp.objs.size) := by heap_get
  have J : Inv X pins σ (upd H1 (hp.objs.size + 1) (exo (hp.objs.size + 1) C none)) ⟨(hp.push (PySem.W.kdv_tup us)).push (PySem.HandSPX.excO C hp.objs.size), g, dr, tk, os⟩ :=
    I1.laid (t' := tk) (h' := (hp.push (PySem.W.kdv_tup us)).push (PySem.HandSPX.excO C hp.objs.size)) (o := exo (hp.objs.size + 1) C none) (a := hp.objs.size + 1) kk up (exo_ok at1)
  have rr : Vals (V.ref (hp.objs.size + 1) :: (vs ++ [])) (Value.ref (hp.objs.size + 1) :: (us ++ [])) := .cons rfl (r1.append .nil)
  have ln : (Value.ref (hp.objs.size + 1) :: us ++ []).length = ps.length := by
    have e := rr.length
    rw [F1.len _ _ _ _ go] at e
    exact e.symm
  have lz : us.length ≤ sizeLine := by
    rw [← Paired.length r1, sizeLine_eq]
    omega
  have bt : BindsTo ⟨(hp.push (PySem.W.kdv_tup us)).push (PySem.HandSPX.excO C hp.objs.size), g, dr, tk, os⟩ fd ⟨Value.ref (hp.objs.size + 1) :: us, []⟩ (ps.zip (Value.ref (hp.objs.size + 1) :: (us ++ []))) := hb _ (Value.ref (hp.objs.size + 1) :: us) J.kIn ln
  refine wpAny_call (PySem.HandSPX.call_own F.excBase_ValueError (fun Y => PySem.HandSPX.refsVE_contains Y bm hbm) (I1.kIn _ _ hC) (PySem.W.looks_findIn I1.kIn iC) (fun self => PySem.W.bind_fn I1.kIn self tI) lz
    (codeAny_mono (F1.run _ X.stack _ _ ⟨Value.ref (hp.objs.size + 1) :: us, []⟩ (Value.ref (hp.objs.size + 1) :: (us ++ [])) _ _ (fun _ _ _ => False) (hr.make C us []) (J.env0.make C us []) bt rr go) fun r s' hq => ?_))
  match r, hq with
  | .error er, hq => exact hx pins σ _ _ er s' J hq
  | .ok (.ret u), ⟨v, H2, os2, bare2, un2, hok2, rv, ev, d, fs, ea, ed, hd1, q2⟩ =>
    subst ev
    obtain ⟨h2, g2, d2, t2, os'⟩ := s'
    obtain ⟨t0, G, JG, kG, ge, hoe, na⟩ := mk_end0 (d2 := d2) (t2 := t2) I1 up kk un2 hok2 os2 bare2 ea ed hd1
    exact ⟨rv, hp.objs.size + 1, _, _, ⟨G, g2, d2, t2, os'⟩, _, .ref C, some d, rfl, JG, kG, ge, hoe, ⟨rfl, rfl, fun vs e => by cases e; rfl⟩, rfl, rfl, na, rfl, bare2, raises_own T.exC T.tyC, q2⟩
theorem pmk_n {X : Cx} {CX : CXT} {x : Str} {C fI : Addr} {k : Nat} {fd : FuncData} {ps : List Str} {sp : Sp} {p pos : Pos} {e : Expr} {es : List Expr} {ta : TA} (T : OexC X.K C) (iC : PySem.W.findIn X.K (.ref C) "__init__" = some (some (.ref fI))) (tI : PySem.W.typeIn X.K (.ref fI) = some (.type "function"))
    (F1 : FnOk X.prog X.w X.K X.mg X.base CX k fI fd ps sp) (hr : Room (k + 1) X.A) (hb : Binds X.K fd ps []) (hx : Passes CX X (fun _ _ _ => False)) (hg : Gl X x) (hm : X.mg x = some (.ref C)) (ha : PA X (e :: es) ta)
    (hdb : (x == ("__debug__" : Str)) = false := by decide) (he : starEach (e :: es) X.env = (false, eval e X.env) :: starEach es X.env := by rfl) (hpl : (backTo pos (starEach es X.env)).any (·.1) = false := by rfl) :
    L2N.PMk X (.Call (.Name x p) (e :: es) [] pos) (tMkO C sp [] ta) := by
  intro pins s σ H Q I h
  refine wpAny_Call_Name_kw (ld_glob I hg hm ?_ hdb)
  exact PySem.W.callWith_K (h₀ := X.base) I.ok.mod.kin T.kC (thn (ha.run pos pins s σ H _ I h) fun us s1 ⟨vs, H1, I1, r1, hz⟩ => ⟨I1.kIn, mk_run T iC tI F1 hr hb hx I1 r1 hz⟩) he hpl
theorem pmk_x {X : Cx} {c : Str} {k : Nat} {code : List Nat} {ns : List Str} {p pos : Pos} {e : Expr} {es : List Expr} {ta : TA} (h : HasX X.prog X.w X.K X.mg X.base c k code ns) (hr : Room (k + 1) X.A) (hg : Gl X c) (ha : PA X (e :: es) ta)
    (hdb : (c == ("__debug__" : Str)) = false := by decide) (he : starEach (e :: es) X.env = (false, eval e X.env) :: starEach es X.env := by rfl) (hpl : (backTo pos (starEach es X.env)).any (·.1) = false := by rfl) :
    L2N.PMk X (.Call (.Name c p) (e :: es) [] pos) (tMkO (He.ga X.K c) (spX X.K c code ns) [] ta) := by
  obtain ⟨fd, F, b⟩ := h.ex
  exact pmk_n h.oex h.ini h.ty F hr b passE0 hg h.gl ha hdb he hpl
/-- C() -/
theorem pmk_x0 {X : Cx} {c : Str} {k : Nat} {code : List Nat} {p pos : Pos} (h : HasX X.prog X.w X.K X.mg X.base c k code []) (hr : Room (k + 1) X.A) (hg : Gl X c)
    (hdb : (c == ("__debug__" : Str)) = false := by decide) : L2N.PMk X (.Call (.Name c p) [] [] pos) (tMkO (He.ga X.K c) (spX X.K c code []) [] tNil) := by
  obtain ⟨fd, F, b⟩ := h.ex
  intro pins s σ H Q I h0
  refine wpAny_Call_Name_kw (ld_glob I hg h.gl ?_ hdb)
  refine PySem.W.callWith_K0 I.kIn h.oex.kC ?_
  exact mk_run h.oex h.ini h.ty F hr b passE0 I .nil h0
end FX

/-! a function value that captures cells: what its call does; the cells stand apart while it may be called -/
namespace LY
open PySem PySem.Spec PyProof.Rows L2 LamX
/-- an object that stands as it is -/
abbrev FzO (o : Obj) : HO := .frz o (.own 0)
abbrev SL := List (Addr × Obj)
/-- the things of S beside those of H -/
def add (H : Hp) (S : SL) : Hp := fun b => match S.lookup b with
  | some o => some (FzO o)
  | none => H b
def Fresh (H : Hp) (S : SL) : Prop := ∀ b o, S.lookup b = some o → H b = none
theorem add_in {H : Hp} {S : SL} {b : Addr} {o : Obj} (h : S.lookup b = some o) : add H S b = some (FzO o) := by unfold add; rw [h]
theorem add_out {H : Hp} {S : SL} {b : Addr} (h : S.lookup b = none) : add H S b = H b := by unfold add; rw [h]
theorem add_none {H : Hp} {S : SL} {b : Addr} (h : add H S b = none) : S.lookup b = none ∧ H b = none := by
  cases e : S.lookup b with
  | none => exact ⟨rfl, by rw [add_out e] at h; exact h⟩
  | some o => rw [add_in e] at h; cases h
theorem Fresh.out {H : Hp} {S : SL} (f : Fresh H S) {b : Addr} {u : HO} (h : H b = some u) : S.lookup b = none := by
  cases e : S.lookup b with
  | none => rfl
  | some o => rw [f b o e] at h; cases h
theorem Fresh.up {H : Hp} {S : SL} (f : Fresh H S) {b : Addr} {u : HO} (h : H b = some u) : add H S b = some u := by rw [add_out (f.out h)]; exact h
/-- without the things of S -/
def cut (H : Hp) (S : SL) : Hp := fun b => match S.lookup b with
  | some _ => none
  | none => H b
theorem cut_in {H : Hp} {S : SL} {b : Addr} {o : Obj} (h : S.lookup b = some o) : cut H S b = none := by unfold cut; rw [h]
theorem cut_out {H : Hp} {S : SL} {b : Addr} (h : S.lookup b = none) : cut H S b = H b := by unfold cut; rw [h]
theorem cut_fresh {H : Hp} {S : SL} : Fresh (cut H S) S := fun b o e => cut_in e
theorem add_cut {H : Hp} {S : SL} (h : ∀ b o, S.lookup b = some o → H b = some (FzO o)) : add (cut H S) S = H := by
  funext b
  cases e : S.lookup b with
  | none => rw [add_out e, cut_out e]
  | some o => rw [add_in e, h b o e]
theorem cut_add {H : Hp} {S : SL} (f : Fresh H S) : cut (add H S) S = H := by
  funext b
  cases e : S.lookup b with
  | none => rw [cut_out e, add_out e]
  | some o => rw [cut_in e, f b o e]
theorem cut_some {H : Hp} {S : SL} {b : Addr} {u : HO} (h : cut H S b = some u) : H b = some u := by
  cases e : S.lookup b with
  | none => rw [cut_out e] at h; exact h
  | some o => rw [cut_in e] at h; cases h
section
variable {P : Program} {w : World} {H H' : Hp} {h h' : Heap} {S : SL} {fs : List Addr}
theorem hok_add (x : HOk P w H h) (f : Fresh H S) (s : ∀ b o, S.lookup b = some o → h.get? b = some o) : HOk P w (add H S) h := fun b u e => by
  cases q : S.lookup b with
  | none =>
    rw [add_out q] at e
    exact (x b u e).stay (fun _ _ _ z => z) (fun _ z => f.up z) fun _ _ z => f.up z
  | some o =>
    rw [add_in q] at e
    cases e
    exact ⟨s b o q, o, s b o q⟩
theorem hok_cut (x : HOk P w H h) (f : ∀ b o, S.lookup b = some o → H b = some (FzO o)) : HOk P w (cut H S) h := fun b u e => by
  refine (x b u (cut_some e)).stay (fun _ _ _ z => z) (fun c z => ?_) fun c xs z => ?_
  · cases q : S.lookup c with
    | none => rw [cut_out q]; exact z
    | some o => rw [f c o q] at z; cases z
  · cases q : S.lookup c with
    | none => rw [cut_out q]; exact z
    | some o => rw [f c o q] at z; cases z
/-- a run with S apart, told without S -/
theorem un_cut (u : Un fs [] (add H S) (add H' S) h h') (f : Fresh H S) (f' : Fresh H' S) (s : ∀ b o, S.lookup b = some o → h.get? b = some o) (s' : ∀ b o, S.lookup b = some o → h'.get? b = some o) (nf : ∀ b o, S.lookup b = some o → b ∉ fs) : Un fs [] H H' h h' where
  keep b o e n hb hx := by
    cases q : S.lookup b with
    | none => exact u.keep b o e (by rw [add_out q]; exact n) hb hx
    | some o' => rw [s b o' q] at e; cases e; exact s' b _ q
  slot b o e n hb hx := by
    cases q : S.lookup b with
    | none => exact u.slot b o e (by rw [add_out q]; exact n) hb hx
    | some o' => exact absurd hb (nf b o' q)
  free b o e n hx := by
    cases q : S.lookup b with
    | none =>
      have := u.free b o e (by rw [add_out q]; exact n) hx
      rw [add_out q] at this; exact this
    | some o' => exact f' b o' q
  there b o e hx := u.there b o e hx
  tups b xs e := by
    have := u.tups b xs (f.up e)
    rw [add_out (f.out e)] at this; exact this
  frzs b o v e := by
    have := u.frzs b o v (f.up e)
    rw [add_out (f.out e)] at this; exact this
  tbls b ps e := by
    obtain ⟨m, this⟩ := u.tbls b ps (f.up e)
    rw [add_out (f.out e)] at this; exact ⟨m, this⟩
/-- a run without S, told with S -/
theorem un_add (u : Un fs [] H H' h h') (f : Fresh H S) (f' : Fresh H' S) : Un fs [] (add H S) (add H' S) h h' where
  keep b o e n hb hx := u.keep b o e (add_none n).2 hb hx
  slot b o e n hb hx := u.slot b o e (add_none n).2 hb hx
  free b o e n hx := by
    obtain ⟨n1, n2⟩ := add_none n
    rw [add_out n1]; exact u.free b o e n2 hx
  there b o e hx := u.there b o e hx
  tups b xs e := by
    cases q : S.lookup b with
    | none => rw [add_out q] at e; exact f'.up (u.tups b xs e)
    | some o => rw [add_in q] at e; cases e
  frzs b o v e := by
    cases q : S.lookup b with
    | none => rw [add_out q] at e; exact f'.up (u.frzs b o v e)
    | some o => rw [add_in q] at e ⊢; exact e
  tbls b ps e := by
    cases q : S.lookup b with
    | none => rw [add_out q] at e; obtain ⟨m, z⟩ := u.tbls b ps e; exact ⟨m, f'.up z⟩
    | some o => rw [add_in q] at e; cases e
theorem ub_add {B : Heap} (u : UB fs H H' h B h') (f : Fresh H S) (f' : Fresh H' S) : UB fs (add H S) (add H' S) h B h' where
  keep b o e n hb := u.keep b o e (add_none n).2 hb
  slot b o e hb := u.slot b o e hb
  free b o e n := by
    obtain ⟨n1, n2⟩ := add_none n
    rw [add_out n1]; exact u.free b o e n2
  there b o e hb := u.there b o e hb
  tups b xs e := by
    cases q : S.lookup b with
    | none => rw [add_out q] at e; exact f'.up (u.tups b xs e)
    | some o => rw [add_in q] at e; cases e
  frzs b o v e := by
    cases q : S.lookup b with
    | none => rw [add_out q] at e; exact f'.up (u.frzs b o v e)
    | some o => rw [add_in q] at e ⊢; exact e
  tbls b ps e := by
    cases q : S.lookup b with
    | none => rw [add_out q] at e; obtain ⟨m, z⟩ := u.tbls b ps e; exact ⟨m, f'.up z⟩
    | some o => rw [add_in q] at e; cases e
end
/-! ### what a call of it does -/
abbrev RD := XK → Hp → VK → Prop
def LamSem (P : Program) (w : World) (K : PySem.W.Frag) (mg : Str → Option Value) (base : Heap) (k : Nat) (f : Addr) (fo : Obj) (Pre : Hp → Prop) (S : SL) (tl : RD) : Prop :=
  ∀ (A : Around) (outer : List Env) (s : Shared) (Hm : Hp) (Q Q1 : VK) (E E1 : XK), Room k A → Env0 P w K mg base A outer s (add Hm S) → Fresh Hm S → Hm f = some (FzO fo) → Pre Hm →
    (∀ v H, Fresh H S → Q1 v H → Q v (add H S)) → (∀ cls d H, Fresh H S → E1 cls d H → E cls d (add H S)) → tl E1 Hm Q1 → codeAny (model P w) A (.call (.ref f) ⟨[], []⟩) (CR (L2N.CX P w) outer P w (add Hm S) s Q E) s
/-- the context of its body -/
def lamCy (P : Program) (w : World) (K : PySem.W.Frag) (mg : Str → Option Value) (base : Heap) (N : List Str) (q : Str) (scope : Scope) (cl : List (Str × Addr)) (f c' : Addr) (A : Around) (outer : List Env) (s : Shared) (H : Hp) (E : XK) : Cx :=
  { prog := P, w := w, K := K, mg := mg, base := base, A := A.deeper (PySem.W.envX q scope s.heap.objs.size f (.ref c') cl), N := N, s_0 := s, H_0 := H, env := PySem.W.envX q scope s.heap.objs.size f (.ref c') cl, outer := outer, stack := PySem.W.envX q scope s.heap.objs.size f (.ref c') cl :: outer, ex := [], fn := fun _ => false, calm := true, pn := [],
    xe := fun e s' => wpAny (model P w) (A.deeper (PySem.W.envX q scope s.heap.objs.size f (.ref c') cl)) (leaving (PySem.W.envX q scope s.heap.objs.size f (.ref c') cl) e) (fun _ s2 => L2N.CX P w outer H s E e s2) (fun e2 s2 => L2N.CX P w outer H s E e2 s2) s' }
theorem lamCy_takes {P : Program} {w : World} {K : PySem.W.Frag} {mg : Str → Option Value} {base : Heap} {N : List Str} {q : Str} {scope : Scope} {cl : List (Str × Addr)} {f c' : Addr} {A : Around} {outer : List Env} {s : Shared} {H : Hp} {E : XK} :
    L2N.Takes (lamCy P w K mg base N q scope cl f c' A outer s H E) (fun cls d _ H => E cls d H) := L2N.takes_of (X := lamCy P w K mg base N q scope cl f c' A outer s H E) rfl rfl rfl rfl
/-- the closure, and how the names in σ stand in its cells -/
structure ClOk (N : List Str) (σ : L2.St) (scope : Scope) (cl : List (Str × Addr)) (S : SL) : Prop where
  len : σ.length = N.length
  kind : scope.kind = .function
  co : scope.isCoroutine = false
  gen : scope.isGenerator = false
  own : ∀ y ∈ scope.names, y.2 ≠ .cell ∧ (y.2 = .local → y.1 ∉ N)
  has : ∀ y ∈ scope.names, y.2 = .free → ∃ c, cl.lookup y.1 = some c
  inj : ∀ x y c, cl.lookup x = some c → cl.lookup y = some c → x = y
  cel : ∀ x c, cl.lookup x = some c → ∃ o v, S.lookup c = some o ∧ o.data = .cell v
  val : ∀ (i : Nat) (y : Str) (v : V), N[i]? = some y → σ[i]? = some (some v) → scope.names.lookup y = some .free → ∃ c o u, cl.lookup y = some c ∧ S.lookup c = some o ∧ o.data = .cell (some u) ∧ RelV v u
section
variable {P : Program} {w : World} {K : PySem.W.Frag} {mg : Str → Option Value} {base : Heap} {N : List Str} {q : Str} {scope : Scope} {cl : List (Str × Addr)} {f c' : Addr} {A : Around} {outer : List Env} {s : Shared} {Hm : Hp} {E : XK} {σ : L2.St} {S : SL}
theorem env0_cut (e : Env0 P w K mg base A outer s (add Hm S)) (f : Fresh Hm S) : Env0 P w K mg base A outer s Hm :=
  ⟨e.frames, e.mod, fun b o h => ⟨(e.bs b o h).1, (add_none (e.bs b o h).2).2⟩, e.bsz, e.funs, fun b hb => (add_none (e.frf b hb)).2, by
    have := hok_cut (S := S) e.hok fun b o h => add_in h
    rw [cut_add f] at this
    exact this, e.bare⟩
theorem lam_inv (C : ClOk N σ scope cl S) (e0 : Env0 P w K mg base A outer s (add Hm S)) (fr : Fresh Hm S) (hd : A.handled = none) {h₁ : Heap} {tk : Nat} {binds : List (Str × Value)} (hns : h₁.Ns s.heap.objs.size fun y => binds.reverse.lookup y) (kp : ∀ b o, s.heap.get? b = some o → h₁.get? b = some o) :
    Inv (lamCy P w K mg base N q scope cl f c' A outer s Hm E) [] σ Hm { s with heap := h₁, toks := tk } := by
  have e1 := env0_cut e0 fr
  have at_ : ∀ {c o}, S.lookup c = some o → s.heap.get? c = some o := fun {c o} h => (e0.hok c _ (add_in h)).1
  have noA : ∀ b : Addr, b ∉ (lamCy P w K mg base N q scope cl f c' A outer s Hm E).ex := fun b z => absurd (show b ∈ ([] : List Addr) from z) (by simp)
  have hmem : ∀ {y k}, scope.names.lookup y = some k → (y, k) ∈ scope.names := fun h => PySem.mem_of_lookup h
  refine ⟨⟨e1.mod, C.kind, rfl, rfl, Nat.le_refl _, fun y z c e1 e2 => C.inj y z c e1 e2, fun y hy => ?_, fun y c z _ => ?_, fun _ => hd, Around.frames_deeper e1.frames, .inr ⟨rfl, rfl⟩, fun b z => absurd z (noA b), e1.bs, e1.bsz, fun b _ _ => noA b, fun b z => absurd z (noA b), e1.funs, e1.frf⟩,
    rfl, e1.bare, Un.kept kp, ⟨_, hns, fun i y v g1 g2 g3 => ?_⟩, fun y c h => ?_, e1.hok.fresh (Nat.le_refl _), fun y c h => ?_, fun p hp => absurd (show p ∈ ([] : List (Addr × Obj)) ++ [] from hp) (by simp), e1.hok.kept kp, C.len⟩
  · rcases (show scope.names.lookup y = some .cell ∨ scope.names.lookup y = some .free from hy) with hy | hy
    · exact absurd rfl (C.own _ (hmem hy)).1
    · exact C.has _ (hmem hy) rfl
  · exact Bool.noConfusion (show false = true from z)
  · rcases (show Vis scope y from g3) with k | k | k
    · exact absurd (List.mem_of_getElem? g1) ((C.own _ (hmem k)).2 rfl)
    · exact absurd rfl (C.own _ (hmem k)).1
    · obtain ⟨c, o, u, h1, h2, h3, h4⟩ := C.val i y v g1 g2 k
      exact ⟨u, h4, .inr ⟨.inr k, c, h1, o, kp _ _ (at_ h2), h3⟩⟩
  · obtain ⟨o, v, h1, h2⟩ := C.cel y c h
    exact ⟨v, o, kp _ _ (at_ h1), h2⟩
  · obtain ⟨o, v, h1, h2⟩ := C.cel y c h
    exact fr c o h1
theorem lam_sem {k : Nat} {params : Arguments} {body : Expr} {dV doc pm ctv : Value} {fo : Obj} {Pre : Hp → Prop} {binds : List (Str × Value)} {t : XK → TE} (C : ClOk N σ scope cl S)
    (hfo : fo.data = .func (PySem.W.kdv_fn "<lambda>" q params (.expr body) scope cl dV doc pm (.ref c') ctv)) (hcode : ∀ Hm, Pre Hm → Hm c' = some (CodeO c' q))
    (hbind : ∀ (s : Shared) (Hm : Hp), Pre Hm → (∀ b o, Hm b = some (FzO o) → s.heap.get? b = some o) → BindsTo s (PySem.W.kdv_fn "<lambda>" q params (.expr body) scope cl dV doc pm (.ref c') ctv) ⟨[], []⟩ binds)
    (hloc : ∀ y ∈ binds, scope.names.lookup y.1 = some .local)
    (hbody : ∀ (A : Around) (outer : List Env) (s : Shared) (H : Hp) (E : XK), Room k (A.deeper (PySem.W.envX q scope s.heap.objs.size f (.ref c') cl)) → PE (lamCy P w K mg base N q scope cl f c' A outer s H E) body (t E)) :
    LamSem P w K mg base (k + 1) f fo Pre S (fun E H Q => t E σ H Q) := by
  intro A outer s Hm Q Q1 E E1 hr e0 fr hf hp hQ hE ht
  have hc := hcode Hm hp
  have e1 := env0_cut e0 fr
  have of1 : s.heap.get? f = some fo := (e1.hok f _ hf).1
  obtain ⟨⟨oc, vs, tt, hoc, hdc, hvc⟩, _, _⟩ := e1.hok c' _ hc
  have lim : s.heap.NoLimit := e1.mod.nolimit.keeps fun b o e => (e1.bs b o e).1
  have at_ : ∀ {c o}, S.lookup c = some o → s.heap.get? c = some o := fun {c o} h => (e0.hok c _ (add_in h)).1
  have nf : ∀ {c o}, S.lookup c = some o → c ∉ frs outer := fun {c o} h z => by
    have := e0.frf c z
    rw [add_in h] at this; cases this
  refine PySem.W.kla_callFunE hr.depth of1 hfo C.co C.gen rfl ⟨c', oc, vs, tt, rfl, hoc, hdc, hvc⟩ ?_
  refine hbind s Hm hp (fun b o e => (e1.hok b _ e).1) _ _ _ _ ?_
  refine wpAny_newFunctionEnv (fun y hy => (C.own y hy).1) hloc (fun h₁ hns hsb => ⟨lim.fresh _ hsb, ?_⟩) C.kind
  show codeAny _ _ (.expr body (PySem.W.envX q scope s.heap.objs.size f (.ref c') cl)) _ _
  have kp : ∀ b o, s.heap.get? b = some o → h₁.get? b = some o := fun b o e => hsb.extBut b o (Nat.ne_of_lt (Heap.lt_size e)) (Heap.get?_push_of_some _ e)
  have J := lam_inv (P := P) (w := w) (K := K) (mg := mg) (base := base) (N := N) (q := q) (f := f) (c' := c') (E := E1) (tk := s.toks + binds.length) C e0 fr hr.hd hns kp
  have fsh : ∀ {H2 : Hp} {fs : List Addr} {h2 : Heap}, Un fs [] Hm H2 s.heap h2 → Fresh H2 S := fun {H2 fs h2} u b o h => u.free b o (at_ h) (fr b o h) (by simp)
  refine PySem.W.kla_codeExpr (wpAny_mono ((hbody A outer s Hm E1 (hr.deeper _)).run [] _ _ Hm Q1 J ht) (fun v s' hq => ?_) fun e s' hq => ?_)
  · obtain ⟨w', H', J', rv, hq⟩ := hq
    have u := J'.base
    have f' := fsh u
    have stay : ∀ b o, S.lookup b = some o → s'.heap.get? b = some o := fun b o h => u.keep b o (at_ h) (fr b o h) (nf h) (fun z => by cases z)
    exact ⟨w', add H' S, J'.os, J'.bare, un_add u fr f', hok_add J'.hok f' stay, rv, hQ _ _ f' hq⟩
  · refine wpAny_mono (show wpAny _ _ _ _ _ s' from hq) (fun _ s2 z => ?_) (fun e2 s2 z => ?_)
    all_goals
      obtain ⟨a, B, H', cls, d, hu, fl, hok, ub, na, os, ag, he⟩ := z
      have f' : Fresh H' S := fun b o h => ub.free b o (at_ h) (fr b o h)
      have stay : ∀ b o, S.lookup b = some o → B.get? b = some o := fun b o h => ub.keep b o (at_ h) (fr b o h) (nf h)
      have nS : S.lookup a = none := by
        cases z : S.lookup a with
        | none => rfl
        | some o =>
          have h1 := stay a o z
          obtain ⟨_, hn, _⟩ := fl
          rw [hn] at h1; cases h1
      exact ⟨a, B, add H' S, cls, d, hu, fl, hok_add hok f' stay, ub_add ub fr f', by rw [add_out nS]; exact na, os, ag, hE _ _ _ f' he⟩
end
end LY


/-! try: .. except (A, B, C) as n: .. where what is raised is caught; a def that is told what its parameter, a function value, does -/
namespace LY
open PySem PySem.Spec PyProof.Rows L2 LamX
theorem fly_kept {B : Heap} {l : List Env} {e : Addr} {Z : Obj → Prop} {h h' : Heap} (x : HandSPX.FlyingZ B l e Z h) (k : ∀ b o, h.get? b = some o → h'.get? b = some o) : HandSPX.FlyingZ B l e Z h' := by
  obtain ⟨x1, x2, x3, oe, vs, T, oT, ts, y1, y2, y3, y4, y5, y6, y7, y8, y9⟩ := x
  exact ⟨fun b o g => k b o (x1 b o g), x2, x3.of_keeps fun b o g _ => ⟨o, k b o g, rfl⟩, oe, vs, T, oT, ts, k _ _ y1, y2, y3, y4, y5, y6, k _ _ y7, y8, y9⟩
theorem up_kept {h h' h2 : Heap} (u : h.UpToSlots h') (k : ∀ b o, h'.get? b = some o → h2.get? b = some o) : h.UpToSlots h2 := fun b o e n => by
  obtain ⟨sl, q⟩ := u b o e n
  exact ⟨sl, k _ _ q⟩
/-- what the clause wishes of an exception of the body: it is one of the classes of cs -/
def wAs3 (K : PySem.W.Frag) (cs : List Value) (i : Nat) (ts : Addr → Value → Option Addr → TS) (D : Ends) : WX := fun cls d σ H =>
  PySem.W.exmAny K cls cs = some true ∧ ∀ a, H a = none → ts a cls d { nx := fun σ1 H1 => D.nx (σ1.set i none) H1, rt := D.rt, bk := fun σ1 H1 => D.bk (σ1.set i none) H1, ct := fun σ1 H1 => D.ct (σ1.set i none) H1 } (σ.set i (some (.ref a))) H
section
variable {X : Cx} {n : Str} {i : Nat} {body suite : List Stmt} {b₀ : Stmt} {pos pos' tpos p1 p2 p3 : Pos} {kk : Nat} {tb : WX → TS} {ts : Addr → Value → Option Addr → TS} {x1 x2 x3 : Str} {c1 c2 c3 : Addr}
theorem ps_try_as3 (hs : X.stack = X.env :: X.outer) (hf : X.env.frame = some X.env.locals) (hN : X.N.Nodup) (hi : X.N[i]? = some n) (hln : X.env.kindOf n = some .local)
    (g1 : Gl X x1) (g2 : Gl X x2) (g3 : Gl X x3) (m1 : X.mg x1 = some (.ref c1)) (m2 : X.mg x2 = some (.ref c2)) (m3 : X.mg x3 = some (.ref c3)) (d1 : (x1 == ("__debug__" : Str)) = false) (d2 : (x2 == ("__debug__" : Str)) = false) (d3 : (x3 == ("__debug__" : Str)) = false)
    (hb : ∀ (W : WX) (pn : List (Addr × Obj)) (xe : Value → Shared → Prop), L2N.Takes (X.tr pn xe) W → PassesOwn (model X.prog X.w) X.A X.env xe → PSs (X.tr pn xe) body (tb W))
    (hsu : ∀ (a : Addr) (oe : Obj) (cls : Value) (d : Option Addr) (pn : List (Addr × Obj)), L2N.Zn cls d oe → (∃ vs, oe.data = .fields vs) → PSs (X.suite a ((a, oe) :: pn)) (b₀ :: suite) (ts a cls d)) :
    PS X (.Try body [.ExceptHandler (some (.Tuple [.Name x1 p1, .Name x2 p2, .Name x3 p3] kk tpos)) (some n) (b₀ :: suite) pos'] [] [] pos) (fun D σ H => tb (wAs3 X.K [.ref c1, .ref c2, .ref c3] i ts D) D σ H) := by
  refine ⟨fun pins s σ H D I h => ?_⟩
  have ok := I.ok
  have hfr : X.A.frames = some (X.env :: X.outer) := ok.frames.trans (by rw [hs])
  refine wpAny_Try_except ?_
  let hds : List ExceptHandler := [.ExceptHandler (some (.Tuple [.Name x1 p1, .Name x2 p2, .Name x3 p3] kk tpos)) (some n) (b₀ :: suite) pos']
  refine wpAny_mono ((hb (wAs3 X.K [.ref c1, .ref c2, .ref c3] i ts D) (X.pn ++ pins) (fun e t1 => wpAny (model X.prog X.w) X.A (noteFrame e X.env) (fun _ t2 => wpAny (model X.prog X.w) X.A (setFlight e none) (fun _ t3 =>
    wpAny (model X.prog X.w) X.A (handleBy e X.env hds) (SP X pins D) X.xe t3) X.xe t2) X.xe t1) (fun u s' xx => ?_) PassesOwn.looking).run [] s σ H D (I.toTry _) h) (fun fl s1 hsp => ?_) (fun e s1 he => he)
  · obtain ⟨a, B, sI, pins', σ', H', cls, d, rfl, J', nb, up, sky, na, os, ag, hit, hyes⟩ := xx
    have J : Inv X pins σ' H' sI := J'.ofTry ok
    rw [hs] at sky
    show wpAny (model X.prog X.w) X.A (noteFrame (.ref a) X.env) _ _ _
    refine L2N.Sky.land L2N.Zn.steady hfr hf sky fun h3 fl3 up3 => ?_
    have J3 : Inv X pins σ' H' { s' with heap := h3 } := J.landed nb fl3.1 (up.trans up3) os ag
    obtain ⟨oe3, vs3, he3, hz3, hd3⟩ := fl3.there
    have nfr : a ∉ frs (X.env :: X.outer) := fun hm => by
      obtain ⟨_, o', e', hnf⟩ := fl3.2.2.1.mem hm
      rw [he3] at e'; cases e'
      exact hnf _ hd3
    have nL : a ≠ X.env.locals := fun z => nfr (List.mem_filterMap.mpr ⟨X.env, List.mem_cons_self, by rw [hf, z]⟩)
    have nF : a ∉ X.fs := fun hm => by
      obtain ⟨e, he, q⟩ := List.mem_filterMap.mp hm
      exact nfr (List.mem_filterMap.mpr ⟨e, List.mem_cons_of_mem _ he, q⟩)
    have S3 := J3.suite he3 hd3 na nL nF
    refine wpAny_handleBy_cons (codeAny_handlers_test ?_) (by intro q; cases q)
    -- the tuple of the classes
    let tp : Obj := { cls := .type "tuple", data := .seq [Value.ref c1, .ref c2, .ref c3].toArray }
    have keep : ∀ b o, h3.get? b = some o → (h3.push tp).get? b = some o := fun b o e => Heap.get?_push_of_some _ e
    have LT : PySem.W.Looks (model X.prog X.w) (h3.push tp) (typeOf (.ref a)) cls := fun A Q E s k q => wpAny_typeOf_ref (k _ _ (keep _ _ he3)) (by rw [hz3.1]; exact q)
    have LM := PySem.W.exm_tup3 (M := model X.prog X.w) (tp := h3.objs.size) (e := a) (J3.kIn.keeps keep) LT (Heap.get?_push_size h3 rfl) hit
    have ld : ∀ {x : Str} {c : Addr} {p : Pos} {Q : Value → Shared → Prop} {E : Value → Shared → Prop}, Gl X x → X.mg x = some (.ref c) → (x == ("__debug__" : Str)) = false → Q (.ref c) { s' with heap := h3 } → wpAny (model X.prog X.w) (X.A.mark (some (.ref a))) (eval (.Name x p) X.env) Q E { s' with heap := h3 } := fun {x c p Q E} g m dd q =>
      ld_glob (X := X.suite a ((a, oe3) :: (X.pn ++ pins))) S3 g m q dd
    refine wpAny_Tuple_spliced (spliced_more (ld g1 m1 d1 (spliced_more (ld g2 m2 d2 (spliced_more (ld g3 m3 d3 (spliced_none ⟨(by rw [sizeLine_eq]; exact (by decide : 3 ≤ 16777216)), ?_⟩)))))))
    refine LM.here ?_
    have fl5 := fly_kept fl3 keep
    have up5 := up_kept (up.trans up3) keep
    refine codeAny_handlers_suite_as ?_
    refine HandSPX.lands_againZ fl5 fun h4 fl4 up4 => ?_
    have J4 : Inv X pins σ' H' { s' with heap := h4 } := J.landed nb fl4.1 (up5.trans up4) os ag
    obtain ⟨oe4, vs4, he4, hz4, hd4⟩ := fl4.there
    have S4 := J4.suite he4 hd4 na nL nF
    refine store_ok (X := X.suite a ((a, oe4) :: (X.pn ++ pins))) (v := .ref a) S4 hN hi (.inl hln) rfl (fun s5 S5 => ?_) (.inr hln)
    refine wpAny_mono ((hsu a oe4 cls d (X.pn ++ pins) hz4 ⟨_, hd4⟩).run [] s5 _ H' _ S5 (hyes a na)) (fun fl s6 hsp => ?_) (fun _ _ z => False.elim z)
    have fin : ∀ {σ6 : L2.St} {H6 : Hp} {Q : Shared → Prop}, Inv (X.suite a ((a, oe4) :: (X.pn ++ pins))) [] σ6 H6 s6 → (∀ s7, Inv X pins (σ6.set i none) H6 s7 → Q s7) →
        wpAny (model X.prog X.w) X.A (do bindName X.env n .none; unbindBehindTheSuite X.env n pos') (fun _ s7 => Q s7) X.xe s6 := fun {σ6 H6 Q} S6 hq => gone_ok (S6.unsuite ok) hN hi hln hq
    match fl, hsp with
    | .next, ⟨_, _, S6, q6⟩ => exact fin S6 fun s7 J7 => ⟨_, _, J7, q6⟩
    | .brk, ⟨_, _, S6, q6⟩ => exact fin S6 fun s7 J7 => ⟨_, _, J7, q6⟩
    | .cont, ⟨_, _, S6, q6⟩ => exact fin S6 fun s7 J7 => ⟨_, _, J7, q6⟩
    | .ret u, ⟨_, _, _, S6, r6, q6⟩ => exact fin S6 fun s7 J7 => ⟨_, _, _, J7, r6, q6⟩
  · match fl, hsp with
    | .next, ⟨_, _, J', q⟩ => exact wpAny_execs_nil ⟨_, _, J'.ofTry ok, q⟩
    | .brk, ⟨_, _, J', q⟩ => exact ⟨_, _, J'.ofTry ok, q⟩
    | .cont, ⟨_, _, J', q⟩ => exact ⟨_, _, J'.ofTry ok, q⟩
    | .ret u, ⟨_, _, _, J', r, q⟩ => exact ⟨_, _, _, J'.ofTry ok, r, q⟩
end
/-! ### the function value is called -/
/-- what a() does, a in slot i -/
def tAsk (P : Program) (w : World) (K : PySem.W.Frag) (mg : Str → Option Value) (base : Heap) (k i : Nat) (W : WX) : TE := fun σ H Q =>
  ∃ (f : Addr) (fo : Obj) (Pre : Hp → Prop) (S : SL) (Hm : Hp) (tl : RD) (Q1 : VK) (E1 : XK), σ[i]? = some (some (.ref f)) ∧ H = add Hm S ∧ Fresh Hm S ∧ Hm f = some (FzO fo) ∧ Pre Hm ∧
    LamSem P w K mg base k f fo Pre S tl ∧ (∀ h : Heap, h.get? f = some fo → PySem.W.FnAt f h) ∧ (∀ v H1, Fresh H1 S → Q1 v H1 → Q v (add H1 S)) ∧ (∀ cls d H1, Fresh H1 S → E1 cls d H1 → W cls d σ (add H1 S)) ∧ tl E1 Hm Q1
theorem pe_ask {Z : Cx} {k i : Nat} {a : Str} {W : WX} {p pos : Pos} (hr : Room k Z.A) (tk : L2N.Takes Z W) (hN : Z.N[i]? = some a) (hv : Vis Z.env.scope a) (hd : (a == ("__debug__" : Str)) = false := by decide) (hcd : (a == ("__classdict__" : Str)) = false := by decide) :
    PE Z (.Call (.Name a p) [] [] pos) (tAsk Z.prog Z.w Z.K Z.mg Z.base k i W) := by
  refine ⟨fun pins s σ H Q I h => ?_⟩
  obtain ⟨f, fo, Pre, S, Hm, tl, Q1, E1, h1, rfl, fr, hf, hc, L, hfn, hQ, hW, ht⟩ := h
  refine wpAny_Call_Name_kw (thn ((pe_var (pos := p) (i := i) hN hv hd hcd).run pins s σ _ (fun v H1 => v = .ref f ∧ H1 = add Hm S) I ⟨.ref f, h1, rfl, rfl⟩) fun u s1 ⟨v, H1, I1, r1, e1, e2⟩ => ?_)
  subst e1 e2
  obtain rfl : u = Value.ref f := r1
  have e0 := I1.env0
  have e3 := env0_cut e0 fr
  have of1 : s1.heap.get? f = some fo := (e3.hok f _ hf).1
  refine PySem.W.callWith_F0 (hfn _ of1) ?_
  refine wpAny_call (codeAny_mono (L Z.A Z.stack s1 Hm Q Q1 (fun cls d H2 => W cls d σ H2) E1 hr e0 fr hf hc hQ hW ht) fun r s' hq => ?_)
  cases r with
  | error e => exact tk e s' (L2N.XE.of_call I1 (fun _ _ _ h => h) hq)
  | ok fl =>
    cases fl with
    | ret u => exact I1.after hq
    | next => exact False.elim hq
    | brk => exact False.elim hq
    | cont => exact False.elim hq
end LY

/-! a lambda is made, and handed to a def that calls it -/
namespace LY
open PySem PySem.Spec PyProof.Rows L2 LamX FX RZ PX
/-- what the making of a function value leaves of the heap; F: what stands still -/
structure LamExt (T : List (Addr × Str)) (F H F1 H1 : Hp) : Prop where
  ff : Ex F F1
  fh : Ex F1 H1
  hh : ∀ a o, (∀ ps, o ≠ HO.tbl ps) → H a = some o → H1 a = some o
  bb : ∀ a, (H a).isSome = true → (H1 a).isSome = true
  nw : ∀ a, F a = none → (H a).isSome = true → F1 a = none
  tk : TabsF T F1 H1
theorem LamExt.refl {T : List (Addr × Str)} {F H : Hp} (e : Ex F H) (t : TabsF T F H) : LamExt T F H F H := ⟨fun _ _ h => h, e, fun _ _ _ h => h, fun _ h => h, fun _ h _ => h, t⟩
theorem LamExt.trans {T : List (Addr × Str)} {F H F1 H1 F2 H2 : Hp} (x : LamExt T F H F1 H1) (y : LamExt T F1 H1 F2 H2) : LamExt T F H F2 H2 :=
  ⟨x.ff.trans y.ff, y.fh, fun a o n h => y.hh a o n (x.hh a o n h), fun a h => y.bb a (x.bb a h), fun a n e => y.nw a (x.nw a n e) (x.bb a e), y.tk⟩
/-- a new thing is laid; it stands still -/
theorem LamExt.lay {T : List (Addr × Str)} {F H : Hp} {a : Addr} {o : HO} (e : Ex F H) (t : TabsF T F H) (n : H a = none) : LamExt T F H (upd F a o) (upd H a o) := by
  have x := Ext.lay (b := none) (o := o) e n
  exact ⟨x.ff, x.fh, fun b u _ h => x.hh b u (by simp) h, fun b h => x.some_ h, x.nw, (t.ext fun b u h => x.hh b u (by simp) h).up x.ff⟩
section
variable {X : Cx} {pins : List (Addr × Obj)} {σ : L2.St} {H : Hp} {s : Shared}
/-- the tail of the making: the defaults stand ready -/
theorem lam_tail {T : List (Addr × Str)} {F : Hp} {c P : Addr} {params : Arguments} {body : Expr} {scope : Scope} {pos : Pos} {ln : Nat} {dV : Value} {E : Value → Shared → Prop} {Q : Value → Shared → Prop} (I : Inv X pins σ H s) (TB : TabB X.base X.mg c P) (hcode : X.env.code = .ref c)
    (hm : (P, X.env.qual ++ "<lambda>") ∈ T) (hu : ∀ p ∈ T, p.1 = P → p.2 = X.env.qual ++ "<lambda>") (eF : Ex F H) (hT : TabsF T F H) (hFr : ∀ p ∈ T, F p.1 = none) (hfree : ∀ y ∈ scope.names, y.2 = .free → ∃ c, X.env.cells.lookup y.1 = some c) (hdf : DfOk F params dV)
    (h : ∀ (f c' : Addr) (doc pm ctv : Value) (F1 H1 : Hp) (s' : Shared), Inv X pins σ H1 s' → LamExt T F H F1 H1 → H f = none → F1 f = some (FzO (PySem.W.kdv_obj "<lambda>" (X.env.qual ++ "<lambda>") params (.expr body) scope (cloFrom X.env.cells scope.names []) dV doc pm c' ctv)) →
      F1 c' = some (CodeO c' (X.env.qual ++ "<lambda>")) → DfOk F1 params dV → Q (.ref f) s') :
    wpAny (model X.prog X.w) X.A (makeTail "<lambda>" (X.env.qual ++ "<lambda>") params (.expr body) scope X.env dV .none none pos ln) Q E s := by
  obtain ⟨ps, hP, ht, ha⟩ := hT _ hm
  have bP : s.heap.BuiltinsAt X.mg P := TB.bm.keeps I.bk
  have hP' : s.heap.get? P = some { cls := .none, data := .fields ps } := I.hok P _ hP
  have up : ∀ {F1 : Hp}, Ex F F1 → DfOk F1 params dV := fun e => hdf.elim .inl fun ⟨t, u, a, b, c⟩ => .inr ⟨t, u, a, b, e _ _ c⟩
  have track : ∀ {F1 H1 : Hp} {h' : Heap} {tk : Nat} {c' : Addr} {doc pm ctv : Value}, Inv X pins σ H1 { s with heap := h', toks := tk } → LamExt T F H F1 H1 → H h'.objs.size = none → F1 c' = some (CodeO c' (X.env.qual ++ "<lambda>")) →
      Q (.ref h'.objs.size) { s with heap := h'.push (PySem.W.kdv_obj "<lambda>" (X.env.qual ++ "<lambda>") params (.expr body) scope (cloFrom X.env.cells scope.names []) dV doc pm c' ctv), toks := tk } := fun {F1 H1 h' tk c' doc pm ctv} I1 x n hc => by
    have nf : H1 h'.objs.size = none := I1.hok.fresh (Nat.le_refl _)
    have nF : F1 h'.objs.size = none := Same.free x.fh nf
    have I2 : Inv X pins σ (upd H1 h'.objs.size (FzO (PySem.W.kdv_obj "<lambda>" (X.env.qual ++ "<lambda>") params (.expr body) scope (cloFrom X.env.cells scope.names []) dV doc pm c' ctv))) { s with heap := h'.push (PySem.W.kdv_obj "<lambda>" (X.env.qual ++ "<lambda>") params (.expr body) scope (cloFrom X.env.cells scope.names []) dV doc pm c' ctv), toks := tk } :=
      I1.laid (s := { s with heap := h', toks := tk }) (t' := tk) (fun b u e => Heap.get?_push_of_some _ e) (Nat.le_refl _) ⟨Heap.get?_push_size _ rfl, _, Heap.get?_push_size _ rfl⟩
    have x2 := x.trans (LamExt.lay (o := FzO (PySem.W.kdv_obj "<lambda>" (X.env.qual ++ "<lambda>") params (.expr body) scope (cloFrom X.env.cells scope.names []) dV doc pm c' ctv)) x.fh x.tk nf)
    exact h _ c' doc pm ctv _ _ _ I2 x2 n upd_same (by rw [upd_ne (ne_of_none hc nF)]; exact hc) (up x2.ff)
  cases hc : codeAmong pos ps.toList with
  | none =>
    refine PySem.W.kdv_makeTail (mg := X.mg) (c := c) (P := P) (ps := ps) (closure_ok hfree) I.ok.glob (I.mod.glob.keeps I.bk) hcode (TB.code.keeps I.bk) hP' ht hc TB.gP bP fun c' ctv doc h' tk hx hge hlt hrec htb => ?_
    obtain ⟨c2, oc, vs, t, e2, hoc, hd, hv⟩ := hrec
    cases e2
    have hsz : s.heap.objs.size ≤ h'.objs.size := Nat.le_trans hge (Nat.le_of_lt hlt)
    have nC : H c' = none := I.hok.fresh hge
    have nCF : F c' = none := Same.free eF nC
    have I1 := inv_table (t' := tk) (more := #[rawInt pos.line, rawInt pos.col, .ref c']) (h' := h') I hP (fun b o hb e => hx b o hb e) htb hge ⟨oc, vs, t, hoc, hd, hv⟩
    have hE : ∀ b o, (∀ ps, o ≠ HO.tbl ps) → H b = some o → upd (upd H P (.tbl (ps ++ #[rawInt pos.line, rawInt pos.col, .ref c']))) c' (CodeO c' (X.env.qual ++ "<lambda>")) b = some o := fun b o n e => by
      rw [upd_ne (ne_of_none e nC), upd_ne (fun z => n ps (Option.some.inj (e.symm.trans (by rw [z]; exact hP))))]
      exact e
    have eL : (ps ++ #[rawInt pos.line, rawInt pos.col, .ref c']).toList = ps.toList ++ [rawInt pos.line, rawInt pos.col, .ref c'] := by simp
    have eFF : Ex F (upd F c' (CodeO c' (X.env.qual ++ "<lambda>"))) := Ex.new nCF
    refine track (F1 := upd F c' (CodeO c' (X.env.qual ++ "<lambda>"))) I1 ⟨eFF, fun b o e => ?_, hE, fun b e => ?_, fun b n e => ?_, fun p hp => ?_⟩ (I.hok.fresh hsz) upd_same
    · by_cases b1 : b = c'
      · subst b1
        rw [upd_same] at e ⊢
        exact e
      · rw [upd_ne b1] at e ⊢
        have nP : b ≠ P := fun z => by rw [z, hFr _ hm] at e; cases e
        rw [upd_ne nP]
        exact eF b o e
    · by_cases b1 : b = c'
      · rw [b1, upd_same]; rfl
      · rw [upd_ne b1]
        by_cases b2 : b = P
        · rw [b2, upd_same]; rfl
        · rw [upd_ne b2]; exact e
    · rw [upd_ne fun z => by rw [z, nC] at e; cases e]; exact n
    · by_cases hb : p.1 = P
      · rw [hu p hp hb, hb]
        refine ⟨_, by rw [upd_ne (ne_of_none hP nC), upd_same], by rw [eL]; exact PySem.TriplesOk_snoc _ _ _ _ ht, fun p' cv hcv => ?_⟩
        rw [eL] at hcv
        rcases among_app _ ht hcv with z | z
        · obtain ⟨c0, e1, e2⟩ := ha p' cv z
          exact ⟨c0, e1, eFF _ _ e2⟩
        · exact ⟨c', z, upd_same⟩
      · obtain ⟨ps', a1, a2, a3⟩ := hT p hp
        refine ⟨ps', by rw [upd_ne (ne_of_none a1 nC), upd_ne hb]; exact a1, a2, fun p' cv hcv => ?_⟩
        obtain ⟨c0, e1, e2⟩ := a3 p' cv hcv
        exact ⟨c0, e1, eFF _ _ e2⟩
  | some cv =>
    obtain ⟨c', e, hco⟩ := ha pos cv hc
    subst e
    refine PySem.W.kdv_makeTailHit (mg := X.mg) (c := c) (P := P) (ps := ps) (closure_ok hfree) I.ok.glob (I.mod.glob.keeps I.bk) hcode (TB.code.keeps I.bk) hP' ht hc bP fun ctv doc h' tk hx hsz => ?_
    exact track (I.kept hx) (LamExt.refl eF hT) (I.hok.fresh hsz) hco
/-- the defaults are none, or one number that is written -/
inductive DfSrc (X : Cx) (ps : Arguments) : Prop where
  | no (h : ps.defaults = [])
  | one (e : Expr) (i : Int) (h : ps.defaults = [e]) (d : PE X e (tC (.int i)))
theorem lam_make {T : List (Addr × Str)} {F : Hp} {c P : Addr} {params : Arguments} {body : Expr} {scope : Scope} {pos : Pos} {E : Value → Shared → Prop} {Q : Value → Shared → Prop} (I : Inv X pins σ H s) (TB : TabB X.base X.mg c P) (hcode : X.env.code = .ref c)
    (hm : (P, X.env.qual ++ "<lambda>") ∈ T) (hu : ∀ p ∈ T, p.1 = P → p.2 = X.env.qual ++ "<lambda>") (eF : Ex F H) (hT : TabsF T F H) (hFr : ∀ p ∈ T, F p.1 = none) (hk0 : params.kw_defaults = []) (hds : DfSrc X params) (hfree : ∀ y ∈ scope.names, y.2 = .free → ∃ c, X.env.cells.lookup y.1 = some c)
    (hE : E = X.xe)
    (h : ∀ (f c' : Addr) (dV doc pm ctv : Value) (F1 H1 : Hp) (s' : Shared), Inv X pins σ H1 s' → LamExt T F H F1 H1 → H f = none → F1 f = some (FzO (PySem.W.kdv_obj "<lambda>" (X.env.qual ++ "<lambda>") params (.expr body) scope (cloFrom X.env.cells scope.names []) dV doc pm c' ctv)) →
      F1 c' = some (CodeO c' (X.env.qual ++ "<lambda>")) → DfOk F1 params dV → Q (.ref f) s') :
    wpAny (model X.prog X.w) X.A (eval (.Lambda params body scope pos) X.env) Q E s := by
  subst hE
  cases hds with
  | no hd =>
    refine PySem.W.kla_eval (by rw [PySem.defaultsOf_eq, hd, hk0]; rfl) ?_
    rw [PySem.makeFunction_eq]
    simp only [List.zip_nil_right, List.filterMap_nil, List.isEmpty_nil, if_true, pure_bind]
    exact lam_tail I TB hcode hm hu eF hT hFr hfree (.inl ⟨hd, rfl⟩) fun f c' doc pm ctv F1 H1 s' => h f c' .none doc pm ctv F1 H1 s'
  | one e i hd d =>
    refine PySem.W.kdv_lam (by rw [hd]; rfl) hk0 ?_
    rw [hd]
    refine PySem.W.kdv_all1 (thn (d.run pins s σ H (fun v H1 => v = .int i ∧ H1 = H) I ⟨rfl, rfl⟩) fun u s1 ⟨v, H1, I1, r1, e1, e2⟩ => PySem.W.kdv_all0 ?_)
    subst e2
    rw [PySem.makeFunction_eq]
    simp only [List.zip_nil_right, List.filterMap_nil, List.isEmpty_nil, if_true, pure_bind, List.isEmpty_cons, Bool.false_eq_true, if_false]
    refine wpAny_bind (wpAny_newTextTuple ?_)
    have nT : H1 s1.heap.objs.size = none := I1.hok.fresh (Nat.le_refl _)
    have I2 : Inv X pins σ (upd H1 s1.heap.objs.size (FzO (PySem.W.kdv_tup [u]))) { s1 with heap := s1.heap.push (PySem.W.kdv_tup [u]) } :=
      I1.laid (t' := s1.toks) (fun b u e => Heap.get?_push_of_some _ e) (Nat.le_refl _) ⟨Heap.get?_push_size _ rfl, _, Heap.get?_push_size _ rfl⟩
    have x0 := LamExt.lay (o := FzO (PySem.W.kdv_tup [u])) eF hT nT
    refine lam_tail I2 TB hcode hm hu x0.fh x0.tk (fun p hp => x0.nw p.1 (hFr p hp) (by obtain ⟨ps, e, _⟩ := hT p hp; rw [e]; rfl)) hfree (.inr ⟨_, u, by rw [hd]; rfl, rfl, upd_same⟩) fun f c' doc pm ctv F1 H2 s' J x n hf hc hdf => ?_
    refine h f c' _ doc pm ctv F1 H2 s' J (x0.trans x) ?_ hf hc hdf
    cases q : H1 f with
    | none => rfl
    | some o => rw [show upd H1 s1.heap.objs.size (FzO (PySem.W.kdv_tup [u])) f = some o by rw [upd_ne (ne_of_none q nT)]; exact q] at n; cases n
end
/-! ### the cells beside the heap -/
def cellsAt (h : Heap) : List (Str × Addr) → SL
  | [] => []
  | p :: r => match h.get? p.2 with
    | some o => (p.2, o) :: cellsAt h r
    | none => cellsAt h r
theorem cellsAt_get {h : Heap} : ∀ {l : List (Str × Addr)} {c : Addr} {o : Obj}, (cellsAt h l).lookup c = some o → h.get? c = some o ∧ ∃ y, (y, c) ∈ l
  | [], c, o, e => by simp [cellsAt] at e
  | (y, d) :: r, c, o, e => by
    unfold cellsAt at e
    cases q : h.get? d with
    | none =>
      simp only [q] at e
      obtain ⟨h1, z, h2⟩ := cellsAt_get (l := r) e
      exact ⟨h1, z, List.mem_cons_of_mem _ h2⟩
    | some u =>
      simp only [q, List.lookup_cons] at e
      cases b : c == d with
      | true =>
        rw [b] at e
        cases e
        rw [beq_iff_eq] at b
        subst b
        exact ⟨q, y, List.mem_cons_self ..⟩
      | false =>
        rw [b] at e
        obtain ⟨h1, z, h2⟩ := cellsAt_get (l := r) e
        exact ⟨h1, z, List.mem_cons_of_mem _ h2⟩
theorem cellsAt_has {h : Heap} : ∀ {l : List (Str × Addr)} {y : Str} {c : Addr} {o : Obj}, (y, c) ∈ l → h.get? c = some o → (cellsAt h l).lookup c = some o
  | [], _, _, _, m, _ => by simp at m
  | (z, d) :: r, y, c, o, m, e => by
    unfold cellsAt
    by_cases b : c = d
    · subst b
      simp only [e, List.lookup_cons, beq_self_eq_true]
    · have m' : (y, c) ∈ r := by
        rcases List.mem_cons.mp m with z | z
        · cases z; exact absurd rfl b
        · exact z
      cases q : h.get? d with
      | none => exact cellsAt_has m' e
      | some u =>
        simp only [List.lookup_cons, beq_eq_false_iff_ne.mpr b]
        exact cellsAt_has m' e
/-- the names of a lambda: captured ones, globals, its parameters (none of N) -/
structure LamT (N : List Str) (sc scope : Scope) : Prop where
  kind : scope.kind = .function
  co : scope.isCoroutine = false
  gen : scope.isGenerator = false
  own : ∀ y ∈ scope.names, y.2 ≠ .cell ∧ (y.2 = .local → y.1 ∉ N)
  free : ∀ y ∈ scope.names, y.2 = .free → sc.names.lookup y.1 = some .cell ∨ sc.names.lookup y.1 = some .free
theorem LamT.of {N : List Str} {sc scope : Scope} (L : LamS sc scope) : LamT N sc scope := ⟨L.kind, L.co, L.gen, fun y hy => ⟨(L.own y hy).2, fun e => absurd e (L.own y hy).1⟩, L.free⟩
def lamTB (N : List Str) (sc scope : Scope) : Bool :=
  decide (scope.kind = .function) && (!scope.isCoroutine && (!scope.isGenerator && scope.names.all fun y => !decide (y.2 = .cell) && ((!decide (y.2 = .local) || !decide (y.1 ∈ N)) && (!decide (y.2 = .free) || (decide (sc.names.lookup y.1 = some .cell) || decide (sc.names.lookup y.1 = some .free))))))
theorem lamT_by {N : List Str} {sc scope : Scope} (h : lamTB N sc scope = true) : LamT N sc scope := by
  unfold lamTB at h
  rw [Bool.and_eq_true, Bool.and_eq_true, Bool.and_eq_true] at h
  obtain ⟨h1, h2, h3, h4⟩ := h
  have key : ∀ y ∈ scope.names, _ := fun y hy => List.all_eq_true.mp h4 y hy
  refine ⟨of_decide_eq_true h1, by simpa using h2, by simpa using h3, fun y hy => ?_, fun y hy e => ?_⟩
  · have := key y hy
    rw [Bool.and_eq_true, Bool.and_eq_true] at this
    refine ⟨by simpa using this.1, fun e => ?_⟩
    have h5 := this.2.1
    rw [decide_eq_true e] at h5
    simpa using h5
  · have := key y hy
    rw [Bool.and_eq_true, Bool.and_eq_true] at this
    have h5 := this.2.2
    rw [decide_eq_true e] at h5
    simpa using h5
section
variable {X : Cx} {N : List Str} {scope : Scope}
theorem LamT.has (L : LamT N X.env.scope scope) (ok : X.Ok) : ∀ y ∈ scope.names, y.2 = .free → ∃ c, X.env.cells.lookup y.1 = some c := fun y hy e => by
  rcases L.free y hy e with k | k
  · exact ok.has _ (.inl k)
  · exact ok.has _ (.inr k)
theorem LamT.sub (L : LamT N X.env.scope scope) (ok : X.Ok) {y : Str} {c : Addr} (e : (y, c) ∈ cloFrom X.env.cells scope.names []) : X.env.cells.lookup y = some c := by
  rcases cloFrom_mem e with hm | ⟨h1, h2⟩
  · cases hm
  · obtain ⟨c1, hc⟩ := L.has ok _ h1 rfl
    have hc : X.env.cells.lookup y = some c1 := hc
    have e2 : c = c1 := by
      rw [h2, hc] <;> rfl
    rw [e2]; exact hc
end
theorem clo_look {cells : List (Str × Addr)} {scope : Scope} {y : Str} (hy : (y, NameKind.free) ∈ scope.names) : ∃ c, (cloFrom cells scope.names []).lookup y = some c := mem_lookup (cloFrom_has (cells := cells) (acc := []) hy)
/-! ### all cells of a frame -/
/-- the frame's cells, as they are found -/
def frCells (cells : List (Str × Addr)) : List (Str × Addr) := cells.filter fun p => decide (cells.lookup p.1 = some p.2)
theorem mem_frCells {cells : List (Str × Addr)} {y : Str} {c : Addr} : (y, c) ∈ frCells cells ↔ cells.lookup y = some c := by
  unfold frCells
  rw [List.mem_filter]
  exact ⟨fun h => of_decide_eq_true h.2, fun h => ⟨PySem.mem_of_lookup h, decide_eq_true h⟩⟩
abbrev allCells (X : Cx) (s : Shared) : SL := cellsAt s.heap (frCells X.env.cells)
section
variable {X : Cx} {pins : List (Addr × Obj)} {σ : L2.St} {H : Hp} {s : Shared} {scope : Scope}
theorem cl_okA (I : Inv X pins σ H s) (L : LamT X.N X.env.scope scope) : ClOk X.N σ scope (cloFrom X.env.cells scope.names []) (allCells X s) := by
  have cm : ∀ {y c}, (cloFrom X.env.cells scope.names []).lookup y = some c → X.env.cells.lookup y = some c := fun e => L.sub I.ok (PySem.mem_of_lookup e)
  refine ⟨I.len, L.kind, L.co, L.gen, L.own, fun y hy e => ?_, fun x y c e1 e2 => I.ok.inj x y c (cm e1) (cm e2), fun x c e => ?_, fun i y v e1 e2 k => ?_⟩
  · obtain ⟨y1, k1⟩ := y
    cases e
    exact clo_look hy
  · obtain ⟨v, o, ho, hd⟩ := I.cell x c (cm e)
    exact ⟨o, v, cellsAt_has (mem_frCells.mpr (cm e)) ho, hd⟩
  · have hy := PySem.mem_of_lookup k
    obtain ⟨c, hc⟩ := clo_look (cells := X.env.cells) hy
    obtain ⟨m, hn, hl⟩ := I.loc
    have hv : Vis X.env.scope y := (L.free _ hy rfl).elim (fun k => .inr (.inl k)) (fun k => .inr (.inr k))
    obtain ⟨u, r, q⟩ := hl i y v e1 e2 hv
    rcases q with ⟨k', _⟩ | ⟨_, c3, e', o, ho, hd⟩
    · have k' : X.env.scope.names.lookup y = some .local := k'
      rcases L.free _ hy rfl with k2 | k2 <;> rw [show X.env.scope.names.lookup y = _ from k2] at k' <;> cases k'
    · have := cm hc
      rw [e'] at this
      cases this
      exact ⟨c, o, u, hc, cellsAt_has (mem_frCells.mpr e') ho, hd, r⟩
theorem cells_ofA (I : Inv X pins σ H s) (hfn : ∀ y, X.fn y = true) {c : Addr} {o : Obj} (e : (allCells X s).lookup c = some o) : s.heap.get? c = some o ∧ H c = none ∧ X.base.get? c = none ∧ c ∉ frs X.stack := by
  obtain ⟨h1, y, h2⟩ := cellsAt_get e
  have h3 := mem_frCells.mp h2
  have h4 := I.ok.cab y c (hfn y) h3
  refine ⟨h1, I.freeC y c h3, ?_, fun z => ?_⟩
  · cases q : X.base.get? c with
    | none => rfl
    | some o' => exact absurd (Nat.lt_of_lt_of_le (Nat.lt_of_lt_of_le (Heap.lt_size q) I.ok.bsz) h4) (Nat.lt_irrefl _)
  · rcases List.mem_cons.mp (I.stkSub _ z) with q | q
    · obtain ⟨m, ⟨ob, es, ep, ho, hd, _⟩, _⟩ := id I.loc
      obtain ⟨v, o2, ho2, hd2⟩ := I.cell y c h3
      rw [← q, ho2] at ho
      cases ho
      rw [hd2] at hd; cases hd
    · obtain ⟨_, o', ho, _⟩ := I.ok.funs.mem q
      exact absurd (Nat.lt_of_lt_of_le (Heap.lt_size ho) h4) (Nat.lt_irrefl _)
theorem env0_addA (I : Inv X pins σ H s) (hfn : ∀ y, X.fn y = true) : Env0 X.prog X.w X.K X.mg X.base X.A X.stack s (add H (allCells X s)) ∧ Fresh H (allCells X s) := by
  have e0 := I.env0
  have fr : Fresh H (allCells X s) := fun c o e => (cells_ofA I hfn e).2.1
  refine ⟨⟨e0.frames, e0.mod, fun b o e => ⟨(e0.bs b o e).1, ?_⟩, e0.bsz, e0.funs, fun b hb => ?_, hok_add e0.hok fr fun c o e => (cells_ofA I hfn e).1, e0.bare⟩, fr⟩
  · cases q : (allCells X s).lookup b with
    | none => rw [add_out q]; exact (e0.bs b o e).2
    | some u => rw [(cells_ofA I hfn q).2.2.1] at e; cases e
  · cases q : (allCells X s).lookup b with
    | none => rw [add_out q]; exact e0.frf b hb
    | some u => exact absurd hb (cells_ofA I hfn q).2.2.2
end
/-! ### x(lambda: body) -/
/-- the reading: sp the promise of x; t the reading of the lambda's body -/
def tTryL (P : Program) (w : World) (K : PySem.W.Frag) (mg : Str → Option Value) (base : Heap) (k : Nat) (T : List (Addr × Str)) (sp : Sp) (t : XK → TE) : TE := fun σ H Q => ∃ F, Ex F H ∧ TabsF T F H ∧ (∀ p ∈ T, F p.1 = none) ∧
  ∀ (f : Addr) (fo : Obj) (Pre : Hp → Prop) (S : SL) (F1 H1 : Hp), LamExt T F H F1 H1 → H f = none → H1 f = some (FzO fo) → Pre H1 → Fresh H1 S → (∀ h : Heap, h.get? f = some fo → PySem.W.FnAt f h) →
    LamSem P w K mg base k f fo Pre S (fun E H Q => t E σ H Q) → sp [.ref f] (add H1 S) (fun v H3 => ∃ H2, H3 = add H2 S ∧ Fresh H2 S ∧ Q v H2) (fun _ _ _ => False)
/-- a def is called with a thing whose cells stand apart -/
theorem call_apart {X : Cx} {pins : List (Addr × Obj)} {σ : L2.St} {H1 : Hp} {s1 : Shared} {g : Addr} {j : Nat} {fd : FuncData} {sp : Sp} {a : Str} {v : V} {u : Value} {Q : VK} (F : FnOk X.prog X.w X.K X.mg X.base (L2N.CX X.prog X.w) j g fd [a] sp) (hb : L2.Binds X.K fd [a] []) (hr : Room j X.A) (hfn : ∀ y, X.fn y = true)
    (I1 : Inv X pins σ H1 s1) (hv : RelV v u) (h : sp [v] (add H1 (allCells X s1)) (fun v H3 => ∃ H2, H3 = add H2 (allCells X s1) ∧ Fresh H2 (allCells X s1) ∧ Q v H2) (fun _ _ _ => False)) :
    wpAny (model X.prog X.w) X.A (call (.ref g) [u] []) (EP X pins σ Q) X.xe s1 := by
  obtain ⟨e0, fr⟩ := env0_addA I1 hfn
  have bt := hb s1 [u] I1.kIn rfl
  refine wpAny_call (codeAny_mono (F.run X.A X.stack s1 _ ⟨[u], []⟩ [u] [v] _ _ hr e0 bt (.cons hv .nil) h) fun r s2 hq => ?_)
  cases r with
  | error e =>
    obtain ⟨_, _, _, _, _, _, _, _, _, _, _, _, z⟩ := (show L2N.CX _ _ _ _ _ _ _ _ from hq)
    exact z.elim
  | ok fl =>
    cases fl with
    | next => exact False.elim hq
    | brk => exact False.elim hq
    | cont => exact False.elim hq
    | ret u =>
      obtain ⟨v, H3, os, bare, un, hok, rv, H2, e3, fr2, q⟩ := hq
      subst e3
      have sIn : ∀ b o, (allCells X s1).lookup b = some o → s2.heap.get? b = some o := fun b o e => (hok b _ (add_in e)).1
      have un2 := un_cut un fr fr2 (fun b o e => (cells_ofA I1 hfn e).1) sIn (fun b o e => (cells_ofA I1 hfn e).2.2.2)
      have hok2 := hok_cut hok fun b o e => add_in e
      rw [cut_add fr2] at hok2
      exact I1.after ⟨v, H2, os, bare, un2, hok2, rv, q⟩
/-- what stands of a lambda's object and its defaults: enough to call it -/
def PreL (fo : Obj) (c' : Addr) (q : Str) (ps : Arguments) (dV : Value) : Hp → Prop := fun Hm => Hm c' = some (CodeO c' q) ∧ DfOk Hm ps dV
/-- the lambda takes no argument: its parameters, if any, by default -/
def BindL (q : Str) (params : Arguments) (body : Expr) (scope : Scope) : Prop := ∀ (cl : List (Str × Addr)) (doc pm cv ctv : Value), (params.defaults = [] → bindArgs (PySem.W.kdv_fn "<lambda>" q params (.expr body) scope cl .none doc pm cv ctv) ⟨[], []⟩ = pure []) ∧
  (params.defaults.length = 1 → ∃ (y : Str), scope.names.lookup y = some .local ∧ ∀ (t : Addr), ∃ k : Option (Array Value) → Sem (List (Str × Value)), bindArgs (PySem.W.kdv_fn "<lambda>" q params (.expr body) scope cl (.ref t) doc pm cv ctv) ⟨[], []⟩ = seqItems? (.ref t) >>= k ∧ ∀ u : Value, k (some [u].toArray) = pure [(y, u)])
theorem lam_call {X : Cx} {pins : List (Addr × Obj)} {σ : L2.St} {H : Hp} {s : Shared} {k : Nat} {f c' : Addr} {q : Str} {params : Arguments} {body : Expr} {scope : Scope} {dV doc pm ctv : Value} {t : XK → TE} (I : Inv X pins σ H s) (L : LamT X.N X.env.scope scope) (hdf : DfOk H params dV) (hb : BindL q params body scope)
    (hbody : ∀ (cl : List (Str × Addr)) (f c' : Addr) (A : Around) (outer : List Env) (s : Shared) (H : Hp) (E : XK), Room k (A.deeper (PySem.W.envX q scope s.heap.objs.size f (.ref c') cl)) → PE (lamCy X.prog X.w X.K X.mg X.base X.N q scope cl f c' A outer s H E) body (t E)) :
    LamSem X.prog X.w X.K X.mg X.base (k + 1) f (PySem.W.kdv_obj "<lambda>" q params (.expr body) scope (cloFrom X.env.cells scope.names []) dV doc pm c' ctv) (fun Hm => Hm c' = some (CodeO c' q) ∧ DfOk Hm params dV) (allCells X s) (fun E H Q => t E σ H Q) := by
  have C := cl_okA I L
  rcases hdf with ⟨h1, rfl⟩ | ⟨t0, u0, h1, rfl, _⟩
  · refine lam_sem (doc := doc) (pm := pm) (ctv := ctv) (binds := []) C rfl (fun Hm h => h.1) (fun s Hm _ _ => BindsTo.of_eq ((hb _ doc pm _ ctv).1 h1)) (fun y hy => absurd hy (by simp)) fun A outer s H E hr => hbody _ f c' A outer s H E hr
  · obtain ⟨y, hy, hk⟩ := (hb (cloFrom X.env.cells scope.names []) doc pm (.ref c') ctv).2 h1
    obtain ⟨kk, k1, k2⟩ := hk t0
    have key : ∀ u : Value, LamSem X.prog X.w X.K X.mg X.base (k + 1) f (PySem.W.kdv_obj "<lambda>" q params (.expr body) scope (cloFrom X.env.cells scope.names []) (.ref t0) doc pm c' ctv) (fun Hm => Hm c' = some (CodeO c' q) ∧ Hm t0 = some (FzO (PySem.W.kdv_tup [u]))) (allCells X s) (fun E H Q => t E σ H Q) := fun u =>
      lam_sem (doc := doc) (pm := pm) (ctv := ctv) (binds := [(y, u)]) C rfl (fun Hm h => h.1) (fun s Hm h hs => BindsTo.of_defaults (fd := PySem.W.kdv_fn "<lambda>" q params (.expr body) scope (cloFrom X.env.cells scope.names []) (.ref t0) doc pm (.ref c') ctv) rfl (hs _ _ h.2) rfl k1 (k2 u)) (fun z hz => by rw [List.mem_singleton.mp hz]; exact hy) fun A outer s H E hr => hbody _ f c' A outer s H E hr
    intro A outer s2 Hm Q Q1 E E1 hr e0 fr hf hp hQ hE ht
    obtain ⟨hc, hd⟩ := hp
    rcases hd with ⟨h2, _⟩ | ⟨t2, u2, _, e2, h3⟩
    · rw [h2] at h1; cases h1
    · cases e2
      exact key u2 A outer s2 Hm Q Q1 E E1 hr e0 fr hf ⟨hc, h3⟩ hQ hE ht
theorem pe_try {X : Cx} {T : List (Addr × Str)} {x a : Str} {g c P : Addr} {k j : Nat} {fd : FuncData} {sp : Sp} {params : Arguments} {body : Expr} {scope : Scope} {t : XK → TE} {p lpos pos : Pos} (hg : Gl X x) (hm : X.mg x = some (.ref g)) (hk : PySem.W.keepIn X.K (.ref g) = true)
    (F : FnOk X.prog X.w X.K X.mg X.base (L2N.CX X.prog X.w) j g fd [a] sp) (hb : L2.Binds X.K fd [a] []) (hr : Room j X.A) (hfn : ∀ y, X.fn y = true)
    (TB : TabB X.base X.mg c P) (hcode : X.env.code = .ref c) (hmT : (P, X.env.qual ++ "<lambda>") ∈ T) (hu : ∀ p ∈ T, p.1 = P → p.2 = X.env.qual ++ "<lambda>") (L : LamS X.env.scope scope) (hd : params.defaults = []) (hk0 : params.kw_defaults = [])
    (hbind : BindL (X.env.qual ++ "<lambda>") params body scope)
    (hbody : ∀ (cl : List (Str × Addr)) (f c' : Addr) (A : Around) (outer : List Env) (s : Shared) (H : Hp) (E : XK), Room k (A.deeper (PySem.W.envX (X.env.qual ++ "<lambda>") scope s.heap.objs.size f (.ref c') cl)) → PE (lamCy X.prog X.w X.K X.mg X.base X.N (X.env.qual ++ "<lambda>") scope cl f c' A outer s H E) body (t E))
    (hdb : (x == ("__debug__" : Str)) = false := by decide) :
    PE X (.Call (.Name x p) [.Lambda params body scope lpos] [] pos) (tTryL X.prog X.w X.K X.mg X.base (k + 1) T sp t) := by
  refine ⟨fun pins s σ H Q I h => ?_⟩
  obtain ⟨F0, eF, hT, hFr, h⟩ := h
  have LT : LamT X.N X.env.scope scope := .of L
  refine wpAny_Call_Name_kw (ld_glob I hg hm ?_ hdb)
  refine PySem.W.callWith_K (h₀ := X.base) I.ok.mod.kin hk ?_ (by rfl) (by rfl)
  show wpAny _ _ (spliced ((false, eval (.Lambda params body scope lpos) X.env) :: backTo pos (starEach [] X.env))) _ _ s
  refine Calls.spliced_cons (lam_make I TB hcode hmT hu eF hT hFr hk0 (.no hd) (LT.has I.ok) rfl fun f c' dV doc pm ctv F1 H1 s1 I1 x hf hf1 hc1 hdf => ?_)
  refine Calls.spliced_nil ⟨I1.kIn, ?_⟩
  have fr := (env0_addA I1 hfn).2
  have hdf1 : DfOk H1 params dV := hdf.elim .inl fun ⟨t, u, a, b, c⟩ => .inr ⟨t, u, a, b, x.fh _ _ c⟩
  exact call_apart (v := .ref f) F hb hr hfn I1 rfl (h f _ _ _ F1 H1 x hf (x.fh _ _ hf1) ⟨x.fh _ _ hc1, hdf1⟩ fr (fun h e => ⟨_, _, _, _, e⟩) (lam_call I1 LT hdf1 hbind hbody))
/-! ### a lambda is a value -/
def tLamV (T : List (Addr × Str)) (q : Str) (D : LamD) (cells : List (Str × Addr)) : TE := fun σ H Q => ∃ F, Ex F H ∧ TabsF T F H ∧ (∀ p ∈ T, F p.1 = none) ∧
  ∀ (f c' : Addr) (dV doc pm ctv : Value) (F1 H1 : Hp), LamExt T F H F1 H1 → F1 f = some (FzO (PySem.W.kdv_obj "<lambda>" q D.params (.expr D.body) D.scope (cloFrom cells D.scope.names []) dV doc pm c' ctv)) → F1 c' = some (CodeO c' q) → DfOk F1 D.params dV → Q (.ref f) H1
theorem pe_lamV {X : Cx} {T : List (Addr × Str)} {c P : Addr} {q : Str} {D : LamD} {cells : List (Str × Addr)} {params : Arguments} {body : Expr} {scope : Scope} {pos : Pos} (TB : TabB X.base X.mg c P) (hcode : X.env.code = .ref c) (hmT : (P, X.env.qual ++ "<lambda>") ∈ T) (hu : ∀ p ∈ T, p.1 = P → p.2 = X.env.qual ++ "<lambda>")
    (hq : q = X.env.qual ++ "<lambda>") (hD : D = ⟨params, body, scope⟩) (hC : cells = X.env.cells) (L : LamT X.N X.env.scope scope) (hk0 : params.kw_defaults = []) (hds : DfSrc X params) : PE X (.Lambda params body scope pos) (tLamV T q D cells) := by
  subst hq hD hC
  refine ⟨fun pins s σ H Q I h => ?_⟩
  obtain ⟨F0, eF, hT, hFr, h⟩ := h
  exact lam_make I TB hcode hmT hu eF hT hFr hk0 hds (L.has I.ok) rfl fun f c' dV doc pm ctv F1 H1 s1 I1 x hf hf1 hc1 hdf => ⟨.ref f, H1, I1, rfl, h f c' dV doc pm ctv F1 H1 x hf1 hc1 hdf⟩
end LY

/-! within the except suite: fields of the caught exception, a def that is handed it -/
namespace LY
open PySem PySem.Spec PyProof.Rows L2 LamX L2H
/-- e.n, e the exception at a: its class is found at the run -/
def tXfD (K : PySem.W.Frag) (a : Addr) (cls : Value) (d : Option Addr) (n : Str) (te : TE) : TE := fun σ H Q => te σ H fun x H1 => x = .ref a ∧
  ∃ (C dd : Addr) (fs : List (Str × V)) (v : V), cls = .ref C ∧ XfC K C ∧ PySem.W.findIn K (.ref C) n = some none ∧ d = some dd ∧ H1 dd = some (.xd fs) ∧ fs.lookup n = some v ∧ Q v H1
theorem pe_xfd {X : Cx} {p : Addr × Obj} {cls : Value} {d : Option Addr} {e : Expr} {te : TE} {pos : Pos} {n : Str} (hp : p ∈ X.pn) (hz : Zc cls d p.2) (hf : ∃ vs, p.2.data = .fields vs) (he : PE X e te) (hb : attributeBase e n X.env (eval e X.env) = eval e X.env := by rfl) :
    PE X (.Attribute e n pos) (tXfD X.K p.1 cls d n te) := by
  refine ⟨fun pins s σ H Q I h => attr_of hb (thn (he.run pins s σ H _ I h) fun u s1 hh => ?_)⟩
  obtain ⟨x, H1, I1, rx, ex, C, dd, fs, v, ec, T, hno, ed, ea, l, q⟩ := hh
  subst ex ec ed
  obtain rfl : u = Value.ref p.1 := rx
  have ha := (I1.pin p (List.mem_append_left _ hp)).1
  obtain ⟨vs, hd⟩ := hf
  have hx : ObjOk X.prog X.w H1 s1.heap dd (.xd fs) := I1.hok dd _ ea
  obtain ⟨mA, hns, hr⟩ := hx
  obtain ⟨od, ho, hl⟩ := lookIn_ns hns
  obtain ⟨u, hu, ru⟩ := RelO.some_of (v := v) (o := mA n) (by rw [← l]; exact hr n)
  have J : PySem.W.InstAt s1.heap p.1 p.2 C (some od) := ⟨ha, hz.1, by unfold PySem.W.notCls; rw [hd] <;> rfl, by rw [hz.2]; exact ho⟩
  exact HandSPX.exc_get I1.kIn J T.ga T.gg T.exC (PySem.W.findObj_own T.hdC hno rfl (by rw [hl, hu])) (handed_of ru) ⟨v, H1, I1.tok _, ru, q⟩
/-- what a def promises that is handed the exception that is handled -/
abbrev SpX := Addr → Value → Option Addr → Hp → VK → Prop
structure FldOk (P : Program) (w : World) (K : PySem.W.Frag) (mg : Str → Option Value) (base : Heap) (k : Nat) (g : Addr) (fd : FuncData) (a : Str) (sp : SpX) : Prop where
  run : ∀ (A : Around) (outer : List Env) (s : Shared) (H : Hp) (args : Args) (Q : VK) (p : Addr × Obj) (cls : Value) (d : Option Addr), RoomH k A → Hot1 A p → PinOk outer H s p → L2N.Zn cls d p.2 → (∃ vs, p.2.data = .fields vs) → Env0 P w K mg base A outer s H →
    BindsTo s fd args [(a, .ref p.1)] → sp p.1 cls d H Q → codeAny (model P w) A (.call (.ref g) args) (CR (L2N.CX P w) outer P w H s Q fun _ _ _ => False) s
theorem fld_of {P : Program} {w : World} {K : PySem.W.Frag} {mg : Str → Option Value} {base : Heap} {k : Nat} {g : Addr} {a name qual : Str} {params : Arguments} {body : List Stmt} {scope : Scope} {dV kV doc pm cdv ct oc : Value} {an od : Option Addr} {osl : Array (Option Value)} {N : List Str} {sp : SpX}
    (lk : K.lookup g = some ⟨oc, od, .func (PySem.W.fnOf name qual params body scope dV kV doc pm an cdv ct), osl⟩) (hcd : PySem.W.codeIn K cdv qual = true) (S : FnScope N [a] scope)
    (hbody : ∀ (A : Around) (outer : List Env) (s : Shared) (H : Hp) (Q : VK) (p : Addr × Obj) (cls : Value) (d : Option Addr), Hot1 A p → RoomH k (A.deeper (envOfC qual scope s.heap.objs.size g cdv)) → L2N.Zn cls d p.2 → (∃ vs, p.2.data = .fields vs) → sp p.1 cls d H Q →
      ∃ t, PSs (cxH (L2N.CX P w) P w K mg base N qual scope g cdv A outer s H (fun _ _ _ => False) p) body t ∧ t { nx := fun _ H1 => Q .non H1, rt := Q } (L2.start N [.ref p.1]) H) :
    FldOk P w K mg base (k + 1) g (PySem.W.fnOf name qual params body scope dV kV doc pm an cdv ct) a sp := by
  refine ⟨fun A outer s H args Q p cls d hr hot hpin hz hf e0 hb hsp => ?_⟩
  have KX : K.In s.heap := e0.mod.kin.keeps fun b o e => (e0.bs b o e).1
  have hkind : ∀ y ∈ [(a, Value.ref p.1)], scope.names.lookup y.1 = some .local ∨ (scope.names.lookup y.1 = some .cell ∧ ((cellsFrom (s.heap.objs.size + 1) scope.names []).lookup y.1).isSome = true) := fun y hy => by
    rw [List.mem_singleton] at hy
    subst hy
    exact (S.par a (List.mem_singleton_self _)).elim .inl fun q => .inr ⟨q, PySem.W.cellsFrom_some _ _ _ (.inl q)⟩
  refine codeAny_call_function hr.depth (KX _ _ lk) rfl S.co S.gen rfl (PySem.W.codeRec_of KX hcd) (hb _ _ _ _ (wpAny_newFunctionEnv_cells S.kind hkind fun env he s1 x => ?_))
  subst he
  refine ⟨(e0.mod.nolimit.keeps fun b o e => (e0.bs b o e).1).keeps x.toInCall.keep, codeAny_func ?_⟩
  obtain ⟨t, ht, hq⟩ := hbody A outer s H Q p cls d hot (hr.deeper _) hz hf hsp
  have I := inv_startH (CX := L2N.CX P w) (P := P) (w := w) (K := K) (mg := mg) (base := base) (f := g) (cd := cdv) (E := fun _ _ _ => False) (us := [.ref p.1]) (vs := [.ref p.1]) S hpin e0 rfl (.cons rfl .nil) x
  refine wpAny_mono (ht.run [] s1 _ H _ I hq) (fun fl s' hs => ?_) fun e s' hs => hs
  match fl, hs with
  | .ret u, ⟨v, _, H', J, rv, q⟩ => exact ⟨v, H', J.os, J.bare, J.base, J.hok, rv, q⟩
  | .next, ⟨_, H', J, q⟩ => exact ⟨V.non, H', J.os, J.bare, J.base, J.hok, rfl, q⟩
  | .brk, ⟨_, _, _, q⟩ => exact q.elim
  | .cont, ⟨_, _, _, q⟩ => exact q.elim
/-- x(e) in the suite -/
def tFld (a : Addr) (cls : Value) (d : Option Addr) (sp : SpX) (te : TE) : TE := fun σ H Q => te σ H fun v H1 => v = .ref a ∧ sp a cls d H1 Q
theorem pe_fld {X : Cx} {k : Nat} {a : Addr} {oe : Obj} {cls : Value} {d : Option Addr} {pn : List (Addr × Obj)} {g : Addr} {fd : FuncData} {x y : Str} {sp : SpX} {e : Expr} {te : TE} {p pos : Pos} (F : FldOk X.prog X.w X.K X.mg X.base k g fd y sp) (hr : RoomH k (X.suite a ((a, oe) :: pn)).A) (hot : Hot1 (X.suite a ((a, oe) :: pn)).A (a, oe))
    (hz : L2N.Zn cls d oe) (hf : ∃ vs, oe.data = .fields vs) (hg : Gl X x) (hm : X.mg x = some (.ref g)) (hk : PySem.W.keepIn X.K (.ref g) = true) (hb : L2.Binds X.K fd [y] []) (he : PE (X.suite a ((a, oe) :: pn)) e te)
    (hdb : (x == ("__debug__" : Str)) = false := by decide) (hst : starEach [e] X.env = (false, eval e X.env) :: starEach [] X.env := by rfl) (hpl : (backTo pos (starEach [] X.env)).any (·.1) = false := by rfl) :
    PE (X.suite a ((a, oe) :: pn)) (.Call (.Name x p) [e] [] pos) (tFld a cls d sp te) := by
  refine ⟨fun pins s σ H Q I h => ?_⟩
  refine wpAny_Call_Name_kw (ld_glob I hg hm ?_ hdb)
  refine PySem.W.callWith_K (h₀ := X.base) I.ok.mod.kin hk ?_ hst hpl
  refine spliced_more (thn (he.run pins s σ H _ I h) fun u s1 hh => ?_) hst
  obtain ⟨v, H1, I1, r1, ev, q⟩ := hh
  subst ev
  obtain rfl : u = Value.ref a := r1
  refine spliced_none ⟨I1.kIn, ?_⟩
  have P1 := I1.pin (a, oe) (List.mem_append_left _ List.mem_cons_self)
  have hpin : PinOk (X.suite a ((a, oe) :: pn)).stack H1 s1 (a, oe) := ⟨P1.1, P1.2.1, fun hm => (List.mem_cons.mp (I1.stkSub a hm)).elim P1.2.2.1 P1.2.2.2.1, P1.2.2.2.2⟩
  refine wpAny_call (codeAny_mono (F.run _ _ s1 H1 ⟨[.ref a], []⟩ Q (a, oe) cls d hr hot hpin hz hf I1.env0 (hb s1 [.ref a] I1.kIn rfl) q) fun r s' hq => ?_)
  cases r with
  | error e =>
    obtain ⟨_, _, _, _, _, _, _, _, _, _, _, _, z⟩ := (show L2N.CX _ _ _ _ _ _ _ _ from hq)
    exact z.elim
  | ok fl =>
    cases fl with
    | ret u => exact I1.after hq
    | next => exact False.elim hq
    | brk => exact False.elim hq
    | cont => exact False.elim hq
end LY

/-! what is raised is caught: its code and its fields, as a tuple -/
namespace FX
open PySem PySem.Spec PyProof.Rows L2 RZ PX XS LY
variable [Tbs]
/-! ### pure -/
/-- the codes and the field that is told of them -/
abbrev FRows := List (List (List Nat) × Str)
def fldX (s : List Nat) (ns : List Str) (fs : List P) : FRows → Option (List P)
  | [] => some []
  | (cs, a) :: r => match cs.any (fun c => decide (c = s)) with
    | true => (lookP ns fs a).map fun p => [p]
    | false => fldX s ns fs r
def strP : P → Option (List Nat)
  | .str s => some s
  | _ => none
def resX (rows : FRows) (cats : List Str) (e : Xn) : Option P := match cats.contains e.cls with
  | true => ((lookP e.ns e.fs "code").bind strP).bind fun s => (fldX s e.ns e.fs rows).bind fun xs => gd (xs.length < 1000) (.tup (.str s :: xs))
  | false => none
/-- try: what the expression is, or what it raises -/
def pTry (rows : FRows) (cats : List Str) (b : PEx) : PEx := fun ρ => match b ρ with
  | .bad => .bad
  | .ok p ρ => .ok (.tup [.str [], p]) ρ
  | .ex e ρ => ofO (resX rows cats e) ρ
omit [Tbs] in
theorem wp_try {rows : FRows} {cats : List Str} {b : PEx} {ρ : Ro} {Q : QP} {E : EP} : wp (pTry rows cats b ρ) Q E = wp (b ρ) (fun p ρ => Q (.tup [.str [], p]) ρ) (fun e ρ => wo (resX rows cats e) fun r => Q r ρ) := by
  unfold pTry
  cases b ρ with
  | bad => rfl
  | ok p ρ => rfl
  | ex e ρ => exact wp_ofO
/-! ### classes that are caught -/
structure CatX (K : PySem.W.Frag) (js attrs : List Str) (c : Str) : Prop where
  hit : PySem.W.exmAny K (.ref (He.ga K c)) (js.map fun j => .ref (He.ga K j)) = some true
  xf : XfC K (He.ga K c)
  no : ∀ f ∈ attrs, PySem.W.findIn K (.ref (He.ga K c)) f = some none
def catB (K : PySem.W.Frag) (js attrs : List Str) (c : Str) : Bool := decide (PySem.W.exmAny K (.ref (He.ga K c)) (js.map fun j => .ref (He.ga K j)) = some true) && (xfB K (He.ga K c) && attrs.all fun f => decide (PySem.W.findIn K (.ref (He.ga K c)) f = some none))
omit [Tbs] in
theorem cat_ok {K : PySem.W.Frag} {js attrs : List Str} {c : Str} (h : catB K js attrs c = true) : CatX K js attrs c := by
  obtain ⟨h1, h⟩ := XS.ba h
  obtain ⟨h2, h3⟩ := XS.ba h
  exact ⟨of_decide_eq_true h1, xfB_ok h2, fun f hf => of_decide_eq_true (List.all_eq_true.mp h3 f hf)⟩
abbrev attrsOf (rows : FRows) : List Str := "code" :: rows.map (·.2)
/-! ### the def that tells the fields -/
theorem repX_ext {K : PySem.W.Frag} {e : Xn} {cls : Value} {d : Option Addr} {F H F' H' : Hp} (r : RepX K e cls d F H) (x : Ext none F H F' H') : RepX K e cls d F' H' := by
  obtain ⟨h1, a, vs, h2, h3, h4, h5, h6⟩ := r
  exact ⟨h1, a, vs, h2, x.hh a _ (by simp) h3, x.nw a h4 (by rw [h3]; rfl), h5, reps_up x.ff h6⟩
theorem tbOk_ext {F H F' H' : Hp} (t : TbOk F H) (x : Ext none F H F' H') : TbOk F' H' := t.fr (A := fun _ => False) (Fr.ext x)
/-- the exception is told of, where it is handled -/
structure FlG (K : PySem.W.Frag) (js : List Str) (rows : FRows) (cats : List Str) (e : Xn) (cls : Value) (d : Option Addr) (s : List Nat) (F H : Hp) : Prop where
  r : RepX K e cls d F H
  ex : Ex F H
  tb : TbOk F H
  cat : CatX K js (attrsOf rows) e.cls
  code : lookP e.ns e.fs "code" = some (.str s)
theorem FlG.up {K : PySem.W.Frag} {js : List Str} {rows : FRows} {cats : List Str} {e : Xn} {cls : Value} {d : Option Addr} {s : List Nat} {F H F' H' : Hp} (g : FlG K js rows cats e cls d s F H) (x : Ext none F H F' H') : FlG K js rows cats e cls d s F' H' :=
  ⟨repX_ext g.r x, x.fh, tbOk_ext g.tb x, g.cat, g.code⟩
theorem FlG.get {K : PySem.W.Frag} {js : List Str} {rows : FRows} {cats : List Str} {e : Xn} {cls : Value} {d : Option Addr} {s : List Nat} {F H : Hp} (g : FlG K js rows cats e cls d s F H) {a : Addr} {i : Nat} {σ : L2.St} {n : Str} {p : P} {Q : VK} (hσ : σ[i]? = some (some (.ref a))) (hn : n ∈ attrsOf rows) (e1 : lookP e.ns e.fs n = some p)
    (k : ∀ v, Rep K p v F → Q v H) : tXfD K a cls d n (tVar i) σ H Q := by
  obtain ⟨h1, dd, vs, h2, h3, h4, h5, h6⟩ := g.r
  obtain ⟨v, hv, rv⟩ := look_rep h6 e1
  exact ⟨_, hσ, rfl, _, dd, _, v, h1, g.cat.xf, g.cat.no n hn, h2, h3, hv, k v rv⟩
def spFld (K : PySem.W.Frag) (js : List Str) (rows : FRows) (cats : List Str) : SpX := fun _ cls d H Q => ∃ (e : Xn) (F : Hp) (s : List Nat) (xs : List P), FlG K js rows cats e cls d s F H ∧ fldX s e.ns e.fs rows = some xs ∧
  ∀ v F2 H2, Ext none F H F2 H2 → Rep K (.tup xs) v F2 → Q v H2
/-- the codes of a row, written as a tuple -/
def tCs : List (List Nat) → TA
  | [] => tNil
  | c :: r => tCons (tC (.str (SX.S c))) (tCs r)
theorem tCs_go {σ : L2.St} {H : Hp} : ∀ {cs : List (List Nat)} {Q : List V → Hp → Prop}, Q (cs.map fun c => .str (SX.S c)) H → tCs cs σ H Q
  | [], Q, h => h
  | c :: r, Q, h => by
    show tCs r σ H fun vs H1 => Q (.str (SX.S c) :: vs) H1
    exact tCs_go h
def tR1 (K : PySem.W.Frag) (a : Addr) (cls : Value) (d : Option Addr) (c : List Nat) : TT := tTest (tOp (rEqq K) (tXfD K a cls d "code" (tVar 0)) (tC (.str (SX.S c))))
def tRn (K : PySem.W.Frag) (a : Addr) (cls : Value) (d : Option Addr) (cs : List (List Nat)) : TT := tTest (tOp (rInn K) (tXfD K a cls d "code" (tVar 0)) (tTup (tCs cs)))
def tRR (K : PySem.W.Frag) (a : Addr) (cls : Value) (d : Option Addr) (n : Str) : TS := tRet (tTup (tCons (tXfD K a cls d n (tVar 0)) tNil))
def tRow (K : PySem.W.Frag) (a : Addr) (cls : Value) (d : Option Addr) (cs : List (List Nat)) : TT := match cs with
  | [c] => tR1 K a cls d c
  | cs => tRn K a cls d cs
def tFldB (K : PySem.W.Frag) (a : Addr) (cls : Value) (d : Option Addr) : FRows → TS
  | [] => tRet (tTup tNil)
  | (cs, n) :: r => tSeq (tIfS (tRow K a cls d cs) (tRR K a cls d n) tNext) (tFldB K a cls d r)
section
variable {K : PySem.W.Frag} {js : List Str} {rows : FRows} {cats : List Str} {e : Xn} {cls : Value} {d : Option Addr} {s : List Nat} {F H : Hp} {a : Addr} {σ : L2.St}
theorem row_go (g : FlG K js rows cats e cls d s F H) (hσ : σ[0]? = some (some (.ref a))) {cs : List (List Nat)} (hl : cs.length ≤ 1000) {Q : Bool → Hp → Prop} (k : ∀ F' H', Ext none F H F' H' → Q (cs.any fun c => decide (c = s)) H') : tRow K a cls d cs σ H Q := by
  have one : ∀ {c : List Nat} {Q : Bool → Hp → Prop}, (∀ F' H', Ext none F H F' H' → Q (decide (s = c)) H') → tR1 K a cls d c σ H Q := fun {c Q} k => by
    unfold tR1 tTest tOp
    refine g.get hσ (List.mem_cons_self ..) g.code fun v rv => ?_
    let C : Cc := ⟨K, [], F, H, fun _ _ _ => False, g.tb⟩
    refine (r_eq (C := C)).run (x := .str s) (y := .str c) (p := .bl (decide (s = c))) g.ex rv rfl ?_ fun u F' H' x ru => ⟨_, ru, k F' H' x⟩
    show gd _ _ = _
    unfold gd
    rw [if_pos (by rfl)]
    rfl
  have many : ∀ {cs : List (List Nat)} {Q : Bool → Hp → Prop}, cs.length ≤ 1000 → (∀ F' H', Ext none F H F' H' → Q (cs.any fun c => decide (c = s)) H') → tRn K a cls d cs σ H Q := fun {cs Q} hl k => by
    unfold tRn tTest tOp
    refine g.get hσ (List.mem_cons_self ..) g.code fun v rv => ?_
    refine tCs_go ⟨by rw [List.length_map]; exact small (by omega), fun p hp => ?_⟩
    have x1 : Ext none F H _ _ := Ext.lay (o := .tup (cs.map fun c => V.str (SX.S c))) g.ex hp
    let C : Cc := ⟨K, [], _, _, fun _ _ _ => False, tbOk_ext g.tb x1⟩
    have rs : Reps K (cs.map P.str) (cs.map fun c => V.str (SX.S c)) (upd F p (.tup (cs.map fun c => V.str (SX.S c)))) := reps_all.mpr (by
      clear hl k hp x1 C
      generalize upd F p (.tup (cs.map fun c => V.str (SX.S c))) = G
      induction cs with
      | nil => exact True.intro
      | cons c r ih => exact ⟨rfl, ih⟩)
    refine (r_in (C := C)).run (x := .str s) (y := .tup (cs.map P.str)) (p := .bl (cs.any fun c => decide (c = s))) x1.fh (rep_up x1.ff rv) ⟨p, _, rfl, .inl upd_same, rs⟩ ?_ fun u F' H' x ru => ⟨_, ru, k F' H' (x1.trans x)⟩
    show (inP (.str s) (.tup (cs.map P.str))).map P.bl = _
    have : inP (.str s) (.tup (cs.map P.str)) = gd (pflat (.str s) = true ∧ (cs.map P.str).all pflat = true) ((cs.map P.str).any fun y => peq y (.str s)) := by
      cases s with
      | nil => rfl
      | cons c r => cases r <;> rfl
    rw [this]
    unfold gd
    rw [if_pos ⟨rfl, List.all_eq_true.mpr fun y hy => by obtain ⟨c, _, rfl⟩ := List.mem_map.mp hy; rfl⟩, List.any_map]
    rfl
  match cs, hl, k with
  | [c], _, k =>
    refine one fun F' H' x => ?_
    have := k F' H' x
    have e2 : ([c].any fun c => decide (c = s)) = decide (s = c) := by
      rw [List.any_cons, List.any_nil, Bool.or_false]
      exact decide_eq_decide.mpr eq_comm
    rw [e2] at this
    exact this
  | [], hl, k => exact many hl k
  | c :: c2 :: r, hl, k => exact many hl k
theorem ret_go {xs : List P} {vs : List V} {Q : VK} (ex : Ex F H) (rs : Reps K xs vs F) (hl : xs.length ≤ 1000) (k : ∀ v F2 H2, Ext none F H F2 H2 → Rep K (.tup xs) v F2 → Q v H2) : vs.length ≤ sizeLine ∧ ∀ p, H p = none → Q (.ref p) (upd H p (.tup vs)) := by
  refine ⟨by rw [← reps_len rs]; exact small (by omega), fun p hp => ?_⟩
  have x1 : Ext none F H _ _ := Ext.lay (o := .tup vs) ex hp
  exact k _ _ _ x1 ⟨p, vs, rfl, .inl upd_same, reps_up x1.ff rs⟩
theorem fld_go {Q : VK} {nx : L2.St → Hp → Prop} (hσ : σ[0]? = some (some (.ref a))) : ∀ {r : FRows} {F H : Hp} {xs : List P}, (∀ q ∈ r, q.2 ∈ attrsOf rows ∧ q.1.length ≤ 1000) → FlG K js rows cats e cls d s F H → fldX s e.ns e.fs r = some xs →
    (∀ v F2 H2, Ext none F H F2 H2 → Rep K (.tup xs) v F2 → Q v H2) → tFldB K a cls d r { nx := nx, rt := Q } σ H
  | [], F, H, xs, hr, g, e1, k => by
    cases e1
    exact ret_go g.ex (show Reps K [] [] F from rfl) (Nat.zero_le _) k
  | (cs, n) :: r, F, H, xs, hr, g, e1, k => by
    obtain ⟨hn, hc⟩ := hr (cs, n) (List.mem_cons_self ..)
    refine row_go g hσ hc fun F' H' x => ?_
    have g' := g.up x
    unfold fldX at e1
    show if _ = true then _ else _
    cases h : cs.any fun c => decide (c = s) with
    | true =>
      rw [h] at e1
      obtain ⟨p, hp, rfl⟩ := Option.map_eq_some_iff.mp e1
      exact g'.get hσ hn hp fun v rv => ret_go g'.ex (reps_one rv) (by simp) fun v2 F2 H2 x2 r2 => k v2 F2 H2 (x.trans x2) r2
    | false =>
      rw [h] at e1
      exact fld_go hσ (fun q hq => hr q (List.mem_cons_of_mem _ hq)) g' e1 fun v2 F2 H2 x2 r2 => k v2 F2 H2 (x.trans x2) r2
end
/-- the def that tells the fields, as it stands -/
structure HasFld (P : Program) (w : World) (K : PySem.W.Frag) (mg : Str → Option Value) (base : Heap) (x : Str) (k : Nat) (a : Str) (sp : SpX) : Prop where
  ex : ∃ g fd, mg x = some (.ref g) ∧ PySem.W.keepIn K (.ref g) = true ∧ L2.Binds K fd [a] [] ∧ FldOk P w K mg base k g fd a sp
section
variable {PP : Program} {w : World} {K : PySem.W.Frag} {mg : Str → Option Value} {base : Heap} {x a : Str} {st : Stmt} {k : Nat} {js : List Str} {rows : FRows} {cats : List Str}
theorem RoomH.units {k : Nat} {A : Around} (r : L2H.RoomH k A) : A.units + 64 < cLine := by have := r.un; omega
theorem Stood.okFld (S : Stood K mg x st) (sc : FnScope [a] [a] (defScope st)) (hrows : ∀ q ∈ rows, q.2 ∈ attrsOf rows ∧ q.1.length ≤ 1000)
    (hb : ∀ (kV doc pm : Value) (an : Option Addr) (cdv ct : Value) (us : List Value), us.length = 1 → bindArgs (PySem.W.fnOf x x (defArgs st) (defBody st) (defScope st) .none kV doc pm an cdv ct) ⟨us, []⟩ = pure (([a] : List Str).zip us))
    (der : ∀ (g : Addr) (cdv : Value) (A : Around) (outer : List Env) (s : Shared) (H : Hp) (p : Addr × Obj) (cls : Value) (d : Option Addr), L2H.RoomH k (A.deeper (envOfC x (defScope st) s.heap.objs.size g cdv)) → Zc cls d p.2 → (∃ vs, p.2.data = .fields vs) →
      PSs (L2H.cxH (L2N.CX PP w) PP w K mg base [a] x (defScope st) g cdv A outer s H (fun _ _ _ => False) p) (defBody st) (tFldB K p.1 cls d rows)) :
    HasFld PP w K mg base x (k + 1) a (spFld K js rows cats) := by
  obtain ⟨f, fd, F, g⟩ := S.ex
  refine ⟨f, fd, g, F.kp, F.bindsN hb, ?_⟩
  obtain ⟨oc, od, dV, kV, doc, pm, an, cdv, ct, osl, rfl, lk, hcd, hD, hK⟩ := F.ex
  refine fld_of lk hcd sc fun A outer s H Q p cls d hot hr hz hf ⟨e, F, s', xs, g, e1, q⟩ => ⟨_, der f cdv A outer s H p cls d hr hz.zc hf, ?_⟩
  exact fld_go rfl hrows g e1 q
end
/-! ### the def that tries -/
def tSui (K : PySem.W.Frag) (a : Addr) (cls : Value) (d : Option Addr) (sp : SpX) : TE := tOp (rAdd K) (tTup (tCons (tXfD K a cls d "code" (tVar 1)) tNil)) (tFld a cls d sp (tVar 1))
def tTryB (PP : Program) (w : World) (K : PySem.W.Frag) (mg : Str → Option Value) (base : Heap) (k : Nat) (js : List Str) (sp : SpX) : TS := fun D σ H =>
  tRet (tTup (tCons (tC (.str "")) (tCons (tAsk PP w K mg base k 0 (wAs3 K (js.map fun j => .ref (He.ga K j)) 1 (fun a cls d => tRet (tSui K a cls d sp)) D)) tNil))) D σ H
/-- what is wished of an exception of the function value -/
def xW (K : PySem.W.Frag) (rows : FRows) (cats : List Str) (S : SL) (Q : VK) : XK := fun cls d H => ∃ (e : Xn) (F : Hp) (r : P), RepX K e cls d F H ∧ Ex F H ∧ TbOk F H ∧ resX rows cats e = some r ∧ ∀ v F2 H2, Ext none F H F2 H2 → Fresh H2 S → Rep K r v F2 → Q v (LY.add H2 S)
def spTry (PP : Program) (w : World) (K : PySem.W.Frag) (mg : Str → Option Value) (base : Heap) (k : Nat) (rows : FRows) (cats : List Str) : Sp := fun vs H Q _ =>
  ∃ (f : Addr) (fo : Obj) (Pre : Hp → Prop) (S : SL) (Hm : Hp) (tl : RD), vs = [.ref f] ∧ H = LY.add Hm S ∧ Fresh Hm S ∧ Hm f = some (FzO fo) ∧ Pre Hm ∧ LamSem PP w K mg base k f fo Pre S tl ∧ (∀ h : Heap, h.get? f = some fo → PySem.W.FnAt f h) ∧
    tl (xW K rows cats S Q) Hm (fun v H1 => Fresh H1 S → ∀ p, LY.add H1 S p = none → Q (.ref p) (upd (LY.add H1 S) p (.tup [.str "", v])))
omit [Tbs] in
theorem add_upd {H : Hp} {S : SL} {p : Addr} {o : HO} (n : S.lookup p = none) : LY.add (upd H p o) S = upd (LY.add H S) p o := by
  funext b
  by_cases hb : b = p
  · subst hb; rw [add_out n, upd_same, upd_same]
  · rw [upd_ne hb]
    cases q : S.lookup b with
    | none => rw [add_out q, add_out q, upd_ne hb]
    | some u => rw [add_in q, add_in q]
/-- a step told with S, and without -/
theorem ext_cut {F H F2 H3 : Hp} {S : SL} (fr : Fresh H S) (fF : ∀ b o, S.lookup b = some o → F b = none) (ex : Ex F H) (x : Ext none F (LY.add H S) F2 H3) : ∃ H2, H3 = LY.add H2 S ∧ Fresh H2 S ∧ Ext none F H F2 H2 := by
  have st : ∀ b o, S.lookup b = some o → H3 b = some (FzO o) := fun b o e => x.hh b _ (by simp) (add_in e)
  refine ⟨cut H3 S, (add_cut st).symm, cut_fresh, x.ff, fun b u e => ?_, fun b u _ e => ?_, fun b z _ => by simp at z, fun b n e => ?_⟩
  · have nb : S.lookup b = none := by
      cases q : S.lookup b with
      | none => rfl
      | some o =>
        have := x.nw b (fF b o q) (by rw [add_in q]; rfl)
        rw [this] at e; cases e
    rw [cut_out nb]; exact x.fh b u e
  · have nb := fr.out e
    rw [cut_out nb]; exact x.hh b u (by simp) (by rw [add_out nb]; exact e)
  · obtain ⟨u, hu⟩ := Option.isSome_iff_exists.mp e
    exact x.nw b n (by rw [add_out (fr.out hu), hu]; rfl)
omit [Tbs] in
theorem ex_add {F H : Hp} {S : SL} (fr : Fresh H S) (ex : Ex F H) : Ex F (LY.add H S) := fun b u e => fr.up (ex b u e)
theorem fF_of {F H : Hp} {S : SL} (fr : Fresh H S) (ex : Ex F H) : ∀ b o, S.lookup b = some o → F b = none := fun b o e => Same.free ex (fr b o e)
theorem repX_add {K : PySem.W.Frag} {e : Xn} {cls : Value} {d : Option Addr} {F H : Hp} {S : SL} (r : RepX K e cls d F H) (fr : Fresh H S) : RepX K e cls d F (LY.add H S) := by
  obtain ⟨h1, a, vs, h2, h3, h4, h5, h6⟩ := r
  exact ⟨h1, a, vs, h2, fr.up h3, h4, h5, h6⟩
theorem tbOk_add {F H : Hp} {S : SL} (t : TbOk F H) (fr : Fresh H S) : TbOk F (LY.add H S) := ⟨t.tabs.ext fun b o e => fr.up e, t.free⟩
omit [Tbs] in
theorem resX_some {rows : FRows} {cats : List Str} {e : Xn} {r : P} (h : resX rows cats e = some r) : cats.contains e.cls = true ∧ ∃ s xs, lookP e.ns e.fs "code" = some (.str s) ∧ fldX s e.ns e.fs rows = some xs ∧ xs.length < 1000 ∧ r = .tup (.str s :: xs) := by
  unfold resX at h
  cases c : cats.contains e.cls with
  | false => rw [c] at h; cases h
  | true =>
    rw [c] at h
    obtain ⟨s, h1, h⟩ := Option.bind_eq_some_iff.mp h
    obtain ⟨xs, h2, h⟩ := Option.bind_eq_some_iff.mp h
    obtain ⟨h3, h4⟩ := gd_some h
    obtain ⟨p, h5, h6⟩ := Option.bind_eq_some_iff.mp h1
    cases p <;> first | (cases h6; done) | skip
    cases h6
    exact ⟨rfl, s, xs, h5, h2, h3, h4.symm⟩
section
variable {PP : Program} {w : World} {K : PySem.W.Frag} {mg : Str → Option Value} {base : Heap} {k : Nat} {js : List Str} {rows : FRows} {cats : List Str}
theorem sui_go {cls : Value} {d : Option Addr} {H : Hp} {S : SL} {Q : VK} {a : Addr} {σ : L2.St} (hc : ∀ c ∈ cats, CatX K js (attrsOf rows) c) (hσ : σ[1]? = some (some (.ref a))) (fr : Fresh H S) (h : xW K rows cats S Q cls d H) : tSui K a cls d (spFld K js rows cats) σ (LY.add H S) Q := by
  obtain ⟨e, F, r, rx, ex, tb, er, k⟩ := h
  obtain ⟨hm, s, xs, e1, e2, e3, rfl⟩ := resX_some er
  have hcat := hc e.cls (List.contains_iff_mem.mp hm)
  have g : FlG K js rows cats e cls d s F (LY.add H S) := ⟨repX_add rx fr, ex_add fr ex, tbOk_add tb fr, hcat, e1⟩
  refine g.get hσ (List.mem_cons_self ..) e1 fun v rv => ⟨by show 1 ≤ sizeLine; exact small (by omega), fun p1 n1 => ?_⟩
  have x1 : Ext none F (LY.add H S) _ _ := Ext.lay (o := .tup [v]) g.ex n1
  have g1 := g.up x1
  refine ⟨_, hσ, rfl, e, _, s, xs, g1, e2, fun w F2 H2 x2 rw_ => ?_⟩
  have g2 := g1.up x2
  let C : Cc := ⟨K, [], _, _, fun _ _ _ => False, g2.tb⟩
  refine (r_add (C := C)).run (x := .tup [.str s]) (y := .tup xs) (p := .tup (.str s :: xs)) x2.fh ?_ (rw_.w x2.fh) ?_ fun u F3 H3 x3 ru => ?_
  · exact rep_up (p := .tup [.str s]) x2.ff ⟨p1, [v], rfl, .inl upd_same, reps_one (rep_up x1.ff rv)⟩
  · show gd _ _ = _
    unfold gd
    rw [if_pos ⟨Nat.zero_lt_one, by show 1 + xs.length ≤ 100000; omega⟩]
    rfl
  · obtain ⟨H4, rfl, fr4, x4⟩ := ext_cut fr (fF_of fr ex) ex ((x1.trans x2).trans x3)
    exact k u F3 H4 x4 fr4 ru
theorem Stood.okTry {x : Str} {st : Stmt} (S : Stood K mg x st) (sc : FnScope ["_law_ask", "_law_e"] ["_law_ask"] (defScope st)) (hc : ∀ c ∈ cats, CatX K js (attrsOf rows) c)
    (hb : ∀ (kV doc pm : Value) (an : Option Addr) (cdv ct : Value) (us : List Value), us.length = 1 → bindArgs (PySem.W.fnOf x x (defArgs st) (defBody st) (defScope st) .none kV doc pm an cdv ct) ⟨us, []⟩ = pure ((["_law_ask"] : List Str).zip us))
    (der : ∀ (fa : Addr) (cdv : Value) (A : Around) (outer : List Env) (sh : Shared) (H : Hp) (E : XK), Room k (A.deeper (envOfC x (defScope st) sh.heap.objs.size fa cdv)) →
      PSs (cxOf (L2N.CX PP w) PP w K mg base ["_law_ask", "_law_e"] x (defScope st) fa cdv A outer sh H E) (defBody st) (tTryB PP w K mg base k js (spFld K js rows cats))) :
    HasF PP w K mg base x st (k + 1) ["_law_ask"] (spTry PP w K mg base k rows cats) := by
  obtain ⟨f, fd, F, g⟩ := S.ex
  refine ⟨f, fd, F, g, ?_, F.bindsN hb⟩
  obtain ⟨oc, od, dV, kV, doc, pm, an, cdv, ct, osl, rfl, lk, hcd, hD, hK⟩ := F.ex
  refine fn_of lk hcd sc (fun vs H Q E ⟨_, _, _, _, _, _, e, _⟩ => by rw [e]; rfl) fun A outer sh H vs Q E hr hsp => ⟨_, der f cdv A outer sh H E hr, ?_⟩
  obtain ⟨fa, fo, Pre, S, Hm, tl, rfl, rfl, fr, hf, hc', L, hfn, ht⟩ := hsp
  refine ⟨fa, fo, Pre, S, Hm, tl, _, xW K rows cats S Q, rfl, rfl, fr, hf, hc', L, hfn, fun v H1 fr1 hv => ?_, fun cls d H1 fr1 hx => ⟨?_, fun a na => sui_go hc rfl fr1 hx⟩, ht⟩
  · exact ⟨by show 2 ≤ sizeLine; exact small (by omega), hv fr1⟩
  · obtain ⟨e, F', r, rx, _, _, er, _⟩ := hx
    rw [rx.1]
    exact (hc e.cls (List.contains_iff_mem.mp (resX_some er).1)).hit
end
/-! ### x(lambda: e) -/
theorem Stt.chW {C : Cc} {ρ : Ro} {σ : L2.St} {F H : Hp} (S : Stt C ρ σ F H) (W : XK) : Stt { C with W := W } ρ σ F H := ⟨S.x, S.len, fun i s h => S.at_ i s h, S.dis⟩
theorem Stt.unW {C : Cc} {ρ : Ro} {σ : L2.St} {F H : Hp} {W : XK} (S : Stt { C with W := W } ρ σ F H) : Stt C ρ σ F H := ⟨S.x, S.len, fun i s h => S.at_ i s h, S.dis⟩
theorem Stp.unW {C : Cc} {ρ ρ' : Ro} {σ : L2.St} {F H F' H' : Hp} {W : XK} (s : Stp { C with W := W } σ ρ F H ρ' F' H') : Stp C σ ρ F H ρ' F' H' := ⟨s.st.unW, s.x, s.ow⟩
theorem Stp.lam {C : Cc} {ρ : Ro} {σ : L2.St} {F H F1 H1 : Hp} (S : Stt C ρ σ F H) (x : LamExt Tbs.T F H F1 H1) : Stp C σ ρ F H ρ F1 H1 := by
  have fr : Fr (fun _ => False) F H F1 H1 := ⟨x.ff, x.fh, fun a o _ g e => x.hh a o g e, x.bb, x.nw, fun _ => x.tk⟩
  exact S.after fr (fun a z => z.elim) rfl fun k s' e => ⟨s', e, .inl ⟨rfl, fun a _ _ z => z⟩⟩
theorem s_try {C : Cc} {PP : Program} {w : World} {mg : Str → Option Value} {base : Heap} {k : Nat} {rows : FRows} {cats : List Str} {t : XK → TE} {b : PEx} (hb : ∀ W, SndE { C with W := W } (t W) b) :
    SndE C (tTryL PP w C.K mg base k Tbs.T (spTry PP w C.K mg base k rows cats) t) (pTry rows cats b) := .mk fun {ρ σ F H Q Qp E} S h kx k => by
  rw [wp_try] at h
  refine ⟨F, S.x.fh, (C.tb.fr S.x).tabs, (C.tb.fr S.x).free, fun f fo Pre S' F1 H1 x hf hf1 hc1 fr hfn L => ⟨f, fo, Pre, S', H1, _, rfl, rfl, fr, hf1, hc1, L, hfn, ?_⟩⟩
  have s0 := Stp.lam S x
  refine (hb _).run (s0.st.chW _) h (fun e cls d ρ' F' H' s r q => ?_) fun p v ρ' F' H' s rp q fr1 a na => ?_
  · obtain ⟨r', er, q⟩ := wo_ex q
    have s1 := s0.trans s.unW
    refine ⟨e, F', r', r, s1.x.fh, C.tb.fr s1.st.x, er, fun v F2 H2 x2 fr2 rv => ⟨H2, rfl, fr2, ?_⟩⟩
    exact k r' v ρ' F2 H2 (s1.trans (Stp.ext s1.st x2)) rv q
  · have s1 := s0.trans s.unW
    obtain ⟨n1, n2⟩ := add_none na
    refine ⟨upd H' a (.tup [.str "", v]), (add_upd n1).symm, fun b o e => ?_, ?_⟩
    · rw [upd_ne fun z => by rw [z, n1] at e; cases e]; exact fr1 b o e
    · have s2 := Stp.lay (o := .tup [.str "", v]) s1.st n2
      refine k (.tup [.str [], p]) _ ρ' _ _ (s1.trans s2) ⟨a, [.str "", v], rfl, .inl upd_same, ?_⟩ q
      exact reps_cons (p := .str []) rfl (reps_one (rep_up s2.x.ff rp))
end FX

/-! a def that makes lambdas; exception classes by one check; the end of a law with lambdas -/
namespace FX
open PySem PySem.Spec PyProof.Rows L2 RZ PX XS LY LamX
variable [Tbs]
omit [Tbs] in
theorem e_sRaise {m : PMx} {ρ : Ro} : sRaise m ρ = (m ρ).st fun e ρ => .ex e ρ := rfl
omit [Tbs] in
theorem e_xMk {c : Str} {code : List Nat} {ns : List Str} {x : PAx} {ρ : Ro} : xMk c code ns x ρ = (x ρ).bind fun ps ρ => (ofO (gd (ps.length = ns.length ∧ ps.length ≤ 900) ()) ρ).bind fun _ ρ => .ok (mkXn c code ns ps) ρ := rfl
/-! ### defs with lambdas -/
structure LawTab (K : PySem.W.Frag) (mg : Str → Option Value) (base : Heap) (x : Str) (c P : Addr) : Prop where
  at_ : ∃ (fa : Addr) (o : Obj) (fd : FuncData), mg x = some (.ref fa) ∧ K.lookup fa = some o ∧ o.data = .func fd ∧ fd.code = .ref c
  tab : TabB base mg c P
  mem : (P, x ++ ".<locals>." ++ "<lambda>") ∈ (Tbs.T : List (Addr × Str))
  uq : ∀ p ∈ (Tbs.T : List (Addr × Str)), p.1 = P → p.2 = x ++ ".<locals>." ++ "<lambda>"
section
variable {P' : Program} {w : World} {K : PySem.W.Frag} {mg : Str → Option Value} {base : Heap} {x q0 : Str} {st : Stmt} {k n : Nat} {N ps : List Str} {c P : Addr}
theorem Stood.okFL (S : Stood K mg x st) (LT : LawTab K mg base x c P) (sc : FnScope N ps (defScope st)) (n : Nat) (hN : N.length = ps.length + n) (s : PSx)
    (hb : ∀ (kV doc pm : Value) (an : Option Addr) (cdv ct : Value) (us : List Value), us.length = ps.length → bindArgs (PySem.W.fnOf x x (defArgs st) (defBody st) (defScope st) .none kV doc pm an cdv ct) ⟨us, []⟩ = pure (ps.zip us))
    {t : XK → TS} (der : ∀ (fa : Addr) (A : Around) (outer : List Env) (sh : Shared) (H : Hp) (E : XK), Room k (A.deeper (envOfC x (defScope st) sh.heap.objs.size fa (.ref c))) →
      OutOk (cxOf (L2N.CX P' w) P' w K mg base N x (defScope st) fa (.ref c) A outer sh H E) E → PSs (cxOf (L2N.CX P' w) P' w K mg base N x (defScope st) fa (.ref c) A outer sh H E) (defBody st) (t E))
    (snd : ∀ io F0 H0 E tb, SndS ⟨K, io, F0, H0, E, tb⟩ (t E) s) : HasF P' w K mg base x st (k + 1) ps (liftF K ps.length (runD n s)) := by
  obtain ⟨f, fd, F, g⟩ := S.ex
  refine ⟨f, fd, F, g, ?_, F.bindsN hb⟩
  obtain ⟨oc, od, dV, kV, doc, pm, an, cdv, ct, osl, rfl, lk, hcd, hD, hK⟩ := F.ex
  obtain ⟨fa, o, fd, h1, h2, h3, h4⟩ := LT.at_
  rw [g] at h1
  cases h1
  rw [lk] at h2
  cases h2
  cases h3
  obtain rfl : cdv = .ref c := h4
  exact fn_of lk hcd sc liftF_len fun A outer sh H vs Q E hr hsp => ⟨t E, der f A outer sh H E hr outOk, body_go hN snd hsp⟩
end
section
variable {P : Program} {w : World} {K : PySem.W.Frag} {mg : Str → Option Value} {base : Heap} {N : List Str} {q : Str} {scope : Scope} {cl : List (Str × Addr)} {f c' : Addr} {A : Around} {outer : List Env} {s : Shared} {H : Hp} {E : XK}
theorem outOkL : OutOk (lamCy P w K mg base N q scope cl f c' A outer s H E) E := by
  have tk := lamCy_takes (P := P) (w := w) (K := K) (mg := mg) (base := base) (N := N) (q := q) (scope := scope) (cl := cl) (f := f) (c' := c') (A := A) (outer := outer) (s := s) (H := H) (E := E)
  exact ⟨L2N.passes_call tk fun _ _ _ _ h => h, passes_of (K := fun e s'' => L2N.CX P w outer H s E e s'') rfl, tk⟩
end
theorem pe_tryF {X : Cx} {x a : Str} {c P : Addr} {k j : Nat} {st : Stmt} {rows : FRows} {cats : List Str} {params : Arguments} {body : Expr} {scope : Scope} {t : XK → TE} {p lpos pos : Pos} {y : Str} (h : HasF X.prog X.w X.K X.mg X.base x st j [a] (spTry X.prog X.w X.K X.mg X.base (k + 1) rows cats)) (LT : LawTab X.K X.mg X.base y c P) (hq : X.env.qual = y ++ ".<locals>.") (hcode : X.env.code = .ref c)
    (hr : Room j X.A) (hfn : ∀ y, X.fn y = true) (hg : Gl X x) (L : lamSB X.env.scope scope = true) (hd : params.defaults = []) (hk0 : params.kw_defaults = [])
    (hbind : ∀ q : Str, LY.BindL q params body scope)
    (hbody : ∀ (cl : List (Str × Addr)) (f c' : Addr) (A : Around) (outer : List Env) (s : Shared) (H : Hp) (E : XK), Room k (A.deeper (PySem.W.envX (X.env.qual ++ "<lambda>") scope s.heap.objs.size f (.ref c') cl)) →
      OutOk (lamCy X.prog X.w X.K X.mg X.base X.N (X.env.qual ++ "<lambda>") scope cl f c' A outer s H E) E → PE (lamCy X.prog X.w X.K X.mg X.base X.N (X.env.qual ++ "<lambda>") scope cl f c' A outer s H E) body (t E))
    (hdb : (x == ("__debug__" : Str)) = false := by decide) :
    PE X (.Call (.Name x p) [.Lambda params body scope lpos] [] pos) (tTryL X.prog X.w X.K X.mg X.base (k + 1) Tbs.T (spTry X.prog X.w X.K X.mg X.base (k + 1) rows cats) t) := by
  obtain ⟨g, fd, F, gl, G, b⟩ := h.ex
  exact pe_try hg gl F.kp G b hr hfn LT.tab hcode (by rw [hq]; exact LT.mem) (by rw [hq]; exact LT.uq) (lamS_by L) hd hk0 (hbind _) (fun cl f c' A outer s H E hr => hbody cl f c' A outer s H E hr outOkL) hdb
/-! ### exception classes -/
def cfnB (K : PySem.W.Frag) (D : Addr) (m : Str) (f : Addr) : Bool := decide (PySem.W.specialIn K (.ref D) "__getattribute__" = some (some (.builtin "type.__getattribute__"))) && (PySem.W.readsIn K D (.type "type") && ((match PySem.W.findCls K (.ref D) (.type "type") m with
  | some (.val (.ref g)) => g == f
  | _ => false) && PySem.W.keepIn K (.ref f)))
theorem cfn_ok {K : PySem.W.Frag} {D f : Addr} {m : Str} (h : cfnB K D m f = true) : CFn K D m f := by
  obtain ⟨h1, h⟩ := XS.ba h
  obtain ⟨h2, h⟩ := XS.ba h
  obtain ⟨h3, h4⟩ := XS.ba h
  refine ⟨of_decide_eq_true h1, h2, ?_, h4⟩
  split at h3
  · rename_i g e
    rw [beq_iff_eq] at h3
    rw [e, h3]
  · cases h3
def excB (K : PySem.W.Frag) (P : Program) (d c : Str) (ns : List Str) : Bool := oexB K (He.ga K c) && (supcB K (He.ga K d) (He.ga K c) && (supB K P (He.ga K d) (He.ma K (He.ga K d) "__init__") && (cfnB K (He.ga K d) "__init__" (He.ma K (He.ga K d) "__init__") &&
  (decide (PySem.W.findIn K (.ref (He.ga K c)) "__init__" = some (some (.ref (He.ma K (He.ga K c) "__init__")))) && (decide (PySem.W.typeIn K (.ref (He.ma K (He.ga K c) "__init__")) = some (.type "function")) && ((ns.all fun f => decide (PySem.W.findIn K (.ref (He.ga K c)) f = some none)) && xfB K (He.ga K c)))))))
theorem stoodX_of {K : PySem.W.Frag} {mg : Str → Option Value} {P : Program} {d c : Str} {st : Stmt} {ns : List Str} (h : excB K P d c ns = true) (fn : ∃ fd, FunD K "__init__" (c ++ ".__init__") (defArgs st) (defBody st) (defScope st) [] [] (He.ma K (He.ga K c) "__init__") fd)
    (gl : mg c = some (.ref (He.ga K c))) (gd : mg d = some (.ref (He.ga K d))) (sup : mg "super" = none) : StoodX K mg P d c st ns := by
  obtain ⟨h1, h⟩ := XS.ba h
  obtain ⟨h2, h⟩ := XS.ba h
  obtain ⟨h3, h⟩ := XS.ba h
  obtain ⟨h4, h⟩ := XS.ba h
  obtain ⟨h5, h⟩ := XS.ba h
  obtain ⟨h6, h⟩ := XS.ba h
  obtain ⟨h7, h8⟩ := XS.ba h
  exact ⟨fn, gl, gd, sup, oex_ok h1, supc_ok h2, h3, cfn_ok h4, of_decide_eq_true h5, of_decide_eq_true h6, fun f hf => of_decide_eq_true (List.all_eq_true.mp h7 f hf), xfB_ok h8⟩
end FX
namespace LY
open PySem PySem.Spec PyProof.Rows L2 LamX
/-- the law's own table: where it is, that it is empty and not of the written part -/
def tabOf (K : PySem.W.Frag) (f : Addr) : Option (Addr × Addr) := match K.lookup f with
  | some ⟨_, _, .func fd, _⟩ => (match fd.code with
    | .ref c => (match K.lookup c with
      | some ⟨_, _, .fields vs, _⟩ => (match (vs[11]? : Option Value) with
        | some (.ref P) => (match K.lookup P with
          | none => some (c, P)
          | some _ => none)
        | _ => none)
      | _ => none)
    | _ => none)
  | _ => none
theorem tabOf_some {K : PySem.W.Frag} {f c P : Addr} (h : tabOf K f = some (c, P)) : ∃ (o : Obj) (fd : FuncData) (oc : Value) (od : Option Addr) (vs : Array Value) (sl : Array (Option Value)), K.lookup f = some o ∧ o.data = .func fd ∧ fd.code = .ref c ∧ K.lookup c = some ⟨oc, od, .fields vs, sl⟩ ∧ vs[11]? = some (.ref P) ∧ K.lookup P = none := by
  unfold tabOf at h
  split at h <;> try (cases h; done)
  rename_i e1
  split at h <;> try (cases h; done)
  rename_i e2
  split at h <;> try (cases h; done)
  rename_i e3
  split at h <;> try (cases h; done)
  rename_i e4
  split at h <;> try (cases h; done)
  rename_i e5
  cases h
  exact ⟨_, _, _, _, _, _, e1, rfl, e2, e3, e4, e5⟩
/-- the end of a law that makes lambdas -/
theorem walk_law {l : PySem.W.OpenLaw} {n k : Nat} {q : Program} {loose : List Str} {XP : (Str → Option Value) → Heap → Prop} {YP : World → Heap → Prop} {d : DefRec} {CX : CXT} {x : Str}
    (hn : l.most = some n) (hn2 : n ≤ sizeLine) (hdf : d.params.defaults = []) (hr : Room k callerA) (hrec : ((recsOf q).any fun e => e.name == d.name) = true)
    (F : ∀ (w : World) (mg : Str → Option Value) (fa : Addr) (h : Heap), YP w h → h.Ns mainGlobals mg → mg d.name = some (.ref fa) →
      ∃ (K : PySem.W.Frag) (fd : FuncData) (c P : Addr) (sp : Sp), K.In h ∧ tabOf K fa = some (c, P) ∧ (∀ (s : Shared) (u : Value), BindsTo s fd ⟨[u], []⟩ [(x, u)]) ∧
        (∀ (H : Hp) (a : Addr) (ns : List Int), ns.length ≤ n → H P = some (.tbl #[]) → SqL K H a (ns.map V.int) → sp [.ref a] H (fun v _ => v = .bl true) fun _ _ _ => False) ∧
        ∀ base : Heap, K.In base → base.Ns mainGlobals mg → TabB base mg c P → FnOk l.prog w K mg base CX k fa fd [x] sp)
    (hCX : ∀ (H : Hp) (s : Shared) (e : Value) (s' : Shared), CX [] H s (fun _ _ _ => False) e s' → False) :
    PySem.W.WalkO q loose XP YP l.row.toRowW d [] (fun f vs => PySem.call f vs) := by
  refine Att.attach_callB hn hdf fun w s₀ s₁ mg mb fa o pm cd doc a vs ns G Y ho hd hcd hmg hobj hints hlen hbits hg => ?_
  obtain ⟨K, fd, c, P, sp, KX, tb, hb, hsp, hF⟩ := F w mg fa _ Y G.T.g hmg
  obtain ⟨o1, fd1, oc1, od1, vs1, sl1, k1, k2, k3, k4, k5, k6⟩ := tabOf_some tb
  obtain ⟨dL, hm, hn1⟩ := List.any_eq_true.mp hrec
  obtain ⟨a', o', fd', c', P', h1, h2, h3, h4, h5, h6⟩ := G.T.tab dL hm
  rw [beq_iff_eq.mp hn1, hmg] at h1
  cases h1
  rw [KX _ _ k1] at h2
  cases h2
  rw [k2] at h3
  cases h3
  rw [k3] at h4
  cases h4
  have hd := PySem.W.CodeHd.of h5 h6
  obtain ⟨⟨oc, vc, e1, _, e3, e4⟩, hP⟩ := h6
  rw [KX _ _ k4] at e1
  cases e1
  cases e3
  rw [k5] at e4
  cases e4
  refine law_callTs (cs := [(c, P)]) KX G.T.g G.T.b G.T.builtins G.T.nolimit hg (fun p hp => ?_) (fun p hp => ?_) (fun p hp => ?_) G.T.bmain hobj hints (Nat.le_trans hlen hn2) hr (fun base b1 b2 b3 => hF base b1 b2 (b3 _ (List.mem_singleton_self _))) hb (fun H hH hS => hsp H a ns hlen (hH _ (List.mem_singleton_self _)) hS) fun H e s' => hCX H s₁ e s'
  · rw [List.mem_singleton] at hp; rw [hp]; exact hP
  · rw [List.mem_singleton] at hp; rw [hp]; exact k6
  · rw [List.mem_singleton] at hp; rw [hp]; exact hd
end LY
namespace LY
open PySem PySem.Spec PyProof.Rows L2 LamX L2H
theorem hot_suite {X : Cx} {a : Addr} {oe : Obj} {cls : Value} {d : Option Addr} {pn : List (Addr × Obj)} (hz : L2N.Zn cls d oe) (hf : ∃ vs, oe.data = .fields vs) : Hot1 (X.suite a ((a, oe) :: pn)).A (a, oe) := by
  obtain ⟨vs, e⟩ := hf
  exact ⟨rfl, vs, e, hz.2.2 vs e⟩
theorem room_suite {X : Cx} {a : Addr} {k : Nat} {pn : List (Addr × Obj)} (hr : Room (k + 1) X.A) : RoomH k (X.suite a pn).A :=
  ⟨by have := hr.dp; show X.A.depth + 3 * k + 5 < _; omega, by have := hr.un; show X.A.units + 16 * k + 200 < _; omega⟩
end LY

/-! raise; calls by keywords -/
namespace FX
open PySem PySem.Spec PyProof.Rows L2 RZ PX XS LY LamX
variable [Tbs]
/-- raise C(..) -/
def tRaise (K : PySem.W.Frag) (c : Str) (code : List Nat) (ns : List Str) (ta : TA) (E : XK) : TS := fun _ σ H => tMkO (He.ga K c) (spX K c code ns) [] ta σ H fun cls d H1 => E cls d H1
theorem ps_raiseX {X : Cx} {E : XK} {c : Str} {k : Nat} {code : List Nat} {ns : List Str} {p pos rpos : Pos} {e : Expr} {es : List Expr} {ta : TA} (K : PySem.W.Frag) (h : HasX X.prog X.w X.K X.mg X.base c k code ns) (hr : Room (k + 1) X.A) (hc : X.calm = true) (oo : OutOk X E) (hg : Gl X c) (ha : PA X (e :: es) ta)
    (hdb : (c == ("__debug__" : Str)) = false := by decide) (he : starEach (e :: es) X.env = (false, eval e X.env) :: starEach es X.env := by rfl) (hpl : (backTo pos (starEach es X.env)).any (·.1) = false := by rfl) (hK : X.K = K := by rfl) :
    PS X (.Raise (some (.Call (.Name c p) (e :: es) [] pos)) none rpos) (tRaise K c code ns ta E) := by subst hK; exact L2N.ps_raise hc oo.tk (pmk_x h hr hg ha hdb he hpl)
theorem ps_raiseX0 {X : Cx} {E : XK} {c : Str} {k : Nat} {code : List Nat} {p pos rpos : Pos} (K : PySem.W.Frag) (h : HasX X.prog X.w X.K X.mg X.base c k code []) (hr : Room (k + 1) X.A) (hc : X.calm = true) (oo : OutOk X E) (hg : Gl X c) (hdb : (c == ("__debug__" : Str)) = false := by decide) (hK : X.K = K := by rfl) :
    PS X (.Raise (some (.Call (.Name c p) [] [] pos)) none rpos) (tRaise K c code [] tNil E) := by subst hK; exact L2N.ps_raise hc oo.tk (pmk_x0 h hr hg hdb)
theorem s_raiseX {C : Cc} {c : Str} {code : List Nat} {ns : List Str} {ta : TA} {x : PAx} (hx : SndA C ta x) : SndS C (tRaise C.K c code ns ta C.W) (sRaise (xMk c code ns x)) := s_raise (m_mk hx)
section
variable {X : Cx} {k n j : Nat} {ps ks : List Str} {sp : Sp} {x : Str} {st : Stmt} {p pos : Pos} {e : Expr} {es : List Expr} {kws : List Keyword} {t tk : TA} {E : XK}
theorem pe_hasFK0 {g : {α : Type} → List α → List α → List α} (h : HasF X.prog X.w X.K X.mg X.base x st k ps sp) (hr : Room k X.A) (hx : Passes (L2N.CX X.prog X.w) X E) (hg : Gl X x) (hkw : PK X kws tk) (kb : KB x st ps 0 ks g)
    (hall : (backToKw pos (keywordEach kws X.env)).all (·.1.isSome) = true := by rfl) (hks : (backToKw pos (keywordEach kws X.env)).filterMap (·.1) = ks := by rfl) (hdb : (x == ("__debug__" : Str)) = false := by decide)
    (hpl : ((backTo pos (starEach [] X.env)).any (·.1) || (backToKw pos (keywordEach kws X.env)).any (·.1.isNone)) = false := by rfl) :
    PE X (.Call (.Name x p) [] kws pos) (tCallN 0 ks.length sp (fun vs zs => g vs zs) E tNil tk) := by
  obtain ⟨f, fd, F, gm, G, b⟩ := h.ex
  refine ⟨fun pins s σ H Q I hq => wpAny_Call_Name_kw (ld_glob I hg gm ?_ hdb)⟩
  refine PySem.W.callWith_KW0 (h₀ := X.base) I.ok.mod.kin F.kp hall (thn (hkw.run pos pins s σ H _ I hq) fun ws s2 hh => ?_) hpl
  obtain ⟨zs, H2, I2, rz, l1, l2, q2⟩ := hh
  refine ⟨I2.kIn, ?_⟩
  rw [hks]
  exact run_fnN (us := []) (vs := []) G hr (kb.bn F) hx I2 .nil rz rfl l2 q2
theorem pe_hasFK {n : Nat} {g : {α : Type} → List α → List α → List α} (h : HasF X.prog X.w X.K X.mg X.base x st k ps sp) (hr : Room k X.A) (hx : Passes (L2N.CX X.prog X.w) X E) (hg : Gl X x) (ha : PA X (e :: es) t) (hkw : PK X kws tk) (kb : KB x st ps n ks g)
    (hall : (backToKw pos (keywordEach kws X.env)).all (·.1.isSome) = true := by rfl) (hks : (backToKw pos (keywordEach kws X.env)).filterMap (·.1) = ks := by rfl) (hdb : (x == ("__debug__" : Str)) = false := by decide)
    (he : starEach (e :: es) X.env = (false, eval e X.env) :: starEach es X.env := by rfl) (hpl : ((backTo pos (starEach (e :: es) X.env)).any (·.1) || (backToKw pos (keywordEach kws X.env)).any (·.1.isNone)) = false := by rfl) :
    PE X (.Call (.Name x p) (e :: es) kws pos) (tCallN n ks.length sp (fun vs zs => g vs zs) E t tk) := by
  obtain ⟨f, fd, F, gm, G, b⟩ := h.ex
  exact pe_callN G hr hg gm F.kp (kb.bn F) hx ha hkw hall hks hdb he hpl
end
def pCallK (n m t : Nat) (f : FL) (g : List P → List P → List P) (x y : PAx) : PEx := fun ρ => (x ρ).bind fun xs ρ => (y ρ).bind fun ys ρ => (ofO (gd (xs.length = n ∧ ys.length = m ∧ (g xs ys).length = t) ()) ρ).bind fun _ ρ => backR [] [] (f ((g xs ys).map Sl.val)) ρ
def nCallK (n m t : Nat) (f : FN) (g : List P → List P → List P) (x y : PAx) : PNx := fun ρ => (x ρ).bind fun xs ρ => (y ρ).bind fun ys ρ => (ofO (gd (xs.length = n ∧ ys.length = m ∧ (g xs ys).length = t) ()) ρ).bind fun _ ρ => backN [] [] (f ((g xs ys).map Sl.val)) ρ
omit [Tbs] in
theorem backR_vals (ps : List P) (r : RF) (ρ : Ro) : backR (ps.map fun _ => none) (ps.map Sl.val) r ρ = backR [] [] r ρ := by
  cases r with
  | bad => rfl
  | ok p os => show R.ok _ _ = R.ok _ _; rw [wb_none, wb_nil]
  | ex e os => show R.ex _ _ = R.ex _ _; rw [wb_none, wb_nil]
omit [Tbs] in
theorem backN_vals (ps : List P) (r : RN) (ρ : Ro) : backN (ps.map fun _ => none) (ps.map Sl.val) r ρ = backN [] [] r ρ := by
  cases r with
  | bad => rfl
  | ok p os => show R.ok _ _ = R.ok _ _; rw [wb_none, wb_nil]
  | ex e os => show R.ex _ _ = R.ex _ _; rw [wb_none, wb_nil]
theorem s_callK {C : Cc} {n m l : Nat} {f : FL} {gV : List V → List V → List V} {gP : List P → List P → List P} {t u : TA} {x y : PAx} (ng : ∀ {F : Hp} {xs ys : List P} {vs ws : List V}, xs.length = n → ys.length = m → Reps C.K xs vs F → Reps C.K ys ws F → Reps C.K (gP xs ys) (gV vs ws) F) (hx : SndA C t x) (hy : SndA C u y) :
    SndE C (tCallN n m (liftF C.K l f) gV C.W t u) (pCallK n m l f gP x y) := .mk fun {ρ σ F H Q Qp E} S h kx k => hx.run S (wp_b h) kx fun xs vs ρ1 F1 H1 s1 rx h => hy.run s1.st (wp_b h) (kx.to s1) fun ys ws ρ2 F2 H2 s2 ry h => by
  obtain ⟨_, e, h⟩ := wp_o (wp_b h)
  obtain ⟨h1, h2, h3⟩ := (gd_some e).1
  have rx := reps_up s2.x.ff rx
  refine ⟨by rw [← reps_len rx]; exact h1, by rw [← reps_len ry]; exact h2, ?_⟩
  rw [← backR_vals (gP xs ys)] at h
  exact lift_go s2.st (nodup_none _) (agok_vals (ng h1 h2 rx ry)) (by rw [List.length_map]; exact h3) h (kx.to (s1.trans s2)) fun p v ρ3 F3 H3 s3 r q => k p v ρ3 F3 H3 ((s1.trans s2).trans s3) r q
theorem n_callK {C : Cc} {n m l : Nat} {f : FN} {gV : List V → List V → List V} {gP : List P → List P → List P} {t u : TA} {x y : PAx} (ng : ∀ {F : Hp} {xs ys : List P} {vs ws : List V}, xs.length = n → ys.length = m → Reps C.K xs vs F → Reps C.K ys ws F → Reps C.K (gP xs ys) (gV vs ws) F) (hx : SndA C t x) (hy : SndA C u y) :
    SndN C (tCallN n m (liftN C.K l f) gV C.W t u) (nCallK n m l f gP x y) := .mk fun {ρ σ F H Q Qp E} S h kx k => hx.run S (wp_b h) kx fun xs vs ρ1 F1 H1 s1 rx h => hy.run s1.st (wp_b h) (kx.to s1) fun ys ws ρ2 F2 H2 s2 ry h => by
  obtain ⟨_, e, h⟩ := wp_o (wp_b h)
  obtain ⟨h1, h2, h3⟩ := (gd_some e).1
  have rx := reps_up s2.x.ff rx
  refine ⟨by rw [← reps_len rx]; exact h1, by rw [← reps_len ry]; exact h2, ?_⟩
  rw [← backN_vals (gP xs ys), wp_backN] at h
  have ok := agok_vals (σ := σ) (ρ := ρ2) (ng h1 h2 rx ry)
  have nd := nodup_none (gP xs ys)
  refine ⟨F2, (gP xs ys).map Sl.val, _, _, s2.x.fh, agok_args s2.st nd ok, C.tb.fr s2.st.x, by rw [List.length_map]; exact h3, h, fun o a os F' H' x oo ⟨n1, n2, hh, n3, n4⟩ q => ?_, fun e cls d os F' H' x oo r q => kx e cls d _ F' H' ((s1.trans s2).trans (s2.st.back nd ok x oo)) r q⟩
  exact k o a hh _ F' H' ((s1.trans s2).trans (s2.st.back nd ok x oo)) ((s1.trans s2).x.back n1) n2 n3 n4 q
omit [Tbs] in
theorem wpCallK {n m t : Nat} {f : FL} {g : List P → List P → List P} {x y : PAx} {ρ : Ro} {Q : QP} {E : EP} : wp (pCallK n m t f g x y ρ) Q E = wp (x ρ) (fun xs ρ => wp (y ρ) (fun ys ρ => (xs.length = n ∧ ys.length = m ∧ (g xs ys).length = t) ∧ wf (f ((g xs ys).map Sl.val)) (fun r os => Q r ρ) (fun e os => E e ρ)) E) E := by simp only [pCallK, wp_bind, wp_ofO, wo_gd, wp_back, wb_nil]
omit [Tbs] in
theorem wpCallKn {n m t : Nat} {f : FN} {g : List P → List P → List P} {x y : PAx} {ρ : Ro} {Q : PO → Ro → Prop} {E : EP} : wp (nCallK n m t f g x y ρ) Q E = wp (x ρ) (fun xs ρ => wp (y ρ) (fun ys ρ => (xs.length = n ∧ ys.length = m ∧ (g xs ys).length = t) ∧ wn (f ((g xs ys).map Sl.val)) (fun r os => Q r ρ) (fun e os => E e ρ)) E) E := by simp only [nCallK, wp_bind, wp_ofO, wo_gd, wp_backN, wb_nil]
/-- x(lambda: e), the world told by hand -/
theorem pe_tryK (PP : Program) (w : World) (K : PySem.W.Frag) (mg : Str → Option Value) (base : Heap) {X : Cx} {x a : Str} {c P : Addr} {k j : Nat} {st : Stmt} {rows : FRows} {cats : List Str} {params : Arguments} {body : Expr} {scope : Scope} {t : XK → TE} {p lpos pos : Pos} {y : Str} (q : Str) (N : List Str) (h : HasF PP w K mg base x st j [a] (spTry PP w K mg base (k + 1) rows cats)) (LT : LawTab K mg base y c P) (hq : X.env.qual = y ++ ".<locals>.") (hcode : X.env.code = .ref c)
    (hr : Room j X.A) (hfn : ∀ y, X.fn y = true) (hg : Gl X x) (L : lamSB X.env.scope scope = true) (hd : params.defaults = []) (hk0 : params.kw_defaults = [])
    (hbind : ∀ q : Str, LY.BindL q params body scope)
    (hbody : ∀ (cl : List (Str × Addr)) (f c' : Addr) (A : Around) (outer : List Env) (s : Shared) (H : Hp) (E : XK), Room k (A.deeper (PySem.W.envX (q ++ "<lambda>") scope s.heap.objs.size f (.ref c') cl)) →
      OutOk (lamCy PP w K mg base N (q ++ "<lambda>") scope cl f c' A outer s H E) E → PE (lamCy PP w K mg base N (q ++ "<lambda>") scope cl f c' A outer s H E) body (t E))
    (hdb : (x == ("__debug__" : Str)) = false := by decide) (e1 : X.prog = PP := by rfl) (e2 : X.w = w := by rfl) (e3 : X.K = K := by rfl) (e4 : X.mg = mg := by rfl) (e5 : X.base = base := by rfl) (e6 : X.env.qual = q := by rfl) (e7 : X.N = N := by rfl) :
    PE X (.Call (.Name x p) [.Lambda params body scope lpos] [] pos) (tTryL PP w K mg base (k + 1) Tbs.T (spTry PP w K mg base (k + 1) rows cats) t) := by
  subst e1 e2 e3 e4 e5 e6 e7
  exact pe_tryF h LT hq hcode hr hfn hg L hd hk0 hbind hbody hdb
end FX

/-! the law's promise where it makes lambdas -/
namespace FX
open PySem PySem.Spec PyProof.Rows L2 RZ PX LamX
/-- all but the table at P -/
def noTab (H : Hp) (P : Addr) : Hp := fun b => if b = P then none else H b
theorem noTab_ne {H : Hp} {P b : Addr} (h : b ≠ P) : noTab H P b = H b := if_neg h
theorem sqL_noTab {K : PySem.W.Frag} {H : Hp} {P a : Addr} {vs : List V} {ps : Array Value} (h : SqL K H a vs) (hP : H P = some (.tbl ps)) : SqL K (noTab H P) a vs := by
  rcases h with z | z
  · by_cases e : a = P
    · subst e
      rcases z with z | ⟨o, z⟩ <;> (rw [hP] at z; cases z)
    · refine .inl ?_
      unfold Rd at z ⊢
      rw [noTab_ne e]; exact z
  · exact .inr z
theorem sp_law_tab [Tbs] {K : PySem.W.Frag} {H : Hp} {a P : Addr} {q : Str} {ns : List Int} (hT : (Tbs.T : List (Addr × Str)) = [(P, q)]) (hl : ns.length ≤ 63) (hP : H P = some (.tbl #[])) (hS : SqL K H a (ns.map V.int)) : sp_lawG K [.ref a] H (fun v _ => v = .bl true) fun _ _ _ => False :=
  ⟨noTab H P, a, ns, fun b o e => by
    by_cases z : b = P
    · subst z; unfold noTab at e; rw [if_pos rfl] at e; cases e
    · rw [noTab_ne z] at e; exact e, ⟨fun p hp => by
    rw [hT, List.mem_singleton] at hp
    rw [hp]; exact ⟨#[], hP, True.intro, fun pos cv hc => by
      have z : codeAmong pos [] = some cv := hc
      simp [codeAmong] at z⟩, fun p hp => by
    rw [hT, List.mem_singleton] at hp
    rw [hp]; exact if_pos rfl⟩, rfl, sqL_noTab hS hP, hl, fun _ => rfl⟩
theorem law_tab [Tbs] {K : PySem.W.Frag} {mg : Str → Option Value} {base : Heap} {x : Str} {f c P : Addr} (h : LY.tabOf K f = some (c, P)) (hf : mg x = some (.ref f)) (hT : (Tbs.T : List (Addr × Str)) = [(P, x ++ ".<locals>." ++ "<lambda>")]) (tb : TabB base mg c P) : LawTab K mg base x c P := by
  obtain ⟨o, fd, oc, od, vs, sl, h1, h2, h3, _⟩ := LY.tabOf_some h
  refine ⟨⟨f, o, fd, hf, h1, h2, h3⟩, tb, by rw [hT]; exact List.mem_singleton_self _, fun p hp _ => ?_⟩
  rw [hT, List.mem_singleton] at hp
  rw [hp]
end FX
/-! ### the head's Hook, with the run's own names beside -/
namespace HeY
open PySem PySem.Spec PyProof.Rows L2
def asY (g : Addr → Option Obj) (n : Nat) : List Addr := He.asD g n ++ [cStatics]
def obsY (n : Nat) (fa : List He.Fa) (fn : List He.DefD) (ex : PySem.W.Frag → Bool) (g : Addr → Option Obj) : He.AlX := (He.obsT fa fn [] (He.frT g (asY g n)), ex (He.frT g (asY g n)))
theorem saysY_of {n : Nat} {fa : List He.Fa} {fn : List He.DefD} {ex : PySem.W.Frag → Bool} {w : World} {h : Heap} (e : obsY n fa fn ex h.get? = He.valX fn [] w) : He.SaysX fa fn [] [] ex w h (He.frT h.get? (asY h.get? n)) :=
  ⟨congrArg (fun z : He.AlX => z.1) e, congrArg (fun z : He.AlX => z.2) e, fun _ hp => absurd hp List.not_mem_nil, fun _ hp => absurd hp List.not_mem_nil, fun _ hp => absurd hp List.not_mem_nil⟩
def hookY (n : Nat) (fa : List He.Fa) (fn : List He.DefD) (ex : PySem.W.Frag → Bool) : PySem.W.Hook where
  α := He.AlX
  obs := fun s => obsY n fa fn ex s.heap.get?
  val := fun w => He.valX fn [] w
  says := fun w h => ∃ K : PySem.W.Frag, K.In h ∧ He.SaysX fa fn [] [] ex w h K
  of := fun _ _ e => ⟨_, He.frT_in, saysY_of e⟩
  keeps := fun _ _ _ ⟨K, hK, c⟩ k => ⟨K, PySem.W.Frag.In.keeps hK k, ⟨c.t, c.more, c.hd, c.out, fun p hp => k _ _ (c.empty p hp)⟩⟩
theorem obsY_eq {n : Nat} {fa : List He.Fa} {fn : List He.DefD} {ex : PySem.W.Frag → Bool} {g : Addr → Option Obj} {s : Shared} (h : ∀ a, g a = s.heap.get? a) : obsY n fa fn ex g = (hookY n fa fn ex).obs s := by
  have e : g = s.heap.get? := funext h
  rw [e] <;> rfl
end HeY

/-! == != & | by the own defs of a class (instances with a dict) -/
namespace FX
open PySem PySem.Spec PyProof.Rows L2 RZ PX
/-- x op y, both instances of the class at C, by a def with the reading sp -/
def rOwn2 (C : Addr) (sp : Sp) (E : XK) : R2 := fun x y H Q => ∃ a dx fs b dy gs, x = .ref a ∧ y = .ref b ∧ H a = some (.ins C dx fs) ∧ H b = some (.ins C dy gs) ∧ sp [x, y] H Q E
/-- .. the answer turned round -/
def rOwnN (C : Addr) (sp : Sp) (E : XK) : R2 := fun x y H Q => ∃ a dx fs b dy gs, x = .ref a ∧ y = .ref b ∧ H a = some (.ins C dx fs) ∧ H b = some (.ins C dy gs) ∧ sp [x, y] H (fun v H' => ∃ r, v = .bl r ∧ Q (.bl (!r)) H') E
theorem ne_bind (self : Value) : bindSpecial (.builtin "object.__ne__") self = pure (.builtin "object.__ne__", [self]) :=
  (Slot.of (T := "object") (name := "__ne__") (owner := "object") (n := "__ne__") (by rw [typeLookup_type, builtinLookup_eq_fast]; kernel_rfl) (by decide +kernel) (by decide +kernel) (by decide +kernel)
    (.inl (by decide +kernel)) (by rw [isSubtype_type]; kernel_rfl)).bind self
theorem entry_ne : entryFor table "object.__ne__" = some Builtin.«object.__ne__» := entryFor_of_tree (by kernel_rfl)
theorem ne_plain : plainId "object.__ne__" = true := by decide +kernel
theorem ne_kind : builtinKind "object.__ne__" = some .slot := by decide +kernel
theorem ne_split : splitId "object.__ne__" = some ("object", "__ne__") := by decide +kernel
theorem ne_args (a b : Value) : argsOk "object.__ne__" ⟨[a, b], []⟩ := by unfold argsOk; kernel_rfl
section
open PySem.W
variable {prog : Program} {w : World} {A : Around} {E : Value → Shared → Prop} {s : Shared} {K : PySem.W.Frag} {x C f : Addr} {ox : Obj} {od : Option Obj} {b tb : Value}
theorem ne_run {Q : Value → Shared → Prop} (hu : A.in1.units < cLine) (X : K.In s.heap) (I : InstAt s.heap x ox C od) (h2 : subIn K (.ref C) (.type "object") = some true)
    (hs : findIn K (.ref C) "__eq__" = some (some (.ref f))) (hf : isFn K (.ref f) = true)
    (h : wpAny (model prog w) A.in1 (call (.ref f) [.ref x, b]) (fun v s' => ∃ r, v = .bool r ∧ Q (.bool (!r)) s') E s) : wpAny (model prog w) A (call (.builtin "object.__ne__") [.ref x, b]) Q E s := by
  refine wpAny_call (codeAny_call_builtin ne_plain entry_ne (check_slot ne_kind ne_split (I.type.andThen (looks_subIn X h2)) (ne_args _ _) ?_))
  unfold Builtin.«object.__ne__» slotArgs
  refine wpAny_bind (wpAny_pure ?_)
  dsimp only
  refine wpAny_bind (wpAny_cRoomFor hu ?_)
  refine wpAny_bind (ifBound_K X I hs hf (wpAny_mono h (fun v s' hv => ?_) fun _ _ e => e))
  obtain ⟨r, rfl, q⟩ := hv
  exact wpAny_bind (wpAny_truthy_bool (wpAny_pure q))
theorem ne_K {L : Addr} {h₀ : Heap} {m : Str → Option Value} {Q : Value → Shared → Prop} (hu : A.units < cLine) (hu1 : A.in1.units < cLine) (X : K.In s.heap) (I : InstAt s.heap x ox C od) (hb : Looks (model prog w) s.heap (typeOf b) (.ref C))
    (h1 : findIn K (.ref C) "__ne__" = some (some (.builtin "object.__ne__"))) (h2 : subIn K (.ref C) (.type "object") = some true)
    (hs : findIn K (.ref C) "__eq__" = some (some (.ref f))) (hf : isFn K (.ref f) = true)
    (h : wpAny (model prog w) A.in1 (call (.ref f) [.ref x, b]) (fun v s' => ∃ r, v = .bool r ∧ Q (.bool (!r)) s') E s) : wpAny (model prog w) A (richCompare .NotEq (.ref x) b) Q E s := by
  have run : wpAny (model prog w) A (call (.builtin "object.__ne__") [.ref x, b]) (fun v s' => (∃ r, v = .bool r) ∧ Q v s') E s := ne_run hu1 X I h2 hs hf (wpAny_mono h (fun v s' ⟨r, e, q⟩ => ⟨r, e, ⟨_, rfl⟩, q⟩) fun _ _ e => e)
  have one : wpAny (model prog w) A (tryCompare (.ref x) "__ne__" b) (fun r s' => ∃ v, r = some v ∧ Q v s') E s := by
    unfold tryCompare
    refine wpAny_bind ?_
    simp only [callSpecialIfBound?, bindSpecialIfBound?]
    refine wpAny_holding (wpAny_bind (wpAny_bind (wpAny_bind (I.type.here ((looks_findIn X h1).here ?_)))))
    have fin : wpAny (model prog w) A (call (.builtin "object.__ne__") ([.ref x] ++ [b]) >>= fun v => pure (some v)) (fun r s' => wpAny (model prog w) A (match r with
      | some .notImplemented | none => pure none
      | some v => pure (some v)) (fun r s' => ∃ v, r = some v ∧ Q v s') E s') E s := wpAny_bind (wpAny_mono run (fun v s' h' => by
        obtain ⟨⟨r, rfl⟩, q⟩ := h'
        exact wpAny_pure (wpAny_pure ⟨_, rfl, q⟩)) fun _ _ h' => h')
    refine wpAny_bind (wpAny_askSetting (wpAny_ite ?_))
    split
    · exact wpAny_bind (by rw [ne_bind]; exact wpAny_pure (wpAny_pure (by exact fin)))
    · exact wpAny_tryCatch (wpAny_bind (by rw [ne_bind]; exact wpAny_pure (wpAny_pure (by exact fin))))
  unfold richCompare
  simp only [oneThing_ref]
  refine wpAny_holding (wpAny_bind (wpAny_cRoomFor hu ?_))
  refine wpAny_bind (I.type.here (wpAny_bind (hb.here ?_)))
  rw [bne_self_eq_false]
  simp only [Bool.false_eq_true, if_false]
  refine wpAny_bind (wpAny_pure ?_)
  simp only [Bool.false_eq_true, if_false]
  refine wpAny_bind (wpAny_mono one (fun r s' z => ?_) fun _ _ e => e)
  obtain ⟨v, rfl, hq⟩ := z
  exact wpAny_pure hq
end
theorem inst_of {X : Cx} {pins : List (Addr × Obj)} {σ : L2.St} {H : Hp} {s : Shared} {a C dx : Addr} {fs : List (Str × V)} (I : Inv X pins σ H s) (e : H a = some (.ins C dx fs)) : ∃ od, PySem.W.InstAt s.heap a (PySem.W.instObj C dx) C (some od) := by
  obtain ⟨mA, O, _, _, _, _⟩ := ins_get I.hok e
  obtain ⟨od, J, _⟩ := O.look
  exact ⟨od, J⟩
section
variable {X : Cx} {k j : Nat} {c m q : Str} {st : Stmt} {ps : List Str} {sp : Sp} {E : XK}
theorem notFirst_self (K : PySem.W.Frag) (C : Addr) : PySem.W.notFirst K C (.ref C) = true := by
  unfold PySem.W.notFirst
  rw [beq_self_eq_true, Bool.true_or]
theorem op_eqOwn (K : PySem.W.Frag) (h : MetF X.prog X.w K X.mg X.base k c "__eq__" q st ps sp) (hr : Room j X.A) (hk : k ≤ j) (hx : Passes (L2N.CX X.prog X.w) X E) (hK : X.K = K := by rfl) : OpR X (compareOp .Eq) (rOwn2 (He.ga K c) sp E) := by
  subst hK
  obtain ⟨f, fd, hc, hm, F, b, _⟩ := h.ex
  intro pins s σ H x y v u Q I rx ry hh
  obtain ⟨a, dx, fs, b', dy, gs, rfl, rfl, ha, hb, q⟩ := hh
  cases (show v = Value.ref a from rx)
  cases (show u = Value.ref b' from ry)
  obtain ⟨od, J⟩ := inst_of I ha
  obtain ⟨od', J'⟩ := inst_of I hb
  obtain ⟨m', hF⟩ := I.fr
  show wpAny _ _ (richCompare .Eq (.ref a) (.ref b')) _ _ _
  refine PySem.W.cmp_K (op := .Eq) (tb := .ref (He.ga X.K c)) hr.units0 hF I.ok.mod.kin J J'.type (notFirst_self _ _) hm.at_ hm.fn ?_
  refine wpAny_mono (run_fn (us := [.ref a, .ref b']) (vs := [.ref a, .ref b']) (dvs := []) (ds := []) F (hr.mono hk) b .nil hx I (.cons rfl (.cons rfl .nil)) (by rw [List.append_nil]; exact q)) (fun w s' z => ?_) fun _ _ x => x
  obtain ⟨z', H', I', rz, qz⟩ := z
  exact SlX.cmpback rz ⟨z', H', I', rz, qz⟩
theorem op_bin {op : Operator} (K : PySem.W.Frag) (h : MetF X.prog X.w K X.mg X.base k c (PySem.dunder op.info.2) q st ps sp) (hr : Room j X.A) (hk : k ≤ j) (hx : Passes (L2N.CX X.prog X.w) X E) (hs : PySem.W.selfFirst K (He.ga K c) = true) (hK : X.K = K := by rfl) :
    OpR X (binaryOp op) (rOwn2 (He.ga K c) sp E) := by
  subst hK
  obtain ⟨f, fd, hc, hm, F, b, _⟩ := h.ex
  intro pins s σ H x y v u Q I rx ry hh
  obtain ⟨a, dx, fs, b', dy, gs, rfl, rfl, ha, hb, q⟩ := hh
  cases (show v = Value.ref a from rx)
  cases (show u = Value.ref b' from ry)
  obtain ⟨od, J⟩ := inst_of I ha
  obtain ⟨od', J'⟩ := inst_of I hb
  obtain ⟨m', hF⟩ := I.fr
  refine PySem.W.binop_K hF I.ok.mod.kin J J'.type hs hm.at_ hm.fn ?_
  refine wpAny_mono (run_fn (us := [.ref a, .ref b']) (vs := [.ref a, .ref b']) (dvs := []) (ds := []) F (hr.mono hk) b .nil hx I (.cons rfl (.cons rfl .nil)) (by rw [List.append_nil]; exact q)) (fun w s' z => ?_) fun _ _ x => x
  obtain ⟨z', H', I', rz, qz⟩ := z
  exact SlX.cmpback rz ⟨z', H', I', rz, qz⟩
theorem op_andOwn (K : PySem.W.Frag) (h : MetF X.prog X.w K X.mg X.base k c "__and__" q st ps sp) (hr : Room j X.A) (hk : k ≤ j) (hx : Passes (L2N.CX X.prog X.w) X E) (hs : PySem.W.selfFirst K (He.ga K c) = true) (hK : X.K = K := by rfl) : OpR X (binaryOp .BitAnd) (rOwn2 (He.ga K c) sp E) :=
  op_bin (op := .BitAnd) (k := k) (j := j) K (by rw [show PySem.dunder (Operator.BitAnd).info.2 = ("__and__" : Str) by decide +kernel]; exact h) hr hk hx hs hK
theorem op_orOwn (K : PySem.W.Frag) (h : MetF X.prog X.w K X.mg X.base k c "__or__" q st ps sp) (hr : Room j X.A) (hk : k ≤ j) (hx : Passes (L2N.CX X.prog X.w) X E) (hs : PySem.W.selfFirst K (He.ga K c) = true) (hK : X.K = K := by rfl) : OpR X (binaryOp .BitOr) (rOwn2 (He.ga K c) sp E) :=
  op_bin (op := .BitOr) (k := k) (j := j) K (by rw [show PySem.dunder (Operator.BitOr).info.2 = ("__or__" : Str) by decide +kernel]; exact h) hr hk hx hs hK
/-- what != by the object's own __ne__ asks of a class -/
def neB (K : PySem.W.Frag) (c : Str) : Bool := decide (PySem.W.findIn K (.ref (He.ga K c)) "__ne__" = some (some (.builtin "object.__ne__"))) && decide (PySem.W.subIn K (.ref (He.ga K c)) (.type "object") = some true)
theorem op_neOwn (K : PySem.W.Frag) (h : MetF X.prog X.w K X.mg X.base k c "__eq__" q st ps sp) (hr : Room (j + 1) X.A) (hk : k ≤ j) (hx : Passes (L2N.CX X.prog X.w) X E) (hn : neB K c = true) (hK : X.K = K := by rfl) : OpR X (compareOp .NotEq) (rOwnN (He.ga K c) sp E) := by
  subst hK
  unfold neB at hn
  rw [Bool.and_eq_true] at hn
  have h1 := of_decide_eq_true hn.1
  have h2 := of_decide_eq_true hn.2
  obtain ⟨f, fd, hc, hm, F, b, _⟩ := h.ex
  intro pins s σ H x y v u Q I rx ry hh
  obtain ⟨a, dx, fs, b', dy, gs, rfl, rfl, ha, hb, q⟩ := hh
  cases (show v = Value.ref a from rx)
  cases (show u = Value.ref b' from ry)
  obtain ⟨od, J⟩ := inst_of I ha
  obtain ⟨od', J'⟩ := inst_of I hb
  have XK := I.kIn
  show wpAny _ _ (richCompare .NotEq (.ref a) (.ref b')) _ _ _
  refine ne_K (L := X.env.locals) (h₀ := X.base) (m := X.mg) hr.units0 (hr.in1).units0 XK J J'.type h1 h2 hm.at_ hm.fn ?_
  have r2 : Vals [.ref a, .ref b'] [.ref a, .ref b'] := .cons rfl (.cons rfl .nil)
  have hl : ([.ref a, .ref b'] : List Value).length = ps.length := by rw [← r2.length]; exact F.len _ _ _ _ q
  refine wpAny_call (codeAny_mono (F.run X.A.in1 X.stack s H ⟨[.ref a, .ref b'], []⟩ ([.ref a, .ref b'] ++ []) [.ref a, .ref b'] _ E (Room.in1 (hr.mono (Nat.succ_le_succ hk))) I.env0.in1 (b s [.ref a, .ref b'] I.kIn (by rw [List.append_nil]; exact hl)) r2 q) fun r s' hq => ?_)
  cases r with
  | error e => exact hx pins σ H s e s' I hq
  | ok fl =>
    cases fl with
    | ret u =>
      obtain ⟨v, H', I', rv, k, rfl, q'⟩ := I.after hq
      cases (show u = Value.bool k from rv)
      exact ⟨k, rfl, .bl (!k), H', I', rfl, q'⟩
    | next => exact False.elim hq
    | brk => exact False.elim hq
    | cont => exact False.elim hq
end
/-! ### the readings -/
variable [Tbs]
/-- an instance of c -/
def isC (c : Str) : P → Bool
  | .ins d _ _ => d == c
  | _ => false
omit [Tbs] in
theorem isC_some {c : Str} {p : P} (h : isC c p = true) : ∃ ns fs, p = .ins c ns fs := by
  cases p <;> first | (cases h; done) | skip
  rename_i d ns fs
  cases (beq_iff_eq.mp h : d = c)
  exact ⟨ns, fs, rfl⟩
/-- a op b by the def f of the class c -/
def pOwn2 (c : Str) (f : FL) (a b : PEx) : PEx := fun ρ => (a ρ).bind fun p ρ => (b ρ).bind fun q ρ => (ofO (gd (isC c p = true ∧ isC c q = true) ()) ρ).bind fun _ ρ => backR [none, none] [.val p, .val q] (f [.val p, .val q]) ρ
/-- a != b by the own == -/
def pOwnN (c : Str) (f : FL) (a b : PEx) : PEx := fun ρ => (pOwn2 c f a b ρ).bind fun p ρ => (ofO (match p with | .bl r => some (.bl (!r)) | _ => none) ρ)
theorem s_own2 {C : Cc} {c : Str} {f : FL} {ta tb : TE} {a b : PEx} (ha : SndE C ta a) (hb : SndE C tb b) : SndE C (tOp (rOwn2 (He.ga C.K c) (liftF C.K 2 f) C.W) ta tb) (pOwn2 c f a b) := .mk fun {ρ σ F H Q Qp E} S h kx k => ha S (wp_b h) kx fun p v ρ1 F1 H1 s1 rp h => hb s1.st (wp_b h) (kx.to s1) fun q u ρ2 F2 H2 s2 rq h => by
  obtain ⟨_, e, h⟩ := wp_o (wp_b h)
  obtain ⟨h1, h2⟩ := (gd_some e).1
  obtain ⟨ns, fs, rfl⟩ := isC_some h1
  obtain ⟨ms, gs, rfl⟩ := isC_some h2
  have rp0 := rep_up s2.x.ff rp
  have rq0 := rq
  obtain ⟨ad, dx, vs, rfl, p1, p2, p3⟩ := rp0
  obtain ⟨bd, dy, ws, rfl, q1, q2, q3⟩ := rq
  refine ⟨ad, dx, _, bd, dy, _, rfl, rfl, s2.x.fh _ _ p1, s2.x.fh _ _ q1, ?_⟩
  exact lift_go (js := [none, none]) (xs := [.val (.ins c ns fs), .val (.ins c ms gs)]) s2.st (nodup_of (js := [none, none]) rfl) ⟨⟨_, rfl, rep_up s2.x.ff rp⟩, ⟨_, rfl, rq0⟩, True.intro⟩ rfl h (kx.to (s1.trans s2)) fun p v ρ3 F3 H3 s3 r q => k p v ρ3 F3 H3 ((s1.trans s2).trans s3) r q
theorem s_ownN {C : Cc} {c : Str} {f : FL} {ta tb : TE} {a b : PEx} (ha : SndE C ta a) (hb : SndE C tb b) : SndE C (tOp (rOwnN (He.ga C.K c) (liftF C.K 2 f) C.W) ta tb) (pOwnN c f a b) := .mk fun {ρ σ F H Q Qp E} S h kx k => ha S (wp_b (wp_b h)) kx fun p v ρ1 F1 H1 s1 rp h => hb s1.st (wp_b h) (kx.to s1) fun q u ρ2 F2 H2 s2 rq h => by
  obtain ⟨_, e, h⟩ := wp_o (wp_b h)
  obtain ⟨h1, h2⟩ := (gd_some e).1
  obtain ⟨ns, fs, rfl⟩ := isC_some h1
  obtain ⟨ms, gs, rfl⟩ := isC_some h2
  have rp0 := rep_up s2.x.ff rp
  have rq0 := rq
  obtain ⟨ad, dx, vs, rfl, p1, p2, p3⟩ := rp0
  obtain ⟨bd, dy, ws, rfl, q1, q2, q3⟩ := rq
  refine ⟨ad, dx, _, bd, dy, _, rfl, rfl, s2.x.fh _ _ p1, s2.x.fh _ _ q1, ?_⟩
  exact lift_go (js := [none, none]) (xs := [.val (.ins c ns fs), .val (.ins c ms gs)]) s2.st (nodup_of (js := [none, none]) rfl) ⟨⟨_, rfl, rep_up s2.x.ff rp⟩, ⟨_, rfl, rq0⟩, True.intro⟩ rfl h (kx.to (s1.trans s2)) fun p v ρ3 F3 H3 s3 r h => by
    obtain ⟨q, e, h9⟩ := wp_o h
    cases p <;> first | (cases e; done) | skip
    cases e
    cases r
    exact ⟨_, rfl, k (.bl _) _ ρ3 F3 H3 ((s1.trans s2).trans s3) rfl h9⟩
section
variable {Q : P → Ro → Prop} {E : EP} {ρ : Ro} {a b : PEx}
omit [Tbs] in
theorem wpOwn2 {c : Str} {f : FL} : wp (pOwn2 c f a b ρ) Q E = wp (a ρ) (fun p ρ => wp (b ρ) (fun q ρ => (isC c p = true ∧ isC c q = true) ∧ wf (f [.val p, .val q]) (fun r os => Q r (wb [none, none] [.val p, .val q] os ρ)) (fun e os => E e (wb [none, none] [.val p, .val q] os ρ))) E) E := by
  simp only [pOwn2, wp_bind, wp_ofO, wo_gd, wp_back]
def notV : P → Option P
  | .bl r => some (.bl (!r))
  | _ => none
omit [Tbs] in
theorem wo_notV {b : Bool} {Q : P → Prop} : wo (notV (.bl b)) Q = Q (.bl (!b)) := rfl
omit [Tbs] in
theorem wpOwnN {c : Str} {f : FL} : wp (pOwnN c f a b ρ) Q E = wp (pOwn2 c f a b ρ) (fun p ρ => wo (notV p) fun q => Q q ρ) E := by
  unfold pOwnN
  rw [wp_bind]
  exact congrFun (congrArg (wp _) (funext fun p => funext fun ρ => wp_ofO)) _
end
end FX

/-! static methods: C.m(..) -/
namespace FX
open PySem PySem.Spec PyProof.Rows L2 RZ PX
/-- the def behind the static method m of the class c -/
def sAd (K : PySem.W.Frag) (c m : Str) : Addr := match PySem.W.recIn K (He.ma K (He.ga K c) m) "staticmethod" with
  | some (.ref g :: _) => g
  | _ => 0
/-- what the class must have -/
def smB (K : PySem.W.Frag) (c m : Str) : Bool := PySem.W.readsIn K (He.ga K c) (.type "type") && (decide (PySem.W.specialIn K (.ref (He.ga K c)) "__getattribute__" = some (some (.builtin "type.__getattribute__"))) &&
  (decide (PySem.W.typeIn K (.ref (He.ga K c)) = some (.type "type")) && ((match PySem.W.findCls K (.ref (He.ga K c)) (.type "type") m with
    | some (.get a b d e) => decide (a = .builtin "staticmethod.__get__") && (decide (b = .ref (He.ma K (He.ga K c) m)) && (decide (d = .none) && decide (e = .ref (He.ga K c))))
    | _ => false) && ((match PySem.W.recIn K (He.ma K (He.ga K c) m) "staticmethod" with
    | some (.ref _ :: _) => true
    | _ => false) && PySem.W.keepIn K (.ref (sAd K c m))))))
structure SmFact (K : PySem.W.Frag) (c m : Str) : Prop where
  rd : PySem.W.readsIn K (He.ga K c) (.type "type") = true
  ga : PySem.W.specialIn K (.ref (He.ga K c)) "__getattribute__" = some (some (.builtin "type.__getattribute__"))
  ty : PySem.W.typeIn K (.ref (He.ga K c)) = some (.type "type")
  at_ : PySem.W.findCls K (.ref (He.ga K c)) (.type "type") m = some (.get (.builtin "staticmethod.__get__") (.ref (He.ma K (He.ga K c) m)) .none (.ref (He.ga K c)))
  rc : ∃ rest, PySem.W.recIn K (He.ma K (He.ga K c) m) "staticmethod" = some (.ref (sAd K c m) :: rest)
  kp : PySem.W.keepIn K (.ref (sAd K c m)) = true
theorem smB_ok {K : PySem.W.Frag} {c m : Str} (h : smB K c m = true) : SmFact K c m := by
  obtain ⟨h1, h⟩ := He.ba h
  obtain ⟨h2, h⟩ := He.ba h
  obtain ⟨h3, h⟩ := He.ba h
  obtain ⟨h4, h⟩ := He.ba h
  obtain ⟨h5, h6⟩ := He.ba h
  refine ⟨h1, of_decide_eq_true h2, of_decide_eq_true h3, ?_, ?_, h6⟩
  · split at h4
    · rename_i a b d e q
      obtain ⟨a1, h4⟩ := He.ba h4
      obtain ⟨a2, h4⟩ := He.ba h4
      obtain ⟨a3, a4⟩ := He.ba h4
      rw [q, of_decide_eq_true a1, of_decide_eq_true a2, of_decide_eq_true a3, of_decide_eq_true a4]
    · cases h4
  · split at h5
    · rename_i g r q
      exact ⟨r, by unfold sAd; rw [q]⟩
    · cases h5
/-- where the def stands, for the head -/
def fnWS (K : PySem.W.Frag) (d : He.DefD) : He.FnW := match K.lookup (sAd K d.at_.1 (d.at_.2.getD "")) with
  | some ⟨_, _, .func fd, _⟩ => some (fd.name, fd.qualname, fd.params, fd.body, fd.scope, fd.globals, fd.closure, fd.builtins)
  | _ => none
def okS (K : PySem.W.Frag) (d : He.DefD) : Bool := smB K d.at_.1 (d.at_.2.getD "") && (match K.lookup (sAd K d.at_.1 (d.at_.2.getD "")) with
  | some ⟨_, _, .func fd, _⟩ => PySem.W.codeIn K fd.code d.qual && (He.dflB K fd.defaults (d.dvs K) && He.kwdB K fd.kwdefaults (d.kws K))
  | _ => false)
theorem funS {K : PySem.W.Frag} {d : He.DefD} (e : fnWS K d = d.val) (c : okS K d = true) : ∃ fd, FunD K d.name d.qual d.params d.body d.scope (d.dvs K) (d.kws K) (sAd K d.at_.1 (d.at_.2.getD "")) fd := by
  obtain ⟨sm, c2⟩ := He.ba c
  have kp := (smB_ok sm).kp
  unfold fnWS at e
  cases q : K.lookup (sAd K d.at_.1 (d.at_.2.getD "")) with
  | none =>
    rw [q] at c2
    cases c2
  | some o =>
    obtain ⟨oc, od, dt, osl⟩ := o
    rw [q] at c2 e
    cases dt with
    | func fd =>
      obtain ⟨n1, n2, n3, n4, n5, n6, n7, n8, n9, n10, n11, n12, n13, n14, n15⟩ := fd
      have e2 : (some (n1, n2, n3, n4, n5, n6, n7, n15) : He.FnW) = some (d.name, d.qual, d.params, .stmts d.body, d.scope, mainGlobals, [], builtinsNs) := e
      simp only [Option.some.injEq, Prod.mk.injEq] at e2
      obtain ⟨h1, h2, h3, h4, h5, h6, h7, h8⟩ := e2
      subst h1 h2 h3 h4 h5 h6 h7 h8
      have c3 : (PySem.W.codeIn K n13 d.qual && (He.dflB K n8 (d.dvs K) && He.kwdB K n9 (d.kws K))) = true := c2
      obtain ⟨k1, k2⟩ := He.ba c3
      obtain ⟨k3, k4⟩ := He.ba k2
      exact ⟨_, ⟨oc, od, n8, n9, n10, n11, n12, n13, n14, osl, rfl, q, k1, He.dflB_ok k3, He.kwdB_ok k4⟩, kp⟩
    | _ => cases c2
theorem smS {K : PySem.W.Frag} {d : He.DefD} (c : okS K d = true) : SmFact K d.at_.1 (d.at_.2.getD "") := smB_ok (He.ba c).1
/-! ### the walk -/
structure StoodT (K : PySem.W.Frag) (mg : Str → Option Value) (c m q : Str) (st : Stmt) : Prop where
  ex : ∃ fd, FunD K m q (defArgs st) (defBody st) (defScope st) [] [] (sAd K c m) fd ∧ SmFact K c m ∧ mg c = some (.ref (He.ga K c))
structure SmF (P : Program) (w : World) (K : PySem.W.Frag) (mg : Str → Option Value) (base : Heap) (k : Nat) (c m q : Str) (st : Stmt) (ps : List Str) (sp : Sp) : Prop where
  ex : ∃ fd, SmFact K c m ∧ mg c = some (.ref (He.ga K c)) ∧ FnOk P w K mg base (L2N.CX P w) k (sAd K c m) fd ps sp ∧ Binds K fd ps [] ∧ FunD K m q (defArgs st) (defBody st) (defScope st) [] [] (sAd K c m) fd
section
variable [Tbs]
variable {P' : Program} {w : World} {K : PySem.W.Frag} {mg : Str → Option Value} {base : Heap} {c m q0 : Str} {st : Stmt} {k j : Nat} {N ps : List Str}
/-- THE RULE: a static method by its pure reading -/
theorem StoodT.okF (S : StoodT K mg c m q0 st) (sc : FnScope N ps (defScope st)) (n : Nat) (hN : N.length = ps.length + n) (s : PSx)
    (hb : ∀ (kV doc pm : Value) (an : Option Addr) (cdv ct : Value) (us : List Value), us.length = ps.length → bindArgs (PySem.W.fnOf m q0 (defArgs st) (defBody st) (defScope st) .none kV doc pm an cdv ct) ⟨us, []⟩ = pure (ps.zip us))
    {t : XK → TS} (der : ∀ (fa : Addr) (cdv : Value) (A : Around) (outer : List Env) (sh : Shared) (H : Hp) (E : XK), Room k (A.deeper (envOfC q0 (defScope st) sh.heap.objs.size fa cdv)) →
      OutOk (cxOf (L2N.CX P' w) P' w K mg base N q0 (defScope st) fa cdv A outer sh H E) E → PSs (cxOf (L2N.CX P' w) P' w K mg base N q0 (defScope st) fa cdv A outer sh H E) (defBody st) (t E))
    (snd : ∀ io F0 H0 E tb, SndS ⟨K, io, F0, H0, E, tb⟩ (t E) s) : SmF P' w K mg base (k + 1) c m q0 st ps (liftF K ps.length (runD n s)) := by
  obtain ⟨fd, F, c1, g1⟩ := S.ex
  refine ⟨fd, c1, g1, ?_, F.bindsN hb, F⟩
  obtain ⟨oc, od, dV, kV, doc, pm, an, cdv, ct, osl, rfl, lk, hcd, hD, hK⟩ := F.ex
  exact fn_of lk hcd sc liftF_len fun A outer sh H vs Q E hr hsp => ⟨t E, der _ cdv A outer sh H E hr outOk, body_go hN snd hsp⟩
end
section
variable {X : Cx} {k j : Nat} {c m q : Str} {st : Stmt} {ps : List Str} {sp : Sp} {e : Expr} {es : List Expr} {p pos apos : Pos} {t : TA} {E : XK}
/-- C.m(e, ..) -/
theorem pe_smF {pl : Sem Bool} (h : SmF X.prog X.w X.K X.mg X.base k c m q st ps sp) (hr : Room k X.A) (hx : Passes (L2N.CX X.prog X.w) X E) (hg : Gl X c) (ha : PA X (e :: es) t)
    (hdb : (c == ("__debug__" : Str)) = false := by decide) (hst : starEach (e :: es) X.env = (false, eval e X.env) :: starEach es X.env := by rfl) (hpl : (backTo pos (starEach es X.env)).any (·.1) = false := by rfl)
    (ht : eval (.Call (.Attribute (.Name c p) m apos) (e :: es) [] pos) X.env = (do
      let ov ← eval (.Name c p) X.env
      standAt apos.atName
      let (f, first) ← holding [ov] (getMethod ov m pl)
      callWith pos f first (backTo pos (starEach (e :: es) X.env)) (backToKw pos (keywordEach [] X.env))) := by rfl) :
    PE X (.Call (.Attribute (.Name c p) m apos) (e :: es) [] pos) (tCall sp [] E t) := by
  obtain ⟨fd, sm, gm, G, b, _⟩ := h.ex
  obtain ⟨rest, rc⟩ := sm.rc
  refine ⟨fun pins s σ H Q I h => ?_⟩
  refine PySem.W.methodCall_KW (pl := pl) (ld_glob I hg gm ?_ hdb) ht
  obtain ⟨m', hF⟩ := I.fr
  refine PySem.W.method_cls I.kIn sm.ga ?_
  refine PySem.W.cls_sm hF I.ok.mod.kin sm.ty sm.rd sm.at_ rc rfl ?_
  have I1 := I.tok (s.toks + 1)
  refine PySem.W.callWith_K (first := []) (h₀ := X.base) I1.ok.mod.kin sm.kp (thn (ha.run pos pins _ σ H _ I1 h) fun us s2 ⟨vs, H2, I2, r, q2⟩ => ⟨I2.kIn, ?_⟩) hst hpl
  exact run_fn G hr b .nil hx I2 r q2
end
end FX
/-! ### the head's Hook, with static methods -/
namespace HeZ
open PySem PySem.Spec PyProof.Rows L2
abbrev AlZ : Type := He.AlX × List He.FnW
def valZ (fn fs : List He.DefD) (w : World) : AlZ := (He.valX fn [] w, fs.map He.DefD.val)
def obsZ (n : Nat) (fa : List He.Fa) (fn fs : List He.DefD) (ex : PySem.W.Frag → Bool) (g : Addr → Option Obj) : AlZ := (HeY.obsY n fa fn ex g, fs.map fun d => FX.fnWS (He.frT g (HeY.asY g n)) d)
def Says (fa : List He.Fa) (fn fs : List He.DefD) (ex : PySem.W.Frag → Bool) (w : World) (h : Heap) (K : PySem.W.Frag) : Prop := He.SaysX fa fn [] [] ex w h K ∧ fs.map (fun d => FX.fnWS K d) = fs.map He.DefD.val
theorem says_of {n : Nat} {fa : List He.Fa} {fn fs : List He.DefD} {ex : PySem.W.Frag → Bool} {w : World} {h : Heap} (e : obsZ n fa fn fs ex h.get? = valZ fn fs w) : Says fa fn fs ex w h (He.frT h.get? (HeY.asY h.get? n)) :=
  ⟨HeY.saysY_of (congrArg (fun z : AlZ => z.1) e), congrArg (fun z : AlZ => z.2) e⟩
def hookZ (n : Nat) (fa : List He.Fa) (fn fs : List He.DefD) (ex : PySem.W.Frag → Bool) : PySem.W.Hook where
  α := AlZ
  obs := fun s => obsZ n fa fn fs ex s.heap.get?
  val := fun w => valZ fn fs w
  says := fun w h => ∃ K : PySem.W.Frag, K.In h ∧ Says fa fn fs ex w h K
  of := fun _ _ e => ⟨_, He.frT_in, says_of e⟩
  keeps := fun _ _ _ ⟨K, hK, c⟩ k => ⟨K, PySem.W.Frag.In.keeps hK k, ⟨⟨c.1.t, c.1.more, c.1.hd, c.1.out, fun p hp => k _ _ (c.1.empty p hp)⟩, c.2⟩⟩
theorem obsZ_eq {n : Nat} {fa : List He.Fa} {fn fs : List He.DefD} {ex : PySem.W.Frag → Bool} {g : Addr → Option Obj} {s : Shared} (h : ∀ a, g a = s.heap.get? a) : obsZ n fa fn fs ex g = (hookZ n fa fn fs ex).obs s := by
  have e : g = s.heap.get? := funext h
  rw [e] <;> rfl
theorem def_s {fs : List He.DefD} {K : PySem.W.Frag} (c : fs.map (fun d => FX.fnWS K d) = fs.map He.DefD.val) (i : Nat) {d : He.DefD} (ok : FX.okS K d = true) (hd : fs[i]? = some d := by rfl) : ∃ fd, FunD K d.name d.qual d.params d.body d.scope (d.dvs K) (d.kws K) (FX.sAd K d.at_.1 (d.at_.2.getD "")) fd := by
  have e2 : (fs.map fun d => FX.fnWS K d)[i]? = (fs.map He.DefD.val)[i]? := by rw [c]
  rw [List.getElem?_map, List.getElem?_map, hd] at e2
  exact FX.funS (Option.some.inj e2) ok
end HeZ

/-! starred items, bool(x), isinstance(x, C) of an own class -/
namespace FX
open PySem PySem.Spec PyProof.Rows L2 RZ PX C8 StX
theorem k_bool : CallR X (.type "bool") (fun xs H Q => (∃ i, xs = [.int i] ∧ Q (.bl (i != 0)) H) ∨ ∃ k, xs = [.bl k] ∧ Q (.bl k) H) := call_bool1
def insCB (K : PySem.W.Frag) (c : Str) : Bool := decide (PySem.W.findIn K (.ref (He.ga K c)) "__class__" = some (some (.builtin "object.__class__"))) && (decide (PySem.W.specialIn K (.builtin "object.__class__") "__get__" = some (some (.builtin "getset_descriptor.__get__"))) &&
  (decide (PySem.W.takesIn K (.builtin "object.__class__") = some true) && (decide (PySem.W.mroIn K (He.ga K c) (.type "object") = some true) && decide (PySem.W.kitOne K (.ref (He.ga K c)) (.ref (He.ga K c)) = some true))))
theorem insCB_ok {K : PySem.W.Frag} {c : Str} (hc : Cls K (He.ga K c)) (h : insCB K c = true) : InsC K (He.ga K c) := by
  obtain ⟨h1, h⟩ := He.ba h
  obtain ⟨h2, h⟩ := He.ba h
  obtain ⟨h3, h⟩ := He.ba h
  obtain ⟨h4, h5⟩ := He.ba h
  exact ⟨hc, of_decide_eq_true h1, of_decide_eq_true h2, of_decide_eq_true h3, of_decide_eq_true h4, of_decide_eq_true h5⟩
def rIsC (C : Addr) : List V → Hp → VK → Prop := fun xs H Q => ∃ a dx fs, xs = [.ref a, .ref C] ∧ H a = some (.ins C dx fs) ∧ Q (.bl true) H
theorem k_isC (K : PySem.W.Frag) {c : Str} (h : InsC K (He.ga K c)) (hK : X.K = K := by rfl) : CallR X (.builtin "isinstance") (rIsC (He.ga K c)) := by subst hK; exact call_isC h
/-- the class read by its name -/
theorem pe_clsN {x : Str} {a : Addr} {pos : Pos} (hg : Gl X x) (hm : X.mg x = some (.ref a)) (hd : (x == ("__debug__" : Str)) = false := by decide) : PE X (.Name x pos) (tC (.ref a)) := pe_glob hg hm rfl hd
theorem k_star (K : PySem.W.Frag) {e : Expr} {es : List Expr} {p : Pos} {te : TE} {t : TA} (he : PE X e te) (hr : PA X es t) (hs : starEach (.Starred e p :: es) X.env = (true, eval e X.env) :: starEach es X.env := by rfl) (hK : X.K = K := by rfl) : PA X (.Starred e p :: es) (tStar K te t) := by subst hK; exact pa_star he hr hs
variable [Tbs]
/-- what a starred item stands for -/
def seqP : P → Option (List P)
  | .lst xs => some xs
  | .tup xs => some xs
  | _ => none
def aStar (a : PEx) (x : PAx) : PAx := fun ρ => (a ρ).bind fun p ρ => (ofO (seqP p) ρ).bind fun ps ρ => (x ρ).bind fun qs ρ => .ok (ps ++ qs) ρ
def fBoolOf : FLp
  | [.int i] => some (.bl (i != 0))
  | [.bl k] => some (.bl k)
  | _ => none
def pIsC (c : Str) (a : PEx) : PEx := fun ρ => (a ρ).bind fun p ρ => ofO (gd (isC c p = true) (.bl true)) ρ
section
variable {C : Cc} {ta : TE} {a : PEx} {t : TA} {x : PAx}
theorem s_star (ha : SndW C ta a) (hx : SndA C t x) : SndA C (tStar C.K ta t) (aStar a x) := .mk fun {ρ σ F H Q Qp E} S h kx k => ha S (wp_b h) kx fun p v ρ1 F1 H1 s1 r h => by
  obtain ⟨ps, e, h⟩ := wp_o (wp_b h)
  cases p <;> first | (cases e; done) | skip
  · cases e
    obtain ⟨b, vs, rfl, h1, h2⟩ := r
    exact ⟨b, vs, rfl, .inr (SqL.of h1), hx s1.st (wp_b h) (kx.to s1) fun qs ws ρ2 F2 H2 s2 rs h => k _ (vs ++ ws) ρ2 F2 H2 (s1.trans s2) (reps_app (reps_up s2.x.ff h2) rs) h⟩
  · cases e
    obtain ⟨b, vs, rfl, h1, h2⟩ := r
    exact ⟨b, vs, rfl, .inl (TupAt.sq (TupAt.up s1.x.fh h1)), hx s1.st (wp_b h) (kx.to s1) fun qs ws ρ2 F2 H2 s2 rs h => k _ (vs ++ ws) ρ2 F2 H2 (s1.trans s2) (reps_app (reps_up s2.x.ff h2) rs) h⟩
theorem r_boolOf : SndL C (fun xs H Q => (∃ i, xs = [.int i] ∧ Q (.bl (i != 0)) H) ∨ ∃ k, xs = [.bl k] ∧ Q (.bl k) H) fBoolOf := .mk fun {F H Q xs p vs} e rs h k => by
  obtain ⟨x, rfl, h⟩ := one_of (f := fun x => fBoolOf [x]) (fun _ => rfl) rfl (fun x y r => by cases x <;> rfl) h
  obtain ⟨v, rfl, r⟩ := repsW1 (xs := []) rs
  cases x <;> first | (cases h; done) | skip
  · cases r; cases h
    exact .inr ⟨_, rfl, k (.bl _) F H (Ext.refl e) rfl⟩
  · cases r; cases h
    exact .inl ⟨_, rfl, k (.bl _) F H (Ext.refl e) rfl⟩
theorem s_isC {c : Str} (ha : SndE C ta a) : SndE C (tCB (rIsC (He.ga C.K c)) (tCons ta (tCons (tC (.ref (He.ga C.K c))) tNil))) (pIsC c a) := .mk fun {ρ σ F H Q Qp E} S h kx k => ha S (wp_b h) kx fun p v ρ1 F1 H1 s1 rp h => by
  obtain ⟨q, e, h9⟩ := wp_o h
  obtain ⟨h1, rfl⟩ := gd_some e
  obtain ⟨ns, fs, rfl⟩ := isC_some h1
  obtain ⟨b, dx, vs, rfl, p1, p2, p3⟩ := rp
  exact ⟨b, dx, _, rfl, s1.x.fh _ _ p1, k (.bl true) _ ρ1 F1 H1 s1 rfl h9⟩
end
section
variable {Q : P → Ro → Prop} {E : EP} {ρ : Ro} {a : PEx} {x : PAx}
omit [Tbs] in
theorem wpStar {Q : List P → Ro → Prop} : wp (aStar a x ρ) Q E = wp (a ρ) (fun p ρ => wo (seqP p) fun ps => wp (x ρ) (fun qs ρ => Q (ps ++ qs) ρ) E) E := by simp only [aStar, wp_bind, wp_ofO, wp_ok]
omit [Tbs] in
theorem e_seq_l {xs : List P} : seqP (.lst xs) = some xs := rfl
omit [Tbs] in
theorem e_seq_t {xs : List P} : seqP (.tup xs) = some xs := rfl
omit [Tbs] in
theorem e_bool_i {z : Int} : fBoolOf [.int z] = some (.bl (z != 0)) := rfl
omit [Tbs] in
theorem e_bool_b {b : Bool} : fBoolOf [.bl b] = some (.bl b) := rfl
omit [Tbs] in
theorem wpIsC {c : Str} : wp (pIsC c a ρ) Q E = wp (a ρ) (fun p ρ => isC c p = true ∧ Q (.bl true) ρ) E := by simp only [pIsC, wp_bind, wp_ofO, wo_gd]
omit [Tbs] in
theorem e_isC {c : Str} {ns : List Str} {fs : List P} : isC c (.ins c ns fs) = true := beq_self_eq_true c
end
end FX

/-! [e for a in xs if .. for b in ys if ..] -/
namespace FX
open PySem PySem.Spec PyProof.Rows L2 RZ PX
theorem wipe_sub [Tbs] {σ : L2.St} {vs vs1 : List Nat} (h : ∀ i ∈ vs1, i ∈ vs) : wipe (wipe σ vs1) vs = wipe σ vs :=
  wipe_ext (by rw [wipe_length]) fun j hj => wipe_out fun z => hj (h j z)
variable [Tbs]
def lc2X (vs : List Nat) (g : PGx) (t : PTx) (w1 : PIx) (vs1 : List Nat) (g1 : PGx) (t1 : PTx) (e : PEx) : List P → Ro → R (List P)
  | [], ρ => .ok [] ρ
  | x :: xs, ρ => (ofO (g x ρ) ρ).bind fun ρ1 _ => (t ρ1).noX.bind fun c ρ2 => pIte c
      ((w1 ρ2).noX.bind fun ys ρ3 => (ofO (gd (ys.length < 300) ()) ρ3).bind fun _ ρ3 => (lcX vs1 g1 t1 e ys (wipeP ρ3 vs1)).bind fun zs ρ4 => (lc2X vs g t w1 vs1 g1 t1 e xs (wipeP ρ4 vs)).bind fun us ρ5 => .ok (zs ++ us) ρ5)
      (lc2X vs g t w1 vs1 g1 t1 e xs (wipeP ρ2 vs))
def pLc2 (w : PIx) (vs : List Nat) (g : PGx) (t : PTx) (w1 : PIx) (vs1 : List Nat) (g1 : PGx) (t1 : PTx) (e : PEx) : PNx := fun ρ => (w ρ).bind fun xs ρ =>
  (ofO (gd (xs.length < 300 ∧ (vs.all fun v => (sl ρ v).obj.isNone) = true) ()) ρ).bind fun _ ρ => (lc2X vs g t w1 vs1 g1 t1 e xs (wipeP ρ vs)).bind fun ys r => .ok (.lst ys) (unw ρ r vs)
theorem n_lc2 {C : Cc} {wi wi1 : TI} {w w1 : PIx} {g g1 : TG} {pg pg1 : PGx} {vs vs1 : List Nat} {tt tt1 : TT} {m m1 : PTx} {ta : TE} {a : PEx} (hv : ∀ i ∈ vs1, i ∈ vs) (hi : SndI C wi w) (hg : SndG C.nx vs g pg) (ht : SndT C.nx tt m)
    (hi1 : SndI C.nx wi1 w1) (hg1 : SndG C.nx vs1 g1 pg1) (ht1 : SndT C.nx tt1 m1) (he : SndE C.nx ta a) : SndN C (tLc2 wi g tt wi1 g1 tt1 ta vs vs1) (pLc2 w vs pg m w1 vs1 pg1 m1 a) := .mk fun {ρ σ F H Q Qp E} S h kx k => hi S (wp_b h) kx fun xs J ρ0 F0 H0 s0 wk h => by
  obtain ⟨_, e0, h⟩ := wp_o (wp_b h)
  obtain ⟨⟨hz, hn⟩, _⟩ := gd_some e0
  have hn' : ∀ v ∈ vs, (sl ρ0 v).obj = none := fun v hv => by
    have := List.all_eq_true.mp hn v hv
    cases hq : (sl ρ0 v).obj with
    | none => rfl
    | some o => rw [hq] at this; cases this
  have h := wp_b h
  intro D hD
  have S0 := s0.st
  have D0 := S0.x.back hD
  have noD : ∀ {a : Addr}, OwnAt ρ0 σ a → a ≠ D := fun {a} z e => S0.noOwn hD (e ▸ z)
  let Pv : Nat → Hp → Prop := fun i Hi => ∃ Fi us ys ρi, Fr (OwnAt ρ0 σ) F0 H0 Fi Hi ∧ Stt C ρi (wipe σ vs) Fi Hi ∧ (∀ a, OwnAt ρi (wipe σ vs) a → OwnAt ρ0 σ a) ∧ Hi D = some (.lst us) ∧ Fi D = none ∧ Reps C.K ys us Fi ∧ us.length ≤ 300 * i ∧
    wp (lc2X vs pg m w1 vs1 pg1 m1 a (xs.drop i) ρi) (fun zs r => Qp (.lst (ys ++ zs)) (unw ρ0 r vs)) E
  have Fr0 : Fr (OwnAt ρ0 σ) F0 H0 F0 (upd H0 D (.lst [])) := Fr.ext (Ext.own S0.x.fh hD)
  refine ⟨fun i m Hi => m = xs.length - i ∧ i ≤ xs.length ∧ Pv i Hi, ⟨xs.length, by omega, Nat.zero_le _, F0, [], [], wipeP ρ0 vs, Fr0, (Stp.own S0 hD).st.wipe vs, fun a z => own_wipe z, upd_same, Same.free S0.x.fh hD, rfl, Nat.zero_le _, wp_mono h (fun _ _ q => q) fun _ _ q => q⟩, ?_⟩
  rintro i n Hi ⟨rfl, hi, Fi, us, ys, ρi, X, Si, ow, hDi, nFi, A, ul, hw⟩
  by_cases hlt : i < xs.length
  · have gx : xs[i]? = some xs[i] := List.getElem?_eq_getElem hlt
    rw [List.drop_eq_getElem_cons hlt] at hw
    refine .inr ⟨wk.goes i Fi Hi hlt ⟨X.ff, X.fh⟩, fun H' => Pv (i + 1) H', fun H' p => ⟨xs.length - (i + 1), by omega, rfl, hlt, p⟩, fun v H' y => ?_⟩
    obtain ⟨F1, x1, x', hx', rx⟩ := wk.yields i Fi Hi v H' hlt ⟨X.ff, X.fh⟩ y
    rw [gx] at hx'
    cases hx'
    have s1 := Stp.ext Si x1
    have X1 := X.trans (B := fun _ => False) (Fr.ext x1) fun _ z => z.elim
    have hD1 : H' D = some (.lst us) := x1.hh D _ (by simp) hDi
    have nF1 : F1 D = none := x1.nw D nFi (by rw [hDi]; rfl)
    have A1 := reps_up x1.ff A
    obtain ⟨ρ1, e1, hw⟩ := wp_o (wp_b hw)
    refine hg.run (ρ := ρi) (σ := wipe σ vs) s1.st.nx rx e1 fun σ' S' hwp ow1 => ⟨hwp.trans wipe_wipe, ?_⟩
    have hwp' : wipe σ' vs = wipe σ vs := hwp.trans wipe_wipe
    have hw := wp_b hw
    rw [wp_noX] at hw
    refine ht S' hw xok_no.e fun c ρ2 F2 H2 s2 hw => ?_
    have ow2 : ∀ a, OwnAt ρ2 σ' a → OwnAt ρ0 σ a := fun a z => ow a (ow1 a (s2.ow a z))
    have X2 := X1.trans s2.x fun a z => .inl (ow a (ow1 a z))
    have notD : ¬ OwnAt ρ1 σ' D := fun z => noD (ow _ (ow1 _ z)) rfl
    have hD2 : H2 D = some (.lst us) := s2.x.hh D _ notD (fun _ z => by cases z) hD1
    have nF2 : F2 D = none := s2.x.nw D nF1 (by rw [hD1]; rfl)
    have A2 := reps_up s2.x.ff A1
    show if c = true then _ else _
    cases c with
    | true =>
      have hw := wp_b (show wp ((w1 ρ2).noX.bind _) _ _ from hw)
      rw [wp_noX] at hw
      refine hi1 s2.st hw xok_no.e fun zs J1 ρ3 F3 H3 s3 wk1 hw => ?_
      obtain ⟨_, e3, hw⟩ := wp_o (wp_b hw)
      obtain ⟨hzs, _⟩ := gd_some e3
      have hw := wp_b hw
      have notD2 : ¬ OwnAt ρ2 σ' D := fun z => noD (ow2 _ z) rfl
      have hD3 : H3 D = some (.lst us) := s3.x.hh D _ notD2 (fun _ z => by cases z) hD2
      have nF3 : F3 D = none := s3.x.nw D nF2 (by rw [hD2]; rfl)
      have X3 := X2.trans s3.x fun a z => .inl (ow2 a z)
      have ow3 : ∀ a, OwnAt ρ3 σ' a → OwnAt ρ0 σ a := fun a z => ow2 a (s3.ow a z)
      have A3 := reps_up s3.x.ff A2
      let Pw : Nat → Hp → Prop := fun j Hj => ∃ Fj us ys ρj, Fr (OwnAt ρ0 σ) F0 H0 Fj Hj ∧ Ex F3 Fj ∧ Stt C ρj (wipe σ' vs1) Fj Hj ∧ (∀ a, OwnAt ρj (wipe σ' vs1) a → OwnAt ρ0 σ a) ∧ Hj D = some (.lst us) ∧ Fj D = none ∧ Reps C.K ys us Fj ∧ us.length ≤ 300 * i + j ∧
        wp (lcX vs1 pg1 m1 a (zs.drop j) ρj) (fun qs ρ4 => wp (lc2X vs pg m w1 vs1 pg1 m1 a (xs.drop (i + 1)) (wipeP ρ4 vs)) (fun us r => Qp (.lst (ys ++ qs ++ us)) (unw ρ0 r vs)) E) E
      refine ⟨fun j k Hj => k = zs.length - j ∧ j ≤ zs.length ∧ Pw j Hj, ⟨zs.length, by omega, Nat.zero_le _, F3, us, ys, wipeP ρ3 vs1, X3, fun _ _ h => h, s3.st.ofNx.wipe vs1, fun a z => ow3 a (own_wipe z), hD3, nF3, A3, by omega, ?_⟩, ?_⟩
      · exact wp_mono hw (fun qs r q => wp_mono (wp_b q) (fun us r q => by rw [List.append_assoc]; exact q) fun _ _ q => q) fun _ _ q => q
      rintro j n Hj ⟨rfl, hj, Fj, us, ys, ρj, Xj, xj, Sj, owj, hDj, nFj, Aj, ulj, hwj⟩
      by_cases hltj : j < zs.length
      · have gy : zs[j]? = some zs[j] := List.getElem?_eq_getElem hltj
        rw [List.drop_eq_getElem_cons hltj] at hwj
        refine .inr ⟨wk1.goes j Fj Hj hltj ⟨xj, Xj.fh⟩, fun H' => Pw (j + 1) H', fun H' p => ⟨zs.length - (j + 1), by omega, rfl, hltj, p⟩, fun v H' y => ?_⟩
        obtain ⟨F4, x4, x', hx', rx⟩ := wk1.yields j Fj Hj v H' hltj ⟨xj, Xj.fh⟩ y
        rw [gy] at hx'
        cases hx'
        have s4 := Stp.ext Sj x4
        have X4 := Xj.trans (B := fun _ => False) (Fr.ext x4) fun _ z => z.elim
        have hD4 : H' D = some (.lst us) := x4.hh D _ (by simp) hDj
        have nF4 : F4 D = none := x4.nw D nFj (by rw [hDj]; rfl)
        have A4 := reps_up x4.ff Aj
        obtain ⟨ρ5, e5, hwj⟩ := wp_o (wp_b hwj)
        refine hg1.run (ρ := ρj) (σ := wipe σ' vs1) s4.st.nx rx e5 fun σ'' S5 hwp5 ow5 => ⟨hwp5.trans wipe_wipe, ?_⟩
        have hwj := wp_b hwj
        rw [wp_noX] at hwj
        refine ht1 S5 hwj xok_no.e fun c ρ6 F6 H6 s6 hwj => ?_
        have ow6 : ∀ a, OwnAt ρ6 σ'' a → OwnAt ρ0 σ a := fun a z => owj a (ow5 a (s6.ow a z))
        have X6 := X4.trans s6.x fun a z => .inl (owj a (ow5 a z))
        have notD6 : ¬ OwnAt ρ5 σ'' D := fun z => noD (owj _ (ow5 _ z)) rfl
        have hD6 : H6 D = some (.lst us) := s6.x.hh D _ notD6 (fun _ z => by cases z) hD4
        have nF6 : F6 D = none := s6.x.nw D nF4 (by rw [hD4]; rfl)
        have A6 := reps_up s6.x.ff A4
        show if c = true then _ else _
        cases c with
        | true =>
          have hwj := wp_b (show wp ((a ρ6).noX.bind _) _ _ from hwj)
          rw [wp_noX] at hwj
          refine he s6.st hwj xok_no.e fun p v ρ7 F7 H7 s7 rp hwj => ?_
          have notD7 : ¬ OwnAt ρ6 σ'' D := fun z => noD (ow6 _ z) rfl
          have hD7 : H7 D = some (.lst us) := s7.x.hh D _ notD7 (fun _ z => by cases z) hD6
          have nF7 : F7 D = none := s7.x.nw D nF6 (by rw [hD6]; rfl)
          have X7 := X6.trans s7.x fun a z => .inl (ow6 a z)
          have ow7 : ∀ a, OwnAt ρ7 σ'' a → OwnAt ρ0 σ a := fun a z => ow6 a (s7.ow a z)
          have S7 : Stt C ρ7 σ'' F7 (upd H7 D (.lst (us ++ [v]))) := s7.st.ofNx.updAt D0 nF7 (fun z => noD (ow7 _ z) rfl) hD7 (fun _ z => by cases z) (fun _ z => by cases z)
          refine ⟨us, hD7, smallL (by omega), F7, us ++ [v], ys ++ [p], wipeP ρ7 vs1, ⟨X7.ff, S7.x.fh, fun b o nb g hb => ?_, fun b hb => ?_, X7.nw, fun t => tabs_upd (X7.tk t) hD7 (fun _ z => by cases z) (fun _ z => by cases z)⟩, fun a o h => s7.x.ff a o (s6.x.ff a o (x4.ff a o (xj a o h))), ?_, fun a z => ?_, upd_same, nF7, reps_app (reps_up s7.x.ff A6) (reps_one rp), by rw [List.length_append]; simp; omega, ?_⟩
          · rw [upd_ne (ne_of_none hb hD)]; exact X7.hh b o nb g hb
          · by_cases hbD : b = D
            · rw [hbD, upd_same]; rfl
            · rw [upd_ne hbD]; exact X7.bb b hb
          · rw [← hwp5.trans wipe_wipe]; exact S7.wipe vs1
          · rw [← hwp5.trans wipe_wipe] at z
            exact ow7 a (own_wipe z)
          · have hwj := wp_b hwj
            exact wp_mono hwj (fun qs r q => wp_mono q (fun us r q => by
              have q' : Qp (.lst (ys ++ (p :: qs) ++ us)) (unw ρ0 r vs) := q
              rw [show ys ++ [p] ++ qs ++ us = ys ++ (p :: qs) ++ us by simp]; exact q') fun _ _ q => q) fun _ _ q => q
        | false =>
          refine ⟨F6, us, ys, wipeP ρ6 vs1, X6, fun a o h => s6.x.ff a o (x4.ff a o (xj a o h)), by rw [← hwp5.trans wipe_wipe]; exact s6.st.ofNx.wipe vs1, fun a z => ?_, hD6, nF6, A6, by omega, hwj⟩
          rw [← hwp5.trans wipe_wipe] at z
          exact ow6 a (own_wipe z)
      · have e : j = zs.length := by omega
        subst e
        rw [List.drop_length] at hwj
        have hwj' : wp (lc2X vs pg m w1 vs1 pg1 m1 a (xs.drop (i + 1)) (wipeP ρj vs)) (fun us r => Qp (.lst (ys ++ [] ++ us)) (unw ρ0 r vs)) E := hwj
        rw [List.append_nil] at hwj'
        refine .inl ⟨wk1.stops Fj Hj ⟨xj, Xj.fh⟩, Fj, us, ys, wipeP ρj vs, Xj, ?_, fun a z => ?_, hDj, nFj, Aj, by omega, hwj'⟩
        · rw [← hwp', ← wipe_sub hv]; exact Sj.wipe vs
        · rw [← hwp', ← wipe_sub hv] at z
          exact owj a (own_wipe z)
    | false =>
      refine ⟨F2, us, ys, wipeP ρ2 vs, X2, by rw [← hwp.trans wipe_wipe]; exact s2.st.ofNx.wipe vs, fun a z => ?_, hD2, nF2, A2, by omega, hw⟩
      rw [← hwp.trans wipe_wipe] at z
      exact ow2 a (own_wipe z)
  · have e : i = xs.length := by omega
    subst e
    rw [List.drop_length] at hw
    have hw' : Qp (.lst (ys ++ [])) (unw ρ0 ρi vs) := hw
    rw [List.append_nil] at hw'
    have Sf := S0.unw Si X.ff hn'
    exact .inl ⟨wk.stops Fi Hi ⟨X.ff, X.fh⟩, k (.lst ys) D _ _ Fi Hi (s0.trans ⟨Sf, X, fun a z => ow a (own_unw hn' z)⟩) (s0.x.back hD) nFi hDi ⟨us, rfl, A⟩ hw'⟩
section
variable {Q : PO → Ro → Prop} {E : EP} {ρ : Ro} {w w1 : PIx} {g g1 : PGx} {t t1 : PTx} {a : PEx} {vs vs1 : List Nat}
omit [Tbs] in
theorem wpLc2 : wp (pLc2 w vs g t w1 vs1 g1 t1 a ρ) Q E = wp (w ρ) (fun xs ρ => (xs.length < 300 ∧ (vs.all fun v => (sl ρ v).obj.isNone) = true) ∧ wp (lc2X vs g t w1 vs1 g1 t1 a xs (wipeP ρ vs)) (fun ys r => Q (.lst ys) (unw ρ r vs)) E) E := by
  simp only [pLc2, wp_bind, wp_ofO, wo_gd, wp_ok]
omit [Tbs] in
theorem wp_lc2_nil {Q : List P → Ro → Prop} : wp (lc2X vs g t w1 vs1 g1 t1 a [] ρ) Q E = Q [] ρ := rfl
omit [Tbs] in
theorem wp_lc2_cons {Q : List P → Ro → Prop} {x : P} {xs : List P} : wp (lc2X vs g t w1 vs1 g1 t1 a (x :: xs) ρ) Q E = wo (g x ρ) fun ρ1 => wp (t ρ1) (fun c ρ2 => pIte c
    (wp (w1 ρ2) (fun ys ρ3 => ys.length < 300 ∧ wp (lcX vs1 g1 t1 a ys (wipeP ρ3 vs1)) (fun zs ρ4 => wp (lc2X vs g t w1 vs1 g1 t1 a xs (wipeP ρ4 vs)) (fun us ρ5 => Q (zs ++ us) ρ5) E) E) fun _ _ => False)
    (wp (lc2X vs g t w1 vs1 g1 t1 a xs (wipeP ρ2 vs)) Q E)) fun _ _ => False := by
  simp only [lc2X, wp_bind, wp_ofO, wo_gd, wp_ok, wp_noX, wp_pIte]
end
end FX

/-! set(x), x a list of texts -/
namespace PX
open PySem PySem.Spec PyProof.Rows L2
def putsT (xs : List Str) (l : List Str) : List Str := xs.foldl putT l
theorem strs_atL : ∀ {vs : List Value} {xs : List Str} {i : Nat} {v : Value}, StrsAre vs xs → vs[i]? = some v → ∃ x t, xs[i]? = some x ∧ v = .str x t
  | _, _, i, v, .nil, h => by simp at h
  | _, _, 0, v, .cons x t _, h => by cases h; exact ⟨x, t, rfl, rfl⟩
  | _, _, i + 1, v, .cons x t r, h => by
    have := strs_atL r (i := i) (v := v) (by simpa using h)
    simpa using this
section
variable {P : Program} {w : World} {A : Around} {R : Result → Shared → Prop} {I S : Addr} {fp wr : List Addr} {n : Nat} {xs : List Str} {St : Nat → Heap → Prop}
theorem trl_loop (W : Walks P w A.in1 I fp wr n (fun i v => ∃ x t, xs[i]? = some x ∧ v = .str x t) St) (hn : n = xs.length) (hSf : S ∉ fp) : ∀ (m i : Nat) (s : Shared) (l : List Str), n - i = m → i ≤ n → St i s.heap → TR P w s.heap S l → l.length + m + 1 < scanBound →
    (∀ h' tk, (∀ b o, b ∉ S :: wr → s.heap.get? b = some o → h'.get? b = some o) → TR P w h' S (putsT (xs.drop i) l) → R (.ok (.ret .none)) { s with heap := h', toks := tk }) →
    codeAny (model P w) A (.builtin "set.update.loop" ⟨[.ref S, .ref I], []⟩) R s := by
  have hSw : S ∉ wr := fun h => hSf (W.sub _ h)
  intro m
  induction m with
  | zero =>
    intro i s l hk hi hst hS _ hR
    have hin : i = n := by omega
    refine codeAny_builtin PyProof.Rows.F.entry_set_update_loop ?_
    rw [Around.under_plainId PyProof.Rows.F.plain_set_update_loop _]
    show wpAny _ A.in1 (pyNext (.ref I) >>= _) _ _ s
    refine wpAny_bind (W.done s _ _ (by rw [← hin]; exact hst) fun h' tk kk => wpAny_pure (hR h' tk (fun b o hb e => kk b o (fun z => hb (List.mem_cons_of_mem _ z)) e) ?_))
    rw [List.drop_of_length_le (by rw [hin, hn]; simp)]
    exact hS.at fun o e => kk S o hSw e
  | succ m ih =>
    intro i s l hk hi hst hS hz hR
    have hlt : i < n := by omega
    refine codeAny_builtin PyProof.Rows.F.entry_set_update_loop ?_
    rw [Around.under_plainId PyProof.Rows.F.plain_set_update_loop _]
    show wpAny _ A.in1 (pyNext (.ref I) >>= _) _ _ s
    refine wpAny_bind (W.item i s _ _ hlt hst fun v h' tk hP hst' kk => ?_)
    obtain ⟨c, t, hc, rfl⟩ := hP
    have hS' : TR P w h' S l := hS.at fun o e => kk S o hSw e
    show wpAny _ A.in1 (holding [Value.str c t] (setAdd S (.str c t)) >>= _) _ _ { s with heap := h', toks := tk }
    refine wpAny_bind (wpAny_holding ?_)
    unfold setAdd
    refine wpAny_holding (wpAny_bind ((sk P w).pyHash (k := c) (isT _ _) (tr_add (s := { s with heap := h', toks := tk + 1 }) hS' (by omega) fun b h2 sb R2 => ?_)))
    refine wpAny_pure ⟨plainId_quiet PyProof.Rows.F.plain_set_update_loop _, ih (i + 1) { s with heap := h2, toks := tk + 1 } _ (by omega) hlt (W.frame _ h' _ hst' fun b hb o e => ?_) R2 ?_ fun h3 tk3 k3 R3 => ?_⟩
    · rw [sb.2 b fun z => hSf (z ▸ hb)]; exact e
    · have := putT_len l c
      omega
    · refine hR h3 tk3 (fun b o hb e => k3 b o hb ?_) ?_
      · rw [sb.2 b fun z => hb (by rw [z]; exact List.mem_cons_self ..)]
        exact kk b o (fun z => hb (List.mem_cons_of_mem _ z)) e
      · have hl : i < xs.length := by omega
        rw [List.drop_eq_getElem_cons hl]
        rw [List.getElem?_eq_getElem hl] at hc
        cases hc
        exact R3
end
section
variable {P : Program} {w : World} {A : Around} {E : Value → Shared → Prop} {s : Shared}
theorem set_ofLT {l : Addr} {items : Array Value} {xs : List Str} {Q : Value → Shared → Prop} (hh : A.handled = none) (hl : s.heap.IsList l items) (hi : StrsAre items.toList xs) (hz : xs.length + 1 < scanBound)
    (h : ∀ (h' : Heap) (tk : Nat), TR P w h' s.heap.objs.size (putsT xs []) → (∀ b o, s.heap.get? b = some o → h'.get? b = some o) → Q (.ref s.heap.objs.size) { s with heap := h', toks := tk }) :
    wpAny (model P w) A (call (.type "set") [.ref l]) Q E s := by
  obtain ⟨c, tl, hmro⟩ := PySem.F.called_set.mro
  have hmade := PySem.F.called_set.made
  have hsub := PySem.F.called_set.sub
  refine wpAny_call (codeAny_of_tree ?_)
  show wpAny _ _ (callAny (.type "set") _) _ _ _
  refine wpAny_pure ⟨Code.quiet_builtin _ (by decide +kernel), codeAny_builtin PySem.F.entry_type_call ?_⟩
  rw [Around.under_plain (weight_type_call_type "set" [.ref l] []) rfl]
  have h1 := PySem.F.called_set.notType
  have h2 := PySem.F.called_set.canCreate
  have hct := PySem.F.typeCall_set_1 (.ref l)
  repeat (any_goals (first | assumption | wp_step))
  refine codeAny_mono (set_newT (.ref l) (E := E) (Q₁ := fun obj s₁ => obj = .ref s.heap.objs.size ∧ s₁ = { s with heap := s.heap.push (setNew w) }) ⟨rfl, rfl⟩) fun r s₁ hr => ?_
  cases r with
  | error e => exact hr
  | ok fl =>
    cases fl with
    | ret obj =>
      obtain ⟨rfl, rfl⟩ := hr
      have hS : (s.heap.push (setNew w)).get? s.heap.objs.size = some (setNew w) := Heap.get?_push_size _ rfl
      have hT : Shared.TypeIs { s with heap := s.heap.push (setNew w) } (.ref s.heap.objs.size) "set" := ⟨_, hS, rfl⟩
      have hli := PySem.F.called_set.init.lookup
      have hbi := PySem.F.called_set.init.bind (.ref s.heap.objs.size)
      repeat (any_goals (first | assumption | wp_step))
      refine codeAny_mono (codeAny_call_builtin (R := wants (fun r s₂ => r = .none ∧ ∃ h' tk, s₂ = { s with heap := h', toks := tk } ∧ TR P w h' s.heap.objs.size (putsT xs []) ∧ (∀ b o, s.heap.get? b = some o → h'.get? b = some o)) E)
        PySem.F.called_set.init.plain PySem.F.entry_set_init (check_set_init_1 hT ?_)) fun r₂ s₂ hr₂ => ?_
      · obtain ⟨ol, hol, hcl, nl, hdl⟩ := hl
        obtain ⟨ocls, odict, odata, oslots⟩ := ol
        simp only at hcl hdl
        subst hcl; subst hdl
        have hol' : (s.heap.push (setNew w)).get? l = some { cls := .type "list", dict := odict, data := .seq items nl, slots := oslots } := Heap.get?_push_of_some _ hol
        have hsls := PySem.F.sub_list_set
        have hslf := PySem.F.sub_list_frozenset
        have hne : (Value.type "list" == Value.type "dict") = false := by decide
        have hl1 : (s.heap.push (setNew w)).IsList l items := ⟨_, hol', rfl, nl, rfl⟩
        unfold Builtin.«set.__init__» noKeywords Builtin.Frozenset.updateFrom
        generalize hPI : pyIter = PI
        wp_walk
        subst hPI
        refine wpAny_pyIter_list hl1 ?_
        refine wpAny_bind (wpAny_runValue ?_)
        have hlS : l < s.heap.objs.size := Heap.lt_size hol
        have hh3 : A.in1.in1.in1.handled = none := by simp [hh]
        have hS2 : (s.heap.push (setNew w)).objs.size = s.heap.objs.size + 1 := Heap.size_push ..
        have hneI : l ≠ (s.heap.push (setNew w)).objs.size := by rw [hS2]; exact Nat.ne_of_lt (Nat.lt_succ_of_lt hlS)
        have hlen : items.size = xs.length := by rw [← hi.length, Array.length_toList]
        have W := (Walks.list (prog := P) (w := w) hh3 (s.heap.push (setNew w)).objs.size l hneI items)
        have W2 : Walks P w A.in1.in1.in1 (s.heap.push (setNew w)).objs.size [(s.heap.push (setNew w)).objs.size, l] [(s.heap.push (setNew w)).objs.size] items.size (fun i v => ∃ x t, xs[i]? = some x ∧ v = .str x t) (fun i h => h.IsListIter (s.heap.push (setNew w)).objs.size l i ∧ h.IsList l items)  :=
          { sub := W.sub, frame := W.frame, item := fun i s Q E hi' st hQ => W.item i s Q E hi' st fun v h' tk hv => hQ v h' tk (strs_atL hi (by rw [Array.getElem?_toList]; exact hv)), done := W.done, self := W.self }
        refine trl_loop W2 hlen (S := s.heap.objs.size) ?_ items.size 0 _ [] (by omega) (Nat.zero_le _) ⟨⟨_, Heap.get?_push_size _ rfl, rfl, rfl⟩, hl1.push _⟩ (tr_new (Heap.get?_push_of_some _ hS)) (by rw [hlen]; simpa using hz) fun h' tk kk R => ?_
        · rw [hS2]
          simp only [List.mem_cons, List.not_mem_nil, or_false, not_or]
          exact ⟨Nat.ne_of_lt (Nat.lt_succ_self _), Nat.ne_of_gt hlS⟩
        · rw [List.drop_zero] at R
          refine wpAny_pure (wpAny_pure ⟨rfl, h', tk, rfl, R, fun b u e => kk b u ?_ (Heap.get?_push_of_some _ (Heap.get?_push_of_some _ e))⟩)
          have hb := Heap.lt_size e
          rw [hS2]
          simp only [List.mem_cons, List.not_mem_nil, or_false, not_or]
          exact ⟨Nat.ne_of_lt hb, Nat.ne_of_lt (Nat.lt_succ_of_lt hb)⟩
      · cases r₂ with
        | error e => exact hr₂
        | ok fl₂ =>
          cases fl₂ with
          | ret r =>
            obtain ⟨rfl, h', tk, rfl, R, kk⟩ := hr₂
            repeat (any_goals (first | assumption | wp_step))
            exact h _ _ R kk
          | _ => exact hr₂.elim
    | _ => exact hr.elim
end
end PX

/-! sorted(set(x)), x a list of texts -/
namespace PX
open PySem PySem.Spec PyProof.Rows L2 L2
section
variable {X : Cx}
def rSetLT (K : PySem.W.Frag) (P : Program) (w : World) : List V → Hp → VK → Prop := fun xs H Q => ∃ (l : Addr) (ys : List Str), xs = [.ref l] ∧ SqL K H l (ys.map V.str) ∧ ys.length ≤ 1000 ∧ ∀ p, H p = none → Q (.ref p) (upd H p (SetT P w p (putsT ys [])))
theorem cr_setLT (K : PySem.W.Frag) (hc : X.calm = true) (hK : X.K = K := by rfl) : CallR X (.type "set") (rSetLT K X.prog X.w) := fun pins s σ H xs us Q I r ⟨l, ys, e, hl, hz, q⟩ => by
  subst hK
  subst e
  rw [Vals.ref1 r]
  obtain ⟨its, o, n, hv, ho, hcl, hd⟩ := sqL_at I.hok I.kIn hl
  refine set_ofLT (items := its.toArray) (xs := ys) (I.ok.hd hc) ⟨o, ho, hcl, n, hd⟩ (Vals.strs hv) (by unfold scanBound; omega) fun h' tk R kk => ?_
  exact ⟨.ref _, upd H s.heap.objs.size (SetT X.prog X.w s.heap.objs.size (putsT ys [])), I.laid (t' := tk) (fun b u e => kk b u e) (Nat.le_refl _) (setT_new R), rfl, q _ (I.hok.fresh (Nat.le_refl _))⟩
/-- the same, the world told by hand -/
theorem cr_setLTK (P' : Program) (w' : World) (K : PySem.W.Frag) (hc : X.calm = true := by rfl) (hK : X.K = K := by rfl) (h1 : X.prog = P' := by rfl) (h2 : X.w = w' := by rfl) : CallR X (.type "set") (rSetLT K P' w') := by
  subst h1 h2
  exact cr_setLT K hc hK
theorem cr_sortTK (P' : Program) (w' : World) (hc : X.calm = true := by rfl) (h1 : X.prog = P' := by rfl) (h2 : X.w = w' := by rfl) : CallR X (.builtin "sorted") (rSortT P' w') := by
  subst h1 h2
  exact cr_sortT hc
end
end PX
namespace FX
open PySem PySem.Spec PyProof.Rows L2 RZ PX
variable [Tbs]
/-- each once -/
def dedL (zs l : List (List Nat)) : List (List Nat) := zs.foldl (fun l z => if z ∈ l then l else z :: l) l
omit [Tbs] in
theorem puts_ded : ∀ (zs l : List (List Nat)), putsT (zs.map SX.S) (l.map SX.S) = (dedL zs l).map SX.S
  | [], _ => rfl
  | z :: zs, l => by
    show putsT (zs.map SX.S) (putT (l.map SX.S) (SX.S z)) = _
    have e : putT (l.map SX.S) (SX.S z) = (if z ∈ l then l else z :: l).map SX.S := by
      unfold putT
      have i : SX.S z ∈ l.map SX.S ↔ z ∈ l := ⟨fun h => by
        obtain ⟨y, hy, ey⟩ := List.mem_map.mp h
        have this : y = z := congrArg (fun s : Str => s.cps.toList) ey
        rw [← this]; exact hy, fun h => List.mem_map_of_mem h⟩
      by_cases h : z ∈ l
      · rw [if_pos (i.mpr h), if_pos h]
      · rw [if_neg fun x => h (i.mp x), if_neg h]; rfl
    rw [e, puts_ded zs]
    rfl
omit [Tbs] in
theorem dedL_len : ∀ (zs l : List (List Nat)), (dedL zs l).length ≤ zs.length + l.length
  | [], l => by show l.length ≤ 0 + l.length; omega
  | z :: zs, l => by
    have h := dedL_len zs (if z ∈ l then l else z :: l)
    have h2 : (if z ∈ l then l else z :: l).length ≤ l.length + 1 := by split <;> simp
    show (dedL zs (if z ∈ l then l else z :: l)).length ≤ _
    rw [List.length_cons]
    omega
def sortSetLV : P → Option P
  | .lst xs => (strsOf xs).bind fun zs => gd (zs.length < 64) (.lst ((sortB leT (dedL zs [])).map P.str))
  | _ => none
def pSortSetL (a : PEx) : PEx := fun ρ => (a ρ).bind fun x ρ => ofO (sortSetLV x) ρ
section
variable {C : Cc} {ta : TE} {a : PEx} {PP : Program} {w : World}
theorem s_sortSetL (ha : SndW C ta a) : SndE C (tCB (rSortT PP w) (tCons (tCB (rSetLT C.K PP w) (tCons ta tNil)) tNil)) (pSortSetL a) := .mk fun {ρ σ F H Q Qp E} S h kx k => ha S (wp_b h) kx fun x v ρ1 F1 H1 s1 r h => by
  obtain ⟨q, e, h9⟩ := wp_o h
  cases x <;> first | (cases e; done) | skip
  obtain ⟨zs, e1, e2⟩ := Option.bind_eq_some_iff.mp e
  obtain ⟨hz, rfl⟩ := gd_some e2
  cases strsOf_some e1
  obtain ⟨c, us, rfl, h1, h3⟩ := r
  rw [reps_str h3] at h1
  have pd : putsT (zs.map SX.S) [] = (dedL zs []).map SX.S := puts_ded zs []
  refine ⟨c, zs.map SX.S, rfl, SqL.of h1, by rw [List.length_map]; omega, fun q hq => ⟨q, _, rfl, upd_same, ?_, fun ys p hp hs hf => ?_⟩⟩
  · rw [pd, List.length_map]
    have := dedL_len zs []
    rw [List.length_nil] at this
    omega
  · rw [pd] at hp
    obtain ⟨zs', rfl⟩ : ∃ zs' : List (List Nat), ys = zs'.map SX.S := ⟨ys.map fun s => s.cps.toList, by
      rw [List.map_map]
      exact ((List.map_congr_left fun s _ => SX.S_tl s).trans (List.map_id ys)).symm⟩
    have pm := hp.map fun s : Str => s.cps.toList
    rw [List.map_map, List.map_map, show zs'.map ((fun s : Str => s.cps.toList) ∘ SX.S) = zs' from (List.map_congr_left fun _ _ => rfl).trans (List.map_id zs'), show (dedL zs []).map ((fun s : Str => s.cps.toList) ∘ SX.S) = dedL zs [] from (List.map_congr_left fun _ _ => rfl).trans (List.map_id _)] at pm
    rw [sortT_uniq pm (sortedS_pw hs)]
    have s2 := Stp.own (o := SetT PP w q (putsT (zs.map SX.S) [])) s1.st hq
    have s3 := Stp.lay (o := .lst (((sortB leT (dedL zs [])).map SX.S).map V.str)) s2.st hf
    exact k (.lst _) _ ρ1 _ _ ((s1.trans s2).trans s3) ⟨p, _, rfl, upd_same, reps_strs _⟩ h9
end
section
variable {Q : P → Ro → Prop} {E : EP} {ρ : Ro} {a : PEx}
omit [Tbs] in
theorem wpSortSetL : wp (pSortSetL a ρ) Q E = wp (a ρ) (fun p ρ => wo (sortSetLV p) fun q => Q q ρ) E := by simp only [pSortSetL, wp_bind, wp_ofO]
omit [Tbs] in
theorem e_setl {zs : List (List Nat)} : sortSetLV (.lst (zs.map P.str)) = gd (zs.length < 64) (.lst ((sortB leT (dedL zs [])).map P.str)) := by
  show (strsOf (zs.map P.str)).bind _ = _
  rw [strsOf_map]; rfl
end
end FX

/-! lambdas kept in a list, and tried one after the other -/
namespace FX
open PySem PySem.Spec PyProof.Rows L2 RZ PX XS LY LamX
variable [Tbs]
omit [Tbs] in
theorem bindL0 {q : Str} {params : Arguments} {body : Expr} {scope : Scope} (hd : params.defaults = []) (h : ∀ (cl : List (Str × Addr)) (doc pm cv ctv : Value), bindArgs (PySem.W.kdv_fn "<lambda>" q params (.expr body) scope cl .none doc pm cv ctv) ⟨[], []⟩ = pure []) : LY.BindL q params body scope :=
  fun cl doc pm cv ctv => ⟨fun _ => h cl doc pm cv ctv, fun e => by rw [hd] at e; cases e⟩
omit [Tbs] in
theorem bindL1 {q y : Str} {params : Arguments} {body : Expr} {scope : Scope} (hd : params.defaults.length = 1) (hy : scope.names.lookup y = some .local)
    (h : ∀ (cl : List (Str × Addr)) (doc pm cv ctv : Value) (t : Addr), ∃ k : Option (Array Value) → Sem (List (Str × Value)), bindArgs (PySem.W.kdv_fn "<lambda>" q params (.expr body) scope cl (.ref t) doc pm cv ctv) ⟨[], []⟩ = seqItems? (.ref t) >>= k ∧ ∀ u : Value, k (some [u].toArray) = pure [(y, u)]) : LY.BindL q params body scope :=
  fun cl doc pm cv ctv => ⟨fun e => (by rw [e] at hd; cases hd), fun _ => ⟨y, hy, fun t => h cl doc pm cv ctv t⟩⟩
/-! ### a lambda as a value -/
/-- the tables tell the lambdas of a def -/
structure LamsOk (x : Str) (st : Stmt) (ds : List LamD) : Prop where
  q : Tbs.q = x ++ ".<locals>." ++ "<lambda>"
  D : ∀ k d, ds[k]? = some d → Tbs.D k = d
  C : ∀ n, Tbs.C n = PySem.cellsFrom (n + 1) (defScope st).names []
abbrev tFn (n k : Nat) : TE := tLamV Tbs.T Tbs.q (Tbs.D k) (Tbs.C n)
theorem s_fn {C : Cc} {n k : Nat} : SndE C (tFn n k) (pC (.fn n k)) := .mk fun {ρ σ F H Q Qp E} S h kx kk =>
  ⟨F, S.x.fh, (C.tb.fr S.x).tabs, (C.tb.fr S.x).free, fun f c' dV doc pm ctv F1 H1 x hf hc hdf => kk (.fn n k) (.ref f) ρ F1 H1 (Stp.lam S x) ⟨f, _, c', rfl, hf, dV, doc, pm, ctv, rfl, hdf, hc⟩ h⟩
theorem pe_fn {X : Cx} {K : PySem.W.Frag} {mg : Str → Option Value} {base : Heap} {y : Str} {c P : Addr} {n k : Nat} {st : Stmt} {ds : List LamD} {N : List Str} {params : Arguments} {body : Expr} {scope : Scope} {pos : Pos} (LT : LawTab K mg base y c P) (LD : LamsOk y st ds) (hd : ds[k]? = some ⟨params, body, scope⟩)
    (hq : X.env.qual = y ++ ".<locals>.") (hcode : X.env.code = .ref c) (hC : PySem.cellsFrom (n + 1) (defScope st).names [] = X.env.cells) (L : lamTB N X.env.scope scope = true) (hk0 : params.kw_defaults = []) (hds : DfSrc X params) (e1 : X.mg = mg := by rfl) (e2 : X.base = base := by rfl) (e3 : X.N = N := by rfl) :
    PE X (.Lambda params body scope pos) (tFn n k) := by
  subst e1 e2 e3
  exact pe_lamV LT.tab hcode (by rw [hq]; exact LT.mem) (by rw [hq]; exact LT.uq) (by rw [hq]; exact LD.q) (LD.D k _ hd) (by rw [LD.C]; exact hC) (lamT_by L) hk0 hds
/-! ### [x(f) for f in fs] -/
section
variable (P' : Program) (w : World) (K : PySem.W.Frag) (mg : Str → Option Value) (base : Heap) (k : Nat) (rows : FRows) (cats : List Str)
def trG (S : SL) (a : Addr) (vs0 : List V) (D : Addr) (Q : VK) : List Addr → Hp → Prop
  | [], Hm => Q (.ref D) (LY.add Hm S)
  | f :: fs, Hm => spTry P' w K mg base k rows cats [.ref f] (LY.add Hm S) (fun v H3 => ∃ acc, H3 D = some (.lst acc) ∧ acc.length < sizeLine ∧ ∃ Hm', upd H3 D (.lst (acc ++ [v])) = LY.add Hm' S ∧ Fresh Hm' S ∧ Hm' a = some (.lst vs0) ∧ trG S a vs0 D Q fs Hm') (fun _ _ _ => False)
def spTries : Sp := fun vs H Q _ => ∃ (a : Addr) (fs : List Addr) (S : SL) (Hm : Hp), vs = [.ref a] ∧ H = LY.add Hm S ∧ Fresh Hm S ∧ Hm a = some (.lst (fs.map V.ref)) ∧ ∀ D, LY.add Hm S D = none → trG P' w K mg base k rows cats S a (fs.map V.ref) D Q fs (upd Hm D (.lst []))
def tTriesB : TS := tRet (tLc (iDyn K (tVar 0)) (gName 1) tYes (tCall (spTry P' w K mg base k rows cats) [] (fun _ _ _ => False) (tCons (tVar 1) tNil)) [1])
end
section
variable {P' : Program} {w : World} {K : PySem.W.Frag} {mg : Str → Option Value} {base : Heap} {k : Nat} {rows : FRows} {cats : List Str}
theorem tries_go {D0 : Ends} {vs : List V} {H : Hp} {Q : VK} {E : XK} (hQ : D0.rt = Q) (h : spTries P' w K mg base k rows cats vs H Q E) : tTriesB P' w K mg base k rows cats D0 (L2.start ["_law_asks", "_law_ask"] vs) H := by
  obtain ⟨a, fs, S, Hm, rfl, rfl, fr, ha, hg⟩ := h
  subst hQ
  refine lc_go ?_
  have up : ∀ {Hm' : Hp}, Fresh Hm' S → Hm' a = some (.lst (fs.map V.ref)) → SqL K (LY.add Hm' S) a (fs.map V.ref) := fun f e => SqL.of (f.up e)
  refine ⟨.ref a, rfl, .inl ⟨a, rfl, ⟨_, up fr ha⟩, ?_⟩⟩
  intro D hD
  obtain ⟨n1, n2⟩ := add_none hD
  refine ⟨fun i m H' => m = fs.length - i ∧ i ≤ fs.length ∧ ∃ Hm', H' = LY.add Hm' S ∧ Fresh Hm' S ∧ Hm' a = some (.lst (fs.map V.ref)) ∧ trG P' w K mg base k rows cats S a (fs.map V.ref) D D0.rt (fs.drop i) Hm', ⟨fs.length, by omega, Nat.zero_le _, upd Hm D (.lst []), (add_upd n1).symm, fun b o e => ?_, ?_, hg D hD⟩, ?_⟩
  · rw [upd_ne fun z => by rw [z, n1] at e; cases e]; exact fr b o e
  · rw [upd_ne (ne_of_none ha n2)]; exact ha
  rintro i m H' ⟨rfl, hi, Hm', rfl, fr', ha', hg'⟩
  by_cases hlt : i < fs.length
  · rw [List.drop_eq_getElem_cons hlt] at hg'
    refine .inr ⟨⟨_, V.ref fs[i], up fr' ha', by rw [List.getElem?_map, List.getElem?_eq_getElem hlt]; rfl⟩, fun H'' => ∃ Hm'', H'' = LY.add Hm'' S ∧ Fresh Hm'' S ∧ Hm'' a = some (.lst (fs.map V.ref)) ∧ trG P' w K mg base k rows cats S a (fs.map V.ref) D D0.rt (fs.drop (i + 1)) Hm'', fun H'' p => ⟨fs.length - (i + 1), by omega, rfl, hlt, p⟩, fun v H'' y => ?_⟩
    obtain ⟨e, y⟩ := y
    subst e
    have e2 := y _ (up fr' ha')
    rw [List.getElem?_map, List.getElem?_eq_getElem hlt] at e2
    cases e2
    exact ⟨rfl, _, rfl, hg'⟩
  · have e : i = fs.length := by omega
    subst e
    rw [List.drop_length] at hg'
    exact .inl ⟨⟨_, up fr' ha', by rw [List.length_map]; exact Nat.le_refl _⟩, hg'⟩
theorem Stood.okTries {x : Str} {st : Stmt} (S : Stood K mg x st) (sc : FnScope ["_law_asks", "_law_ask"] ["_law_asks"] (defScope st))
    (hb : ∀ (kV doc pm : Value) (an : Option Addr) (cdv ct : Value) (us : List Value), us.length = 1 → bindArgs (PySem.W.fnOf x x (defArgs st) (defBody st) (defScope st) .none kV doc pm an cdv ct) ⟨us, []⟩ = pure ((["_law_asks"] : List Str).zip us)) {j : Nat}
    (der : ∀ (fa : Addr) (cdv : Value) (A : Around) (outer : List Env) (sh : Shared) (H : Hp) (E : XK), Room j (A.deeper (envOfC x (defScope st) sh.heap.objs.size fa cdv)) →
      PSs (cxOf (L2N.CX P' w) P' w K mg base ["_law_asks", "_law_ask"] x (defScope st) fa cdv A outer sh H E) (defBody st) (tTriesB P' w K mg base k rows cats)) :
    HasF P' w K mg base x st (j + 1) ["_law_asks"] (spTries P' w K mg base k rows cats) := by
  obtain ⟨f, fd, F, g⟩ := S.ex
  refine ⟨f, fd, F, g, ?_, F.bindsN hb⟩
  obtain ⟨oc, od, dV, kV, doc, pm, an, cdv, ct, osl, rfl, lk, hcd, hD, hK⟩ := F.ex
  exact fn_of lk hcd sc (fun vs H Q E ⟨_, _, _, _, e, _⟩ => by rw [e]; rfl) fun A outer sh H vs Q E hr hsp => ⟨_, der f cdv A outer sh H E hr, tries_go rfl hsp⟩
end
/-! ### pure -/
def lamL (n l : Nat) : List P → Option (List Nat)
  | [] => some []
  | .fn m k :: xs => (gd (m = n ∧ k < l) ()).bind fun _ => (lamL n l xs).map (k :: ·)
  | _ :: _ => none
def lamsV (n l : Nat) : P → Option (List Nat)
  | .lst xs => (gd (xs.length < 1000) ()).bind fun _ => lamL n l xs
  | _ => none
def nthB : List PEx → Nat → PEx
  | [], _ => fun _ => .bad
  | b :: _, 0 => b
  | _ :: bs, k + 1 => nthB bs k
def triesX (rows : FRows) (cats : List Str) (bs : List PEx) : List Nat → Ro → R (List P)
  | [], ρ => .ok [] ρ
  | k :: ks, ρ => (pTry rows cats (nthB bs k) ρ).bind fun r ρ => (triesX rows cats bs ks ρ).bind fun rs ρ => .ok (r :: rs) ρ
def pTries (n : Nat) (rows : FRows) (cats : List Str) (bs : List PEx) (a : PEx) : PEx := fun ρ => (a ρ).bind fun x ρ => (ofO (lamsV n bs.length x) ρ).bind fun ks ρ => (triesX rows cats bs ks ρ).bind fun ys ρ => .ok (.lst ys) ρ
section
variable {n k l : Nat} {rows : FRows} {cats : List Str} {b : PEx} {bs : List PEx} {a : PEx} {ρ : Ro} {ks : List Nat} {xs : List P}
omit [Tbs] in
theorem wpTries {Q : QP} {E : EP} : wp (pTries n rows cats bs a ρ) Q E = wp (a ρ) (fun x ρ => wo (lamsV n bs.length x) fun ks => wp (triesX rows cats bs ks ρ) (fun ys ρ => Q (.lst ys) ρ) E) E := by simp only [pTries, wp_bind, wp_ofO, wp_ok]
omit [Tbs] in
theorem wp_tx_n {Q : List P → Ro → Prop} {E : EP} : wp (triesX rows cats bs [] ρ) Q E = Q [] ρ := rfl
omit [Tbs] in
theorem wp_tx_c {Q : List P → Ro → Prop} {E : EP} : wp (triesX rows cats bs (k :: ks) ρ) Q E = wp (pTry rows cats (nthB bs k) ρ) (fun r ρ => wp (triesX rows cats bs ks ρ) (fun rs ρ => Q (r :: rs) ρ) E) E := by simp only [triesX, wp_bind, wp_ok]
omit [Tbs] in
theorem e_nthB_0 : nthB (b :: bs) 0 = b := rfl
omit [Tbs] in
theorem e_nthB_s : nthB (b :: bs) (k + 1) = nthB bs k := rfl
omit [Tbs] in
theorem e_lamsV : lamsV n l (.lst xs) = (gd (xs.length < 1000) ()).bind fun _ => lamL n l xs := rfl
omit [Tbs] in
theorem e_lamL_n : lamL n l [] = some [] := rfl
omit [Tbs] in
theorem e_lamL_c : lamL n l (.fn n k :: xs) = (gd (k < l) ()).bind fun _ => (lamL n l xs).map (k :: ·) := by
  show (gd (n = n ∧ k < l) ()).bind _ = _
  unfold gd
  by_cases h : k < l
  · rw [if_pos ⟨rfl, h⟩, if_pos h]
  · rw [if_neg fun z => h z.2, if_neg h]
omit [Tbs] in
theorem lamL_some {l : Nat} : ∀ {n : Nat} {xs : List P} {ks : List Nat}, lamL n l xs = some ks → xs = ks.map (P.fn n) ∧ ∀ k ∈ ks, k < l
  | _, [], ks, h => by cases h; exact ⟨rfl, fun _ h => (List.not_mem_nil h).elim⟩
  | _, x :: xs, ks, h => by
    cases x <;> first | (cases h; done) | skip
    obtain ⟨_, h1, h2⟩ := Option.bind_eq_some_iff.mp h
    obtain ⟨⟨rfl, hk⟩, _⟩ := gd_some h1
    obtain ⟨ks', h3, rfl⟩ := Option.map_eq_some_iff.mp h2
    obtain ⟨rfl, h4⟩ := lamL_some h3
    exact ⟨rfl, fun k h => (List.mem_cons.mp h).elim (fun e => e ▸ hk) (h4 k)⟩
end
/-! ### the calls -/
/-- one of the lambdas of a list: its object -/
structure LJ where
  f : Addr
  k : Nat
  dV : Value
  doc : Value
  pm : Value
  c' : Addr
  ctv : Value
abbrev LJ.obj (n : Nat) (j : LJ) : Obj := PySem.W.kdv_obj "<lambda>" Tbs.q (Tbs.D j.k).params (.expr (Tbs.D j.k).body) (Tbs.D j.k).scope (cloFrom (Tbs.C n) (Tbs.D j.k).scope.names []) j.dV j.doc j.pm j.c' j.ctv
abbrev LJ.pre (j : LJ) : Hp → Prop := fun Hm => Hm j.c' = some (CodeO j.c' Tbs.q) ∧ DfOk Hm (Tbs.D j.k).params j.dV
abbrev tBad : XK → TE := fun _ _ _ _ => False
def nthT : List (XK → TE) → Nat → XK → TE
  | [], _ => tBad
  | t :: _, 0 => t
  | _ :: ts, k + 1 => nthT ts k
/-- x(fs), fs a list of lambdas: sp the promise of x; ts the readings of the bodies -/
def tTries (P' : Program) (w : World) (K : PySem.W.Frag) (mg : Str → Option Value) (base : Heap) (lv n : Nat) (sp : Sp) (ts : List (XK → TE)) (ta : TE) : TE := fun σ H Q => ta σ H fun v H1 => ∃ (a : Addr) (js : List LJ), v = .ref a ∧ H1 a = some (.lst (js.map fun j => .ref j.f)) ∧ (∀ j ∈ js, H1 j.f = some (FzO (j.obj n)) ∧ j.pre H1 ∧ j.k < ts.length) ∧
  ∀ S : SL, Fresh H1 S → (∀ j ∈ js, LamSem P' w K mg base lv j.f (j.obj n) j.pre S (fun E H Q => nthT ts j.k E σ H Q)) → sp [.ref a] (LY.add H1 S) (fun v H3 => ∃ H2, H3 = LY.add H2 S ∧ Fresh H2 S ∧ Q v H2) (fun _ _ _ => False)
/-- what stands of a lambda's text: names, parameters, the body's derivation -/
structure LB (P' : Program) (w : World) (K : PySem.W.Frag) (mg : Str → Option Value) (base : Heap) (N : List Str) (sc : Scope) (lv k : Nat) (t : XK → TE) : Prop where
  L : LamT N sc (Tbs.D k).scope
  b : LY.BindL Tbs.q (Tbs.D k).params (Tbs.D k).body (Tbs.D k).scope
  e : ∀ (cl : List (Str × Addr)) (f c' : Addr) (A : Around) (outer : List Env) (s : Shared) (H : Hp) (E : XK), Room lv (A.deeper (PySem.W.envX Tbs.q (Tbs.D k).scope s.heap.objs.size f (.ref c') cl)) → PE (lamCy P' w K mg base N Tbs.q (Tbs.D k).scope cl f c' A outer s H E) (Tbs.D k).body (t E)
inductive LBs (P' : Program) (w : World) (K : PySem.W.Frag) (mg : Str → Option Value) (base : Heap) (N : List Str) (sc : Scope) (lv : Nat) : Nat → List (XK → TE) → Prop where
  | nil {i : Nat} : LBs P' w K mg base N sc lv i []
  | cons {i : Nat} {t : XK → TE} {ts : List (XK → TE)} (h : LB P' w K mg base N sc lv i t) (r : LBs P' w K mg base N sc lv (i + 1) ts) : LBs P' w K mg base N sc lv i (t :: ts)
theorem LBs.nth {P' : Program} {w : World} {K : PySem.W.Frag} {mg : Str → Option Value} {base : Heap} {N : List Str} {sc : Scope} {lv : Nat} : ∀ {ts : List (XK → TE)} {i : Nat}, LBs P' w K mg base N sc lv i ts → ∀ k, k < ts.length → LB P' w K mg base N sc lv (i + k) (nthT ts k)
  | _, _, .cons h r, 0, _ => h
  | _, i, .cons h r, k + 1, hk => by
    have := r.nth k (Nat.lt_of_succ_lt_succ hk)
    rw [show i + (k + 1) = i + 1 + k by omega]
    exact this
theorem lb_of {P' : Program} {w : World} {K : PySem.W.Frag} {mg : Str → Option Value} {base : Heap} {N : List Str} {sc : Scope} {lv k : Nat} {t : XK → TE} {y : Str} {st : Stmt} {ds : List LamD} {params : Arguments} {body : Expr} {scope : Scope} (q : Str) (LD : LamsOk y st ds) (hd : ds[k]? = some ⟨params, body, scope⟩) (hq : q = y ++ ".<locals>.") (L : lamTB N sc scope = true) (hb : ∀ q : Str, LY.BindL q params body scope)
    (e : ∀ (cl : List (Str × Addr)) (f c' : Addr) (A : Around) (outer : List Env) (s : Shared) (H : Hp) (E : XK), Room lv (A.deeper (PySem.W.envX (q ++ "<lambda>") scope s.heap.objs.size f (.ref c') cl)) →
      OutOk (lamCy P' w K mg base N (q ++ "<lambda>") scope cl f c' A outer s H E) E → PE (lamCy P' w K mg base N (q ++ "<lambda>") scope cl f c' A outer s H E) body (t E)) : LB P' w K mg base N sc lv k t := by
  subst hq
  have hD := LD.D k _ hd
  refine ⟨by rw [hD]; exact lamT_by L, by rw [hD]; exact hb _, ?_⟩
  rw [hD, LD.q]
  exact fun cl f c' A outer s H E hr => e cl f c' A outer s H E hr outOkL
theorem pe_tries (P' : Program) (w : World) (K : PySem.W.Frag) (mg : Str → Option Value) (base : Heap) {X : Cx} {x a : Str} {k j n : Nat} {st st0 : Stmt} {y : Str} {ds : List LamD} {rows : FRows} {cats : List Str} {e : Expr} {ta : TE} {ts : List (XK → TE)} {p pos : Pos} (N : List Str) (sc : Scope)
    (h : HasF P' w K mg base x st j [a] (spTries P' w K mg base (k + 1) rows cats)) (LD : LamsOk y st0 ds) (hC : PySem.cellsFrom (n + 1) (defScope st0).names [] = X.env.cells) (hr : Room j X.A) (hfn : ∀ y, X.fn y = true) (hg : Gl X x) (LS : LBs P' w K mg base N sc k 0 ts) (ha : PE X e ta)
    (hdb : (x == ("__debug__" : Str)) = false := by decide) (he : starEach [e] X.env = [(false, eval e X.env)] := by rfl) (e1 : X.prog = P' := by rfl) (e2 : X.w = w := by rfl) (e3 : X.K = K := by rfl) (e4 : X.mg = mg := by rfl) (e5 : X.base = base := by rfl) (e6 : X.env.scope = sc := by rfl) (e7 : X.N = N := by rfl) :
    PE X (.Call (.Name x p) [e] [] pos) (tTries P' w K mg base (k + 1) n (spTries P' w K mg base (k + 1) rows cats) ts ta) := by
  subst e1 e2 e3 e4 e5 e6 e7
  obtain ⟨g, fd, F, gl, G, hb⟩ := h.ex
  refine ⟨fun pins s σ H Q I h => ?_⟩
  refine wpAny_Call_Name_kw (ld_glob I hg gl ?_ hdb)
  refine PySem.W.callWith_K (h₀ := X.base) I.ok.mod.kin F.kp ?_ he (by rfl)
  rw [he]
  show wpAny _ _ (spliced ((false, eval e X.env) :: [])) _ _ s
  refine Calls.spliced_cons (thn (ha.run pins s σ H _ I h) fun u s1 ⟨v, H1, I1, rv, b, js, ev, hb1, hj, hs⟩ => Calls.spliced_nil ⟨I1.kIn, ?_⟩)
  subst ev
  have fr := (env0_addA I1 hfn).2
  refine call_apart (v := .ref b) G hb hr hfn I1 rv (hs _ fr fun jj hjj => ?_)
  obtain ⟨h1, h2, h3⟩ := hj jj hjj
  have B := LS.nth jj.k h3
  rw [Nat.zero_add] at B
  have hCC : Tbs.C n = X.env.cells := (LD.C n).trans hC
  have := lam_call (f := jj.f) (c' := jj.c') (q := Tbs.q) (doc := jj.doc) (pm := jj.pm) (ctv := jj.ctv) I1 B.L h2.2 B.b B.e
  rw [← hCC] at this
  exact this
/-! ### they are kept -/
inductive SBs (C : Cc) : List (XK → TE) → List PEx → Prop where
  | nil : SBs C [] []
  | cons {t : XK → TE} {b : PEx} {ts : List (XK → TE)} {bs : List PEx} (h : ∀ W, SndE { C with W := W } (t W) b) (r : SBs C ts bs) : SBs C (t :: ts) (b :: bs)
theorem SBs.len {C : Cc} : ∀ {ts : List (XK → TE)} {bs : List PEx}, SBs C ts bs → ts.length = bs.length
  | _, _, .nil => rfl
  | _, _, .cons _ r => congrArg (· + 1) r.len
theorem SBs.nth {C : Cc} : ∀ {ts : List (XK → TE)} {bs : List PEx}, SBs C ts bs → ∀ k, k < ts.length → ∀ W, SndE { C with W := W } (nthT ts k W) (nthB bs k)
  | _, _, .cons h r, 0, _ => h
  | _, _, .cons h r, k + 1, hk => r.nth k (Nat.lt_of_succ_lt_succ hk)
/-- the things of a list are lambdas -/
theorem lj_of {K : PySem.W.Frag} {F : Hp} {n : Nat} : ∀ {ks : List Nat} {vs : List V}, Reps K (ks.map (P.fn n)) vs F → ∃ js : List LJ, vs = js.map (fun j => .ref j.f) ∧ js.map (fun j => j.k) = ks ∧ ∀ j ∈ js, F j.f = some (FzF (j.obj n)) ∧ j.pre F
  | [], vs, h => by cases h; exact ⟨[], rfl, rfl, fun _ h => (List.not_mem_nil h).elim⟩
  | k :: ks, vs, h => by
    obtain ⟨v, ws, rfl, ⟨f, fo, c', rfl, hf, dV, doc, pm, ctv, rfl, h1, h2⟩, hr⟩ := h
    obtain ⟨js, rfl, rfl, hj⟩ := lj_of hr
    exact ⟨⟨f, k, dV, doc, pm, c', ctv⟩ :: js, rfl, rfl, fun j hm => (List.mem_cons.mp hm).elim (fun e => by subst e; exact ⟨hf, h2, h1⟩) (hj j)⟩
theorem dfOk_up {F H : Hp} {ps : Arguments} {dV : Value} (e : Ex F H) (h : DfOk F ps dV) : DfOk H ps dV := h.elim .inl fun ⟨t, u, a, b, c⟩ => .inr ⟨t, u, a, b, e _ _ c⟩
theorem s_tries {C : Cc} {P' : Program} {w : World} {mg : Str → Option Value} {base : Heap} {lv n : Nat} {rows : FRows} {cats : List Str} {ta : TE} {a : PEx} {ts : List (XK → TE)} {bs : List PEx} (ha : SndE C ta a) (hb : SBs C ts bs) :
    SndE C (tTries P' w C.K mg base lv n (spTries P' w C.K mg base lv rows cats) ts ta) (pTries n rows cats bs a) := .mk fun {ρ σ F H Q Qp E} S h kx kq => ha S (wp_b h) kx fun x v ρ1 F1 H1 s1 rx h => by
  obtain ⟨ks, e, h9⟩ := wp_o (wp_b h)
  have h8 := wp_b h9
  cases x <;> first | (cases e; done) | skip
  obtain ⟨_, e1, e2⟩ := Option.bind_eq_some_iff.mp e
  have hz := (gd_some e1).1
  obtain ⟨rfl, hk⟩ := lamL_some e2
  obtain ⟨l, vs, rfl, hl, hr⟩ := rx
  obtain ⟨js, rfl, rfl, hj⟩ := lj_of hr
  have hlen : js.length < 1000 := by rw [List.length_map, List.length_map] at hz; exact hz
  refine ⟨l, js, rfl, s1.x.fh _ _ hl, fun j hm => ⟨s1.x.fh _ _ (hj j hm).1, ⟨s1.x.fh _ _ (hj j hm).2.1, dfOk_up s1.x.fh (hj j hm).2.2⟩, by rw [hb.len]; exact hk j.k (List.mem_map.mpr ⟨j, hm, rfl⟩)⟩, fun S' fr LS => ?_⟩
  refine ⟨l, js.map fun j => j.f, S', H1, rfl, rfl, fr, by rw [List.map_map]; exact s1.x.fh _ _ hl, fun D hD => ?_⟩
  obtain ⟨nS, nD⟩ := add_none hD
  have S1 := s1.st
  have D0 := S1.x.back nD
  rw [List.map_map]
  have Fr0 : Fr (OwnAt ρ1 σ) F1 H1 F1 (upd H1 D (.lst [])) := Fr.ext (Ext.own S1.x.fh nD)
  have frU : ∀ {G : Hp} {o : HO}, Fresh G S' → Fresh (upd G D o) S' := fun {G o} f b u e => by rw [upd_ne fun z => by rw [z, nS] at e; cases e]; exact f b u e
  -- what stands between two calls
  have step : ∀ (rest done_ : List LJ) (us : List V) (ys : List P) (ρi : Ro) (Fi Hi : Hp), js = done_ ++ rest → us.length = done_.length → Fr (OwnAt ρ1 σ) F1 H1 Fi Hi → Stt C ρi σ Fi Hi → (∀ b, OwnAt ρi σ b → OwnAt ρ1 σ b) → Hi D = some (.lst us) → Fi D = none → Reps C.K ys us Fi → Fresh Hi S' →
      wp (triesX rows cats bs (rest.map fun j => j.k) ρi) (fun zs r => wp (R.ok (.lst (ys ++ zs)) r) Qp E) E →
      trG P' w C.K mg base lv rows cats S' l (js.map (V.ref ∘ fun j => j.f)) D (fun v H3 => ∃ H2, H3 = LY.add H2 S' ∧ Fresh H2 S' ∧ Q v H2) (rest.map fun j => j.f) Hi := by
    intro rest
    induction rest with
    | nil =>
      intro done_ us ys ρi Fi Hi ej ul X Si ow hDi nFi A frI hw
      have hw : Qp (.lst (ys ++ [])) ρi := hw
      rw [List.append_nil] at hw
      have noD : ¬ OwnAt ρi σ D := fun z => by
        have := (S1.ownAt (ow _ z)).2.1
        rw [nD] at this; cases this
      refine ⟨Hi, rfl, frI, ?_⟩
      have s2 : Stp C σ ρ1 F1 H1 ρi Fi Hi := ⟨Si, X, ow⟩
      exact kq (.lst ys) (.ref D) ρi _ Hi (s1.trans (Stp.frz S1 s2 nD nFi hDi)) ⟨D, us, rfl, upd_same, reps_up (Ex.new nFi) A⟩ hw
    | cons j rest ih =>
      intro done_ us ys ρi Fi Hi ej ul X Si ow hDi nFi A frI hw
      have hw := wp_b (show wp ((pTry rows cats (nthB bs j.k) ρi).bind _) _ _ from hw)
      rw [wp_try] at hw
      have jm : j ∈ js := by rw [ej]; exact List.mem_append_right _ (List.mem_cons_self ..)
      have LSj := LS j jm
      obtain ⟨hf, hc, hd⟩ := hj j jm
      have noD : ¬ OwnAt ρi σ D := fun z => by
        have := (S1.ownAt (ow _ z)).2.1
        rw [nD] at this; cases this
      have eFi : Ex Fi Hi := X.fh
      have kj : j.k < ts.length := by rw [hb.len]; exact hk j.k (List.mem_map.mpr ⟨j, jm, rfl⟩)
      -- behind the call
      have next : ∀ (r : P) (v : V) (ρ2 : Ro) (F2 H2 : Hp), Stp C σ ρi Fi Hi ρ2 F2 H2 → Rep C.K r v F2 → Fresh H2 S' → wp ((triesX rows cats bs (rest.map fun j => j.k) ρ2).bind fun rs ρ => .ok (r :: rs) ρ) (fun zs r => wp (R.ok (.lst (ys ++ zs)) r) Qp E) E →
          ∃ acc, LY.add H2 S' D = some (.lst acc) ∧ acc.length < sizeLine ∧ ∃ Hm', upd (LY.add H2 S') D (.lst (acc ++ [v])) = LY.add Hm' S' ∧ Fresh Hm' S' ∧ Hm' l = some (.lst (js.map (V.ref ∘ fun j => j.f))) ∧ trG P' w C.K mg base lv rows cats S' l (js.map (V.ref ∘ fun j => j.f)) D (fun v H3 => ∃ H2, H3 = LY.add H2 S' ∧ Fresh H2 S' ∧ Q v H2) (rest.map fun j => j.f) Hm' := by
        intro r v ρ2 F2 H2 s2 rv fr2 hw2
        have X2 : Fr (OwnAt ρ1 σ) F1 H1 F2 H2 := X.trans s2.x fun b z => .inl (ow b z)
        have ow2 : ∀ b, OwnAt ρ2 σ b → OwnAt ρ1 σ b := fun b z => ow b (s2.ow b z)
        have hD2 : H2 D = some (.lst us) := s2.x.hh D _ noD (fun _ z => by cases z) hDi
        have nF2 : F2 D = none := s2.x.nw D nFi (by rw [hDi]; rfl)
        have noD2 : ¬ OwnAt ρ2 σ D := fun z => noD (s2.ow _ z)
        have S4 : Stt C ρ2 σ F2 (upd H2 D (.lst (us ++ [v]))) := s2.st.updAt D0 nF2 noD2 hD2 (fun _ z => by cases z) (fun _ z => by cases z)
        have ul2 : us.length < 1000 := by rw [ul]; have := congrArg List.length ej; rw [List.length_append, List.length_cons] at this; omega
        refine ⟨us, fr2.up hD2, smallL (by omega), upd H2 D (.lst (us ++ [v])), (add_upd nS).symm, frU fr2, ?_, ?_⟩
        · have : F2 l = some (.lst (js.map fun j => .ref j.f)) := X2.ff _ _ hl
          rw [upd_ne (ne_of_none this nF2)]
          exact X2.fh _ _ this
        · refine ih (done_ ++ [j]) (us ++ [v]) (ys ++ [r]) ρ2 F2 _ (by rw [ej, List.append_assoc]; rfl) (by rw [List.length_append, List.length_append, ul]; rfl) ⟨X2.ff, S4.x.fh, fun b o nb g hb => ?_, fun b hb => ?_, X2.nw, fun t => tabs_upd (X2.tk t) hD2 (fun _ z => by cases z) (fun _ z => by cases z)⟩ S4 ow2 upd_same nF2 (reps_app (reps_up s2.x.ff A) (reps_one rv)) (frU fr2) ?_
          · rw [upd_ne (ne_of_none hb nD)]; exact X2.hh b o nb g hb
          · by_cases hbD : b = D
            · rw [hbD, upd_same]; rfl
            · rw [upd_ne hbD]; exact X2.bb b hb
          · have hw2 := wp_b hw2
            exact wp_mono hw2 (fun zs r q => by
              have q : Qp (.lst (ys ++ (_ :: zs))) r := q
              show Qp (.lst ((ys ++ [_]) ++ zs)) r
              rw [List.append_assoc]; exact q) fun _ _ q => q
      refine ⟨j.f, j.obj n, j.pre, S', Hi, _, rfl, rfl, frI, eFi _ _ (X.ff _ _ hf), ⟨eFi _ _ (X.ff _ _ hc), dfOk_up (X.ff.trans eFi) hd⟩, LSj, fun h e => ⟨_, _, _, _, e⟩, ?_⟩
      refine (hb.nth j.k kj _).run (Si.chW _) hw (fun e cls d ρ' F' H' s r q => ?_) fun p v ρ' F' H' s rp q fr1 b na => ?_
      · obtain ⟨r', er, q⟩ := wo_ex q
        have s2 := s.unW
        refine ⟨e, F', r', r, s2.x.fh, C.tb.fr s2.st.x, er, fun v F2 H2 x2 fr2 rv => ?_⟩
        exact next r' v ρ' F2 H2 (s2.trans (Stp.ext s2.st x2)) rv fr2 q
      · have s2 := s.unW
        obtain ⟨n1, n2⟩ := add_none na
        have s3 := Stp.lay (o := .tup [.str "", v]) s2.st n2
        have frB : Fresh (upd H' b (.tup [.str "", v])) S' := fun b' o e => by
          rw [upd_ne fun z => by rw [z, n1] at e; cases e]; exact fr1 b' o e
        have := next (.tup [.str [], p]) (.ref b) ρ' _ _ (s2.trans s3) ⟨b, [.str "", v], rfl, .inl upd_same, reps_cons (p := .str []) rfl (reps_one (rep_up s3.x.ff rp))⟩ frB q
        rw [add_upd n1] at this
        exact this
  exact step js [] [] [] ρ1 F1 (upd H1 D (.lst [])) rfl rfl Fr0 (Stp.own S1 nD).st (fun _ z => z) upd_same (Same.free S1.x.fh nD) rfl (frU fr) (wp_mono h8 (fun _ _ q => q) fun _ _ q => q)
/-! ### a def with such lambdas -/
section
variable {P' : Program} {w : World} {K : PySem.W.Frag} {mg : Str → Option Value} {base : Heap} {x : Str} {st : Stmt} {k : Nat} {N ps : List Str} {c P0 : Addr}
/-- the promise, whatever the frame's number is -/
def liftFn (K : PySem.W.Frag) (l : Nat) (f : Nat → FL) : Sp := fun vs H Q E => ∀ fid, liftF K l (f fid) vs H Q E
theorem Stood.okFLn (S : Stood K mg x st) (LT : LawTab K mg base x c P0) (sc : FnScope N ps (defScope st)) (n : Nat) (hN : N.length = ps.length + n) (s : Nat → PSx)
    (hb : ∀ (kV doc pm : Value) (an : Option Addr) (cdv ct : Value) (us : List Value), us.length = ps.length → bindArgs (PySem.W.fnOf x x (defArgs st) (defBody st) (defScope st) .none kV doc pm an cdv ct) ⟨us, []⟩ = pure (ps.zip us))
    {t : Nat → XK → TS} (der : ∀ (fa : Addr) (A : Around) (outer : List Env) (sh : Shared) (H : Hp) (E : XK) (fid : Nat), fid = sh.heap.objs.size → Room k (A.deeper (envOfC x (defScope st) sh.heap.objs.size fa (.ref c))) →
      OutOk (cxOf (L2N.CX P' w) P' w K mg base N x (defScope st) fa (.ref c) A outer sh H E) E → PSs (cxOf (L2N.CX P' w) P' w K mg base N x (defScope st) fa (.ref c) A outer sh H E) (defBody st) (t fid E))
    (snd : ∀ fid io F0 H0 E tb, SndS ⟨K, io, F0, H0, E, tb⟩ (t fid E) (s fid)) : HasF P' w K mg base x st (k + 1) ps (liftFn K ps.length fun fid => runD n (s fid)) := by
  obtain ⟨f, fd, F, g⟩ := S.ex
  refine ⟨f, fd, F, g, ?_, F.bindsN hb⟩
  obtain ⟨oc, od, dV, kV, doc, pm, an, cdv, ct, osl, rfl, lk, hcd, hD, hK⟩ := F.ex
  obtain ⟨fa, o, fd, h1, h2, h3, h4⟩ := LT.at_
  rw [g] at h1
  cases h1
  rw [lk] at h2
  cases h2
  cases h3
  obtain rfl : cdv = .ref c := h4
  exact fn_of lk hcd sc (fun vs H Q E h => liftF_len vs H Q E (h 0)) fun A outer sh H vs Q E hr hsp => ⟨_, der f A outer sh H E _ rfl hr outOk, body_go hN (snd _) (hsp _)⟩
end
/-! ### the lambdas of a def's text -/
section
omit [Tbs]
abbrev noPos : Pos := ⟨0, 0, 0, 0⟩
def sb : Stmt → Nat → Stmt
  | .FunctionDef _ _ b _ _ _ _ _ _ _, i => b.getD i (.Pass noPos)
  | .For _ _ b _ _, i => b.getD i (.Pass noPos)
  | .While _ b _ _, i => b.getD i (.Pass noPos)
  | .If _ b _ _, i => b.getD i (.Pass noPos)
  | s, _ => s
def so : Stmt → Nat → Stmt
  | .If _ _ b _, i => b.getD i (.Pass noPos)
  | s, _ => s
def sx : Stmt → Expr
  | .Return (some e) _ => e
  | .Assign _ e _ => e
  | .AugAssign _ _ e _ => e
  | .Expr e _ => e
  | .If e _ _ _ => e
  | .While e _ _ _ => e
  | .For _ e _ _ _ => e
  | _ => .Name "" noPos
def ec : Expr → Nat → Expr
  | .Call f _ _ _, 0 => f
  | .Call _ as _ _, i + 1 => as.getD i (.Name "" noPos)
  | .List es _, i => es.getD i (.Name "" noPos)
  | .Tuple es _ _, i => es.getD i (.Name "" noPos)
  | .BoolOp _ es _, i => es.getD i (.Name "" noPos)
  | .BinOp l _ _ _, 0 => l
  | .BinOp _ _ r _, _ => r
  | .UnaryOp _ e _, _ => e
  | .Compare l _ _ _, 0 => l
  | .Compare _ _ cs _, i + 1 => cs.getD i (.Name "" noPos)
  | .IfExp t _ _ _, 0 => t
  | .IfExp _ b _ _, 1 => b
  | .IfExp _ _ e _, _ => e
  | .Subscript v _ _, 0 => v
  | .Subscript _ s _, _ => s
  | .Attribute v _ _, _ => v
  | e, _ => e
def lamsD : List Expr → List LamD
  | [] => []
  | .Lambda a b s _ :: r => ⟨a, b, s⟩ :: lamsD r
  | _ :: r => lamsD r
def lamNo : LamD := ⟨defArgs (.Pass noPos), .Name "" noPos, defScope (.Pass noPos)⟩
end
theorem HasF.lawN {P' : Program} {w : World} {K : PySem.W.Frag} {mg : Str → Option Value} {base : Heap} {x : Str} {st : Stmt} {k : Nat} {ps : List Str} {f : Nat → FL} (h : HasF P' w K mg base x st k ps (liftFn K 1 f))
    (hw : ∀ ns : List Int, ns.length ≤ 63 → ∀ fid, f fid [.val (.scr ns)] = .ok (.bl true) []) : Has P' w K mg base x st k ps (sp_lawG K) := by
  obtain ⟨fa, fd, F, g, G, b⟩ := h.ex
  have up : ∀ vs H Q E, sp_lawG K vs H Q E → liftFn K 1 f vs H Q (fun _ _ _ => False) := fun vs H Q E ⟨F0, a, ns, hF, tb, e, hs, hl, q⟩ fid => by
    subst e
    refine ⟨F0, [.val (.scr ns)], fun p os => p = .bl true ∧ os = [], fun _ _ => False, hF, ⟨rfl, fun i s e => ?_, fun i j c o o' n e1 _ _ _ => ?_⟩, tb, rfl, by rw [hw ns hl fid]; exact ⟨rfl, rfl⟩, fun p v os F' H' _ _ r ⟨e, _⟩ => ?_, fun _ _ _ _ _ _ _ _ _ z => z.elim⟩
    · cases i with
      | zero => cases e; exact ⟨_, rfl, a, rfl, hs⟩
      | succ i => simp at e
    · cases i with
      | zero => cases e1
      | succ i => simp at e1
    · subst e
      cases r
      exact q H'
  refine ⟨fa, fd, F, g, ⟨fun vs H Q E z => ?_, fun A outer s H args us vs Q E hr e0 hb r z => ?_⟩, b⟩
  · exact G.len vs H Q _ (up vs H Q E z)
  · refine codeAny_mono (G.run A outer s H args us vs Q (fun _ _ _ => False) hr e0 hb r (up vs H Q E z)) fun r s' hq => ?_
    cases r with
    | error e =>
      obtain ⟨_, _, _, _, _, _, _, _, _, _, _, _, z⟩ := hq
      exact z.elim
    | ok fl =>
      cases fl with
      | ret u => exact hq
      | next => exact hq
      | brk => exact hq
      | cont => exact hq
end FX

/-! text.index(sign); calls of own objects; static methods by keywords -/
namespace PX
open PySem PySem.Spec PyProof.Rows L2 L2
open PySem.Builtin.Str
theorem occ_full {x y : Str} {hi : Nat} {i k : Nat} : ∀ l : List Nat, (forIn (m := Id) l ((#[i] : Array Nat), k) (StrLaws.occBody x y hi 1)).run.fst = #[i]
  | [] => rfl
  | j :: r => by
    have h : ¬ ((((#[i] : Array Nat).size < 1 ∧ k ≤ j) ∧ j + y.length ≤ hi) ∧ subAt x y j = true) := fun c => absurd (show 1 < 1 from c.1.1.1) (Nat.lt_irrefl 1)
    simp only [List.forIn_cons, StrLaws.occBody, if_neg h]
    exact occ_full r
theorem occ_first {x : Str} {c i : Nat} (h : x.cps.toList[i]? = some c) (n : ∀ j, j < i → x.cps.toList[j]? ≠ some c) : occurrences x ⟨#[c]⟩ 0 x.length 1 = [i] := by
  have hi : i < x.length := by
    have := (List.getElem?_eq_some_iff.mp h).1
    show i < x.cps.size
    simpa using this
  rw [StrLaws.occ_eq]
  have key : ∀ (m s : Nat), s ≤ i → i < s + m → (forIn (m := Id) (List.range' s m) ((#[] : Array Nat), 0) (StrLaws.occBody x ⟨#[c]⟩ x.length 1)).run.fst = #[i] := by
    intro m
    induction m with
    | zero => intro s h1 h2; omega
    | succ m ih =>
      intro s h1 h2
      rw [List.range'_succ]
      by_cases e : s = i
      · subst e
        have hs := (PySem.StrLaws.subAt_one x c s).mpr h
        have h3 : ((((#[] : Array Nat).size < 1 ∧ 0 ≤ s) ∧ s + (⟨#[c]⟩ : Str).length ≤ x.length) ∧ subAt x ⟨#[c]⟩ s = true) := ⟨⟨⟨by decide, Nat.zero_le _⟩, hs.1⟩, hs.2⟩
        simp only [List.forIn_cons, StrLaws.occBody, if_pos h3]
        exact occ_full _
      · have h3 : ¬ ((((#[] : Array Nat).size < 1 ∧ 0 ≤ s) ∧ s + (⟨#[c]⟩ : Str).length ≤ x.length) ∧ subAt x ⟨#[c]⟩ s = true) := fun z => n s (by omega) ((PySem.StrLaws.subAt_one x c s).mp ⟨z.1.2, z.2⟩)
        simp only [List.forIn_cons, StrLaws.occBody, if_neg h3]
        exact ih (s + 1) (by omega) (by omega)
  rw [key (x.length + 1 - 0) 0 (Nat.zero_le _) (by omega)]
section
variable {X : Cx}
def rSIx : V → List V → Hp → VK → Prop := fun x xs H Q => ∃ a b i rest, x = .str a ∧ xs = [.str b] ∧ PySem.Builtin.Str.occurrences a b 0 a.length 1 = i :: rest ∧ Q (.int (i : Nat)) H
theorem k_sindex {o e : Expr} {to te : TE} {apos pos : Pos} (ho : PE X o to) (he : PE X e te) (hs : starEach [e] X.env = [(false, eval e X.env)] := by rfl) (hbase : attributeBase o "index" X.env (eval o X.env) = eval o X.env := by rfl) (hline : (apos.endLine == pos.line) = true := by rfl) :
    PE X (.Call (.Attribute o "index" apos) [e] [] pos) (tM1 rSIx to te) := pe_m1 F.slot_str_index F.type_str_index mt_sindex ho he hs hbase hline
end
end PX
namespace FX
open PySem PySem.Spec PyProof.Rows L2 RZ PX XS LY LamX
variable [Tbs]
/-! ### text.index(sign) -/
def sIxV (cs : List Nat) : P → Option P
  | .str [c] => gd (c ∈ cs) (.int (cs.idxOf c : Nat))
  | _ => none
def pSIx (a b : PEx) : PEx := fun ρ => (a ρ).bind fun x ρ => (ofO (strP x) ρ).bind fun cs ρ => (b ρ).bind fun y ρ => ofO (sIxV cs y) ρ
omit [Tbs] in
theorem idx_at {cs : List Nat} {c : Nat} (h : c ∈ cs) : cs[cs.idxOf c]? = some c := by
  have hl := List.idxOf_lt_length_of_mem h
  rw [List.getElem?_eq_getElem hl, List.getElem_idxOf hl]
omit [Tbs] in
theorem idx_first {c : Nat} : ∀ {cs : List Nat} {j : Nat}, j < cs.idxOf c → cs[j]? ≠ some c
  | [], _, h => by simp at h
  | d :: r, j, h => by
    rw [List.idxOf_cons] at h
    cases e : d == c with
    | true => rw [e] at h; simp at h
    | false =>
      rw [e] at h
      cases j with
      | zero => intro z; rw [List.getElem?_cons_zero] at z; cases z; simp at e
      | succ j => rw [List.getElem?_cons_succ]; exact idx_first (by simpa using h)
section
variable {C : Cc} {ta tb : TE} {a b : PEx}
theorem s_sidx (ha : SndE C ta a) (hb : SndE C tb b) : SndE C (tM1 rSIx ta tb) (pSIx a b) := .mk fun {ρ σ F H Q Qp E} S h kx k => ha S (wp_b h) kx fun x v ρ1 F1 H1 s1 rx h => by
  obtain ⟨cs, e, h⟩ := wp_o (wp_b h)
  cases x <;> first | (cases e; done) | skip
  cases e
  refine ⟨⟨_, rx⟩, hb s1.st (wp_b h) (kx.to s1) fun y u ρ2 F2 H2 s2 ry h => ?_⟩
  obtain ⟨p, e, q⟩ := wp_o h
  match y, e, ry with
  | .str [c], e, ry =>
    obtain ⟨hm, rfl⟩ := gd_some e
    refine ⟨_, _, cs.idxOf c, [], rx, by rw [ry], ?_, k (.int (cs.idxOf c : Nat)) _ ρ2 F2 H2 (s1.trans s2) rfl q⟩
    exact occ_first (x := SX.S cs) (show cs[cs.idxOf c]? = some c from idx_at hm) fun j hj => show cs[j]? ≠ some c from idx_first hj
end
section
variable {Q : P → Ro → Prop} {E : EP} {ρ : Ro} {a b : PEx}
omit [Tbs] in
theorem wpSIx : wp (pSIx a b ρ) Q E = wp (a ρ) (fun x ρ => wo (strP x) fun cs => wp (b ρ) (fun y ρ => wo (sIxV cs y) fun z => Q z ρ) E) E := by simp only [pSIx, wp_bind, wp_ofO]
omit [Tbs] in
theorem e_strP {cs : List Nat} : strP (.str cs) = some cs := rfl
omit [Tbs] in
theorem e_sIxV {cs : List Nat} {c : Nat} : sIxV cs (.str [c]) = gd (c ∈ cs) (.int (cs.idxOf c : Nat)) := rfl
end
/-! ### o(..), o of an own class -/
def tCallI (C : Addr) (sp : Sp) (E : XK) (tf : TE) (t : TA) : TE := fun σ H Q => tf σ H fun y H1 => ∃ a, y = V.ref a ∧ t σ H1 fun vs H2 => (∃ dx fs, H2 a = some (.ins C dx fs)) ∧ sp (V.ref a :: vs) H2 Q E
section
variable {X : Cx} {k j : Nat} {c q : Str} {st : Stmt} {ps : List Str} {sp : Sp} {fe e : Expr} {es : List Expr} {pos : Pos} {tf : TE} {t : TA} {E : XK}
theorem pe_callI (K : PySem.W.Frag) (h : MetF X.prog X.w K X.mg X.base k c "__call__" q st ps sp) (hr : Room j X.A) (hk : k ≤ j) (hx : Passes (L2N.CX X.prog X.w) X E) (hf : PE X fe tf) (ha : PA X (e :: es) t) (hK : X.K = K := by rfl)
    (ht : eval (.Call fe (e :: es) [] pos) X.env = (do callWith pos (← eval fe X.env) [] (backTo pos (starEach (e :: es) X.env)) (backToKw pos (keywordEach [] X.env))) := by rfl)
    (he : starEach (e :: es) X.env = (false, eval e X.env) :: starEach es X.env := by rfl) (hpl : (backTo pos (starEach es X.env)).any (·.1) = false := by rfl) : PE X (.Call fe (e :: es) [] pos) (tCallI (He.ga K c) sp E tf t) := by
  subst hK
  obtain ⟨f, fd, hc, hm, F, b, D⟩ := h.ex
  obtain ⟨oc, od, dV, kV, doc, pm, an, cdv, ct, osl, hfd, lk, hcd, hD, hK⟩ := D.ex
  refine ⟨fun pins s σ H Q I h => ?_⟩
  refine Call_ (thn (hf.run pins s σ H _ I h) fun u s1 ⟨y, H1, I1, ry, a, ey, q1⟩ => ?_) ht
  subst ey
  obtain rfl : u = Value.ref a := ry
  refine StX.callO_with (thn (ha.run pos pins s1 σ H1 _ I1 q1) fun us s2 ⟨vs, H2, I2, r, ⟨dx, fs, hi⟩, q2⟩ => ?_) he hpl
  obtain ⟨mA, O, _⟩ := ins_get I2.hok hi
  obtain ⟨od, J, _⟩ := O.look
  refine ⟨⟨_, _, od, J, rfl⟩, ?_⟩
  have len := F.len _ _ _ _ q2
  have rr : Vals (V.ref a :: vs) (Value.ref a :: us) := .cons rfl r
  have bt := b s2 (.ref a :: us) I2.kIn (by rw [List.append_nil, ← rr.length]; exact len)
  rw [List.append_nil] at bt
  refine wpAny_call (PySem.W.kco_code I2.kIn J rfl hm.at_ hm.fn (by unfold PySem.W.fnIn; rw [lk, hfd]) ?_)
  refine codeAny_mono (F.run X.A X.stack s2 H2 ⟨.ref a :: us, []⟩ (.ref a :: us) (.ref a :: vs) Q E (hr.mono hk) I2.env0 bt rr q2) fun r s' hq => ?_
  cases r with
  | error e => exact hx pins σ H2 s2 e s' I2 hq
  | ok fl =>
    cases fl with
    | ret u => exact I2.after hq
    | next => exact False.elim hq
    | brk => exact False.elim hq
    | cont => exact False.elim hq
end
theorem s_callI {C : Cc} {c : Str} {js : List (Option Nat)} {n : Nat} {f : FL} {ta : TE} {a : PEx} {t : TA} {x : PGa} (ha : SndE C ta a) (hx : SndAg C js t x) (nd : nodupB js = true := by rfl) : SndE C (tCallI (He.ga C.K c) (liftF C.K n f) C.W ta t) (pMeth c "__call__" js n f a x) := .mk fun {ρ σ F H Q Qp E} S h kx k => ha S (wp_b h) kx fun p v ρ1 F1 H1 s1 rp h => by
  obtain ⟨_, e, h⟩ := wp_o (wp_b h)
  obtain ⟨ns, fs, rfl, hm⟩ := selfB_some (gd_some e).1
  have rp0 := rp
  obtain ⟨ad, dx, vs, rfl, h1, h2, h3⟩ := rp
  refine ⟨ad, rfl, hx.run s1.st (wp_b h) (kx.to s1) fun xs ws ρ2 F2 H2 s2 ok h => ⟨⟨dx, _, s2.x.fh _ _ (s2.x.ff _ _ h1)⟩, ?_⟩⟩
  obtain ⟨_, e2, h⟩ := wp_o (wp_b h)
  exact lift_go (js := none :: js) (xs := .val (.ins c ns fs) :: xs) s2.st (nodup_of (js := none :: js) nd) ⟨⟨_, rfl, rep_up s2.x.ff rp0⟩, ok⟩ (gd_some e2).1 h (kx.to (s1.trans s2)) fun p v ρ3 F3 H3 s3 r q => k p v ρ3 F3 H3 ((s1.trans s2).trans s3) r q
/-! ### C.m(k = ..), a static method -/
def KBm (m q : Str) (st : Stmt) (ps : List Str) (n : Nat) (ks : List Str) (g : {α : Type} → List α → List α → List α) : Prop :=
  (∀ (kV doc pm : Value) (an : Option Addr) (cdv ct : Value) (us ws : List Value), us.length = n → ws.length = ks.length → bindArgs (PySem.W.fnOf m q (defArgs st) (defBody st) (defScope st) .none kV doc pm an cdv ct) ⟨us, ks.zip ws⟩ = pure (ps.zip (g us ws))) ∧
  ∀ {us ws : List Value} {vs zs : List V}, Vals vs us → Vals zs ws → Vals (g vs zs) (g us ws)
omit [Tbs] in
theorem KBm.bn {K : PySem.W.Frag} {fd : FuncData} {f : Addr} {m q : Str} {st : Stmt} {ps : List Str} {n : Nat} {ks : List Str} {g : {α : Type} → List α → List α → List α} (b : KBm m q st ps n ks g) (F : FunD K m q (defArgs st) (defBody st) (defScope st) [] [] f fd) : KBn K fd ps n ks (fun us ws => g us ws) (fun vs zs => g vs zs) := by
  obtain ⟨oc, od, dV, kV, doc, pm, an, cdv, ct, osl, rfl, lk, hcd, hD, hK⟩ := F.ex
  rcases hD with ⟨_, rfl⟩ | ⟨e, _⟩
  · exact ⟨fun s us ws _ l1 l2 => .of_eq (b.1 kV doc pm an cdv ct us ws l1 l2), fun r1 r2 => b.2 r1 r2⟩
  · exact absurd rfl e
section
variable {X : Cx} {k j : Nat} {c m q : Str} {st : Stmt} {ps : List Str} {sp : Sp} {kws : List Keyword} {p pos apos : Pos} {tk : TA} {E : XK}
omit [Tbs] in
theorem pe_smFK0 {pl : Sem Bool} {ks : List Str} {g : {α : Type} → List α → List α → List α} (h : SmF X.prog X.w X.K X.mg X.base k c m q st ps sp) (hr : Room k X.A) (hx : Passes (L2N.CX X.prog X.w) X E) (hg : Gl X c) (hkw : PK X kws tk) (kb : KBm m q st ps 0 ks g)
    (hall : (backToKw pos (keywordEach kws X.env)).all (·.1.isSome) = true := by rfl) (hks : (backToKw pos (keywordEach kws X.env)).filterMap (·.1) = ks := by rfl) (hdb : (c == ("__debug__" : Str)) = false := by decide)
    (hpl : ((backTo pos (starEach [] X.env)).any (·.1) || (backToKw pos (keywordEach kws X.env)).any (·.1.isNone)) = false := by rfl)
    (ht : eval (.Call (.Attribute (.Name c p) m apos) [] kws pos) X.env = (do
      let ov ← eval (.Name c p) X.env
      standAt apos.atName
      let (f, first) ← holding [ov] (getMethod ov m pl)
      callWith pos f first (backTo pos (starEach [] X.env)) (backToKw pos (keywordEach kws X.env))) := by rfl) :
    PE X (.Call (.Attribute (.Name c p) m apos) [] kws pos) (tCallN 0 ks.length sp (fun vs zs => g vs zs) E tNil tk) := by
  obtain ⟨fd, sm, gm, G, b, D⟩ := h.ex
  obtain ⟨rest, rc⟩ := sm.rc
  refine ⟨fun pins s σ H Q I hq => ?_⟩
  refine PySem.W.methodCall_KW (pl := pl) (ld_glob I hg gm ?_ hdb) ht
  obtain ⟨m', hF⟩ := I.fr
  refine PySem.W.method_cls I.kIn sm.ga ?_
  refine PySem.W.cls_sm hF I.ok.mod.kin sm.ty sm.rd sm.at_ rc rfl ?_
  have I1 := I.tok (s.toks + 1)
  refine PySem.W.callWith_KW0 (first := []) (h₀ := X.base) I1.ok.mod.kin sm.kp hall (thn (hkw.run pos pins _ σ H _ I1 hq) fun ws s2 hh => ?_) hpl
  obtain ⟨zs, H2, I2, rz, l1, l2, q2⟩ := hh
  refine ⟨I2.kIn, ?_⟩
  rw [hks]
  exact run_fnN (us := []) (vs := []) G hr (kb.bn D) hx I2 .nil rz rfl l2 q2
end
end FX

/-! methods and functions with keyword-only parameters that have defaults -/
namespace FX
open PySem PySem.Spec PyProof.Rows L2 RZ PX XS LY LamX
variable [Tbs]
structure StoodMK (K : PySem.W.Frag) (c m q : Str) (st : Stmt) (kws : List (Str × V)) : Prop where
  ex : ∃ fd, FunD K m q (defArgs st) (defBody st) (defScope st) [] kws (He.ma K (He.ga K c) m) fd ∧ Cls K (He.ga K c) ∧ Meth K (He.ga K c) m (He.ma K (He.ga K c) m)
structure MetK (P : Program) (w : World) (K : PySem.W.Frag) (mg : Str → Option Value) (base : Heap) (k : Nat) (c m q : Str) (st : Stmt) (kws : List (Str × V)) (ps : List Str) (sp : Sp) : Prop where
  ex : ∃ (f : Addr) (fd : FuncData), Cls K (He.ga K c) ∧ Meth K (He.ga K c) m f ∧ FnOk P w K mg base (L2N.CX P w) k f fd ps sp ∧ FunD K m q (defArgs st) (defBody st) (defScope st) [] kws f fd
section
variable {P' : Program} {w : World} {K : PySem.W.Frag} {mg : Str → Option Value} {base : Heap} {c m q0 : Str} {st : Stmt} {kws : List (Str × V)} {k : Nat} {N ps : List Str}
theorem StoodMK.okF (S : StoodMK K c m q0 st kws) (sc : FnScope N ps (defScope st)) (n : Nat) (hN : N.length = ps.length + n) (s : PSx) {t : XK → TS}
    (der : ∀ (fa : Addr) (cdv : Value) (A : Around) (outer : List Env) (sh : Shared) (H : Hp) (E : XK), Room k (A.deeper (envOfC q0 (defScope st) sh.heap.objs.size fa cdv)) →
      OutOk (cxOf (L2N.CX P' w) P' w K mg base N q0 (defScope st) fa cdv A outer sh H E) E → PSs (cxOf (L2N.CX P' w) P' w K mg base N q0 (defScope st) fa cdv A outer sh H E) (defBody st) (t E))
    (snd : ∀ io F0 H0 E tb, SndS ⟨K, io, F0, H0, E, tb⟩ (t E) s) : MetK P' w K mg base (k + 1) c m q0 st kws ps (liftF K ps.length (runD n s)) := by
  obtain ⟨fd, F, c1, m1⟩ := S.ex
  refine ⟨_, fd, c1, m1, ?_, F⟩
  obtain ⟨oc, od, dV, kV, doc, pm, an, cdv, ct, osl, rfl, lk, hcd, hD, hK⟩ := F.ex
  exact fn_of lk hcd sc liftF_len fun A outer sh H vs Q E hr hsp => ⟨t E, der _ cdv A outer sh H E hr outOk, body_go hN snd hsp⟩
end
/-- o.m(.., k = ..) -/
def tMethN (C : Addr) (m : Str) (n1 n2 : Nat) (g : List V → List V → List V) (sp : Sp) (E : XK) (ta : TE) (t tk : TA) : TE := fun σ H Q => ta σ H fun x H1 => ∃ a dx fs, x = .ref a ∧ H1 a = some (.ins C dx fs) ∧ fs.lookup m = none ∧
  t σ H1 fun vs H2 => tk σ H2 fun zs H3 => vs.length = n1 ∧ zs.length = n2 ∧ sp (g (x :: vs) zs) H3 Q E
section
variable {X : Cx} {k j n : Nat} {c m q : Str} {st : Stmt} {kws ms : List (Str × V)} {ps ks : List Str} {sp : Sp} {o e : Expr} {es : List Expr} {kwx : List Keyword} {pos apos : Pos} {ta : TE} {t tk : TA} {E : XK}
omit [Tbs] in
theorem pe_metN (K : PySem.W.Frag) {pl : Sem Bool} (h : MetK X.prog X.w K X.mg X.base k c m q st kws ps sp) (hr : Room j X.A) (hk : k ≤ j) (hx : Passes (L2N.CX X.prog X.w) X E) (he : PE X o ta) (ha : PA X (e :: es) t) (hkw : PK X kwx tk) (n : Nat) (ks : List Str) (ms : List (Str × V)) (g : {α : Type} → List α → List α → List α → List α) (hk0 : kws ≠ []) (hms : ∀ q ∈ ms, q ∈ kws)
    (hrel : ∀ {vs mz zs : List V} {us mv ws : List Value}, Vals vs us → Vals mz mv → Vals zs ws → Vals (g vs mz zs) (g us mv ws))
    (hb : ∀ (D : Addr) (doc pm : Value) (an : Option Addr) (cdv ct : Value) (us mv ws : List Value), us.length = n + 1 → mv.length = ms.length → ws.length = ks.length →
      KwChain D ((ms.map (·.1)).zip mv) (bindArgs (PySem.W.fnOf m q (defArgs st) (defBody st) (defScope st) .none (.ref D) doc pm an cdv ct) ⟨us, ks.zip ws⟩) (ps.zip (g us mv ws)))
    (hK : X.K = K := by rfl) (hall : (backToKw pos (keywordEach kwx X.env)).all (·.1.isSome) = true := by rfl) (hks : (backToKw pos (keywordEach kwx X.env)).filterMap (·.1) = ks := by rfl)
    (hst : starEach (e :: es) X.env = (false, eval e X.env) :: starEach es X.env := by rfl) (hpl : ((backTo pos (starEach (e :: es) X.env)).any (·.1) || (backToKw pos (keywordEach kwx X.env)).any (·.1.isNone)) = false := by rfl)
    (ht : eval (.Call (.Attribute o m apos) (e :: es) kwx pos) X.env = (do
      let ov ← eval o X.env
      standAt apos.atName
      let (f, first) ← holding [ov] (getMethod ov m pl)
      callWith pos f first (backTo pos (starEach (e :: es) X.env)) (backToKw pos (keywordEach kwx X.env))) := by rfl) :
    PE X (.Call (.Attribute o m apos) (e :: es) kwx pos) (tMethN (He.ga K c) m n ks.length (fun vs zs => g vs (ms.map (·.2)) zs) sp E ta t tk) := by
  subst hK
  obtain ⟨f, fd, hc, hm, F, D⟩ := h.ex
  obtain ⟨mv, B⟩ := D.kbinds0 (n + 1) ks ms g hk0 hms hrel hb
  refine ⟨fun pins s σ H Q I hq => ?_⟩
  refine PySem.W.methodCall_KW (pl := pl) (thn (he.run pins s σ H _ I hq) fun u s1 ⟨x, H1, I1, rx, a, dx, fs, ex, ea, l, q⟩ => ?_) ht
  subst ex
  obtain rfl : u = Value.ref a := rx
  refine getmeth_ok I1 ea hc hm l ?_
  refine PySem.W.callWith_KW (first := [.ref a]) (h₀ := X.base) I.ok.mod.kin hm.kp hall (thn (ha.run pos pins s1 σ H1 _ I1 q) fun us s2 ⟨vs, H2, I2, r, q⟩ => ?_) hpl hst
  refine thn (hkw.run pos pins s2 σ H2 _ I2 q) fun ws s3 ⟨zs, H3, I3, rz, l1, l2, q2⟩ => ⟨I3.kIn, ?_⟩
  rw [hks]
  exact run_fnN (us := .ref a :: us) (vs := .ref a :: vs) F (hr.mono hk) B hx I3 (.cons rfl r) rz (by rw [List.length_cons, l1]) l2 q2
omit [Tbs] in
/-- no keyword is handed -/
theorem pe_metN1 (K : PySem.W.Frag) {pl : Sem Bool} (h : MetK X.prog X.w K X.mg X.base k c m q st kws ps sp) (hr : Room j X.A) (hk : k ≤ j) (hx : Passes (L2N.CX X.prog X.w) X E) (he : PE X o ta) (ha : PA X (e :: es) t) (n : Nat) (ms : List (Str × V)) (g : {α : Type} → List α → List α → List α → List α) (hk0 : kws ≠ []) (hms : ∀ q ∈ ms, q ∈ kws)
    (hrel : ∀ {vs mz zs : List V} {us mv ws : List Value}, Vals vs us → Vals mz mv → Vals zs ws → Vals (g vs mz zs) (g us mv ws))
    (hb : ∀ (D : Addr) (doc pm : Value) (an : Option Addr) (cdv ct : Value) (us mv ws : List Value), us.length = n + 1 → mv.length = ms.length → ws.length = ([] : List Str).length →
      KwChain D ((ms.map (·.1)).zip mv) (bindArgs (PySem.W.fnOf m q (defArgs st) (defBody st) (defScope st) .none (.ref D) doc pm an cdv ct) ⟨us, ([] : List Str).zip ws⟩) (ps.zip (g us mv ws)))
    (hK : X.K = K := by rfl) (hst : starEach (e :: es) X.env = (false, eval e X.env) :: starEach es X.env := by rfl) (hpl : (backTo pos (starEach es X.env)).any (·.1) = false := by rfl)
    (ht : eval (.Call (.Attribute o m apos) (e :: es) [] pos) X.env = (do
      let ov ← eval o X.env
      standAt apos.atName
      let (f, first) ← holding [ov] (getMethod ov m pl)
      callWith pos f first (backTo pos (starEach (e :: es) X.env)) (backToKw pos (keywordEach [] X.env))) := by rfl) :
    PE X (.Call (.Attribute o m apos) (e :: es) [] pos) (tMethN (He.ga K c) m n 0 (fun vs zs => g vs (ms.map (·.2)) zs) sp E ta t tNil) := by
  subst hK
  obtain ⟨f, fd, hc, hm, F, D⟩ := h.ex
  obtain ⟨mv, B⟩ := D.kbinds0 (n + 1) [] ms g hk0 hms hrel hb
  refine ⟨fun pins s σ H Q I hq => ?_⟩
  refine PySem.W.methodCall_KW (pl := pl) (thn (he.run pins s σ H _ I hq) fun u s1 ⟨x, H1, I1, rx, a, dx, fs, ex, ea, l, q⟩ => ?_) ht
  subst ex
  obtain rfl : u = Value.ref a := rx
  refine getmeth_ok I1 ea hc hm l ?_
  refine PySem.W.callWith_K (first := [.ref a]) (h₀ := X.base) I.ok.mod.kin hm.kp (thn (ha.run pos pins s1 σ H1 _ I1 q) fun us s2 ⟨vs, H2, I2, r, q⟩ => ⟨I2.kIn, ?_⟩) hst hpl
  obtain ⟨l1, _, q2⟩ := q
  exact run_fnN (us := .ref a :: us) (vs := .ref a :: vs) (ws := []) (zs := []) F (hr.mono hk) B hx I2 (.cons rfl r) .nil (by rw [List.length_cons, l1]) rfl q2
omit [Tbs] in
/-- keywords alone -/
theorem pe_metN0 (K : PySem.W.Frag) {pl : Sem Bool} (h : MetK X.prog X.w K X.mg X.base k c m q st kws ps sp) (hr : Room j X.A) (hk : k ≤ j) (hx : Passes (L2N.CX X.prog X.w) X E) (he : PE X o ta) (hkw : PK X kwx tk) (ks : List Str) (ms : List (Str × V)) (g : {α : Type} → List α → List α → List α → List α) (hk0 : kws ≠ []) (hms : ∀ q ∈ ms, q ∈ kws)
    (hrel : ∀ {vs mz zs : List V} {us mv ws : List Value}, Vals vs us → Vals mz mv → Vals zs ws → Vals (g vs mz zs) (g us mv ws))
    (hb : ∀ (D : Addr) (doc pm : Value) (an : Option Addr) (cdv ct : Value) (us mv ws : List Value), us.length = 1 → mv.length = ms.length → ws.length = ks.length →
      KwChain D ((ms.map (·.1)).zip mv) (bindArgs (PySem.W.fnOf m q (defArgs st) (defBody st) (defScope st) .none (.ref D) doc pm an cdv ct) ⟨us, ks.zip ws⟩) (ps.zip (g us mv ws)))
    (hK : X.K = K := by rfl) (hall : (backToKw pos (keywordEach kwx X.env)).all (·.1.isSome) = true := by rfl) (hks : (backToKw pos (keywordEach kwx X.env)).filterMap (·.1) = ks := by rfl)
    (hpl : ((backTo pos (starEach [] X.env)).any (·.1) || (backToKw pos (keywordEach kwx X.env)).any (·.1.isNone)) = false := by rfl)
    (ht : eval (.Call (.Attribute o m apos) [] kwx pos) X.env = (do
      let ov ← eval o X.env
      standAt apos.atName
      let (f, first) ← holding [ov] (getMethod ov m pl)
      callWith pos f first (backTo pos (starEach [] X.env)) (backToKw pos (keywordEach kwx X.env))) := by rfl) :
    PE X (.Call (.Attribute o m apos) [] kwx pos) (tMethN (He.ga K c) m 0 ks.length (fun vs zs => g vs (ms.map (·.2)) zs) sp E ta tNil tk) := by
  subst hK
  obtain ⟨f, fd, hc, hm, F, D⟩ := h.ex
  obtain ⟨mv, B⟩ := D.kbinds0 1 ks ms g hk0 hms hrel hb
  refine ⟨fun pins s σ H Q I hq => ?_⟩
  refine PySem.W.methodCall_KW (pl := pl) (thn (he.run pins s σ H _ I hq) fun u s1 ⟨x, H1, I1, rx, a, dx, fs, ex, ea, l, q⟩ => ?_) ht
  subst ex
  obtain rfl : u = Value.ref a := rx
  refine getmeth_ok I1 ea hc hm l ?_
  refine PySem.W.callWith_KW0 (first := [.ref a]) (h₀ := X.base) I.ok.mod.kin hm.kp hall (thn (hkw.run pos pins s1 σ H1 _ I1 q) fun ws s2 ⟨zs, H2, I2, rz, _, l2, q2⟩ => ⟨I2.kIn, ?_⟩) hpl
  rw [hks]
  exact run_fnN (us := [.ref a]) (vs := [.ref a]) F (hr.mono hk) B hx I2 (.cons rfl .nil) rz rfl l2 q2
end
def pMethN (c m : Str) (n1 n2 l : Nat) (f : FL) (g : List P → List P → List P) (a : PEx) (x y : PAx) : PEx := fun ρ => (a ρ).bind fun p ρ => (ofO (gd (selfB c m p = true) ()) ρ).bind fun _ ρ => (x ρ).bind fun xs ρ => (y ρ).bind fun ys ρ =>
  (ofO (gd (xs.length = n1 ∧ ys.length = n2 ∧ (g (p :: xs) ys).length = l) ()) ρ).bind fun _ ρ => backR [] [] (f ((g (p :: xs) ys).map Sl.val)) ρ
theorem s_methN {C : Cc} {c m : Str} {n1 n2 l : Nat} {f : FL} {gV : List V → List V → List V} {gP : List P → List P → List P} {ta : TE} {a : PEx} {t u : TA} {x y : PAx} (ng : ∀ {F : Hp} {xs ys : List P} {vs ws : List V}, xs.length = n1 + 1 → ys.length = n2 → Reps C.K xs vs F → Reps C.K ys ws F → Reps C.K (gP xs ys) (gV vs ws) F) (ha : SndE C ta a) (hx : SndA C t x) (hy : SndA C u y) :
    SndE C (tMethN (He.ga C.K c) m n1 n2 gV (liftF C.K l f) C.W ta t u) (pMethN c m n1 n2 l f gP a x y) := .mk fun {ρ σ F H Q Qp E} S h kx k => ha S (wp_b h) kx fun p v ρ1 F1 H1 s1 rp h => by
  obtain ⟨_, e, h⟩ := wp_o (wp_b h)
  obtain ⟨ns, fs, rfl, hm⟩ := selfB_some (gd_some e).1
  have rp0 := rp
  obtain ⟨ad, dx, vs, rfl, h1, h2, h3⟩ := rp
  refine ⟨ad, dx, _, rfl, s1.x.fh _ _ h1, look_none hm, hx s1.st (wp_b h) (kx.to s1) fun xs us ρ2 F2 H2 s2 rx h => hy.run s2.st (wp_b h) (kx.to (s1.trans s2)) fun ys ws ρ3 F3 H3 s3 ry h => ?_⟩
  obtain ⟨_, e2, h⟩ := wp_o (wp_b h)
  obtain ⟨l1, l2, l3⟩ := (gd_some e2).1
  have rx := reps_up s3.x.ff rx
  have rp1 := rep_up (s2.x.ff.trans s3.x.ff) rp0
  refine ⟨by rw [← reps_len rx]; exact l1, by rw [← reps_len ry]; exact l2, ?_⟩
  rw [← backR_vals (gP (P.ins c ns fs :: xs) ys)] at h
  exact lift_go s3.st (nodup_none _) (agok_vals (ng (by rw [List.length_cons, l1]) l2 (reps_cons rp1 rx) ry)) (by rw [List.length_map]; exact l3) h (kx.to ((s1.trans s2).trans s3)) fun p v ρ4 F4 H4 s4 r q => k p v ρ4 F4 H4 (((s1.trans s2).trans s3).trans s4) r q
section
variable {Q : P → Ro → Prop} {E : EP} {ρ : Ro} {a : PEx} {x y : PAx} {c m : Str} {n1 n2 l : Nat} {f : FL} {g : List P → List P → List P}
omit [Tbs] in
theorem wpMethN : wp (pMethN c m n1 n2 l f g a x y ρ) Q E = wp (a ρ) (fun p ρ => selfB c m p = true ∧ wp (x ρ) (fun xs ρ => wp (y ρ) (fun ys ρ => (xs.length = n1 ∧ ys.length = n2 ∧ (g (p :: xs) ys).length = l) ∧ wf (f ((g (p :: xs) ys).map Sl.val)) (fun r os => Q r ρ) (fun e os => E e ρ)) E) E) E := by
  simp only [pMethN, wp_bind, wp_ofO, wo_gd, wp_back, wb_nil]
end
end FX

namespace K06
open PySem PySem.Spec PyProof.Rows L2 RZ PX FX LY
def rows_law : FRows := [([[73, 110, 118, 97, 108, 105, 100, 76, 101, 116, 116, 101, 114, 115], [73, 110, 118, 97, 108, 105, 100, 83, 105, 122, 101]], "given")]
def cats_law : List Str := ["InvalidLetters", "InvalidSize", "InvalidSteps", "InvalidJoins", "InvalidAnswers", "InvalidBegin", "InvalidState", "InvalidWord", "UnknownLetter"]
def js_law : List Str := ["JoinError", "Missing", "NothingLeft"]
theorem res_InvalidLetters {p0 : P} : resX rows_law cats_law (mkXn "InvalidLetters" [73, 110, 118, 97, 108, 105, 100, 76, 101, 116, 116, 101, 114, 115] ["given"] [p0]) = some (.tup (.str [73, 110, 118, 97, 108, 105, 100, 76, 101, 116, 116, 101, 114, 115] :: [p0])) := by rfl
theorem res_InvalidSize {p0 : P} : resX rows_law cats_law (mkXn "InvalidSize" [73, 110, 118, 97, 108, 105, 100, 83, 105, 122, 101] ["given"] [p0]) = some (.tup (.str [73, 110, 118, 97, 108, 105, 100, 83, 105, 122, 101] :: [p0])) := by rfl
theorem res_InvalidSteps {p0 : P} : resX rows_law cats_law (mkXn "InvalidSteps" [73, 110, 118, 97, 108, 105, 100, 83, 116, 101, 112, 115] ["at"] [p0]) = some (.tup (.str [73, 110, 118, 97, 108, 105, 100, 83, 116, 101, 112, 115] :: [])) := by rfl
theorem res_InvalidJoins {p0 : P} : resX rows_law cats_law (mkXn "InvalidJoins" [73, 110, 118, 97, 108, 105, 100, 74, 111, 105, 110, 115] ["at"] [p0]) = some (.tup (.str [73, 110, 118, 97, 108, 105, 100, 74, 111, 105, 110, 115] :: [])) := by rfl
theorem res_InvalidAnswers {p0 : P} : resX rows_law cats_law (mkXn "InvalidAnswers" [73, 110, 118, 97, 108, 105, 100, 65, 110, 115, 119, 101, 114, 115] ["at"] [p0]) = some (.tup (.str [73, 110, 118, 97, 108, 105, 100, 65, 110, 115, 119, 101, 114, 115] :: [])) := by rfl
theorem res_InvalidBegin {p0 : P} : resX rows_law cats_law (mkXn "InvalidBegin" [73, 110, 118, 97, 108, 105, 100, 66, 101, 103, 105, 110] ["given"] [p0]) = some (.tup (.str [73, 110, 118, 97, 108, 105, 100, 66, 101, 103, 105, 110] :: [])) := by rfl
theorem res_InvalidState {p0 : P} : resX rows_law cats_law (mkXn "InvalidState" [73, 110, 118, 97, 108, 105, 100, 83, 116, 97, 116, 101] ["given"] [p0]) = some (.tup (.str [73, 110, 118, 97, 108, 105, 100, 83, 116, 97, 116, 101] :: [])) := by rfl
theorem res_InvalidWord {p0 : P} : resX rows_law cats_law (mkXn "InvalidWord" [73, 110, 118, 97, 108, 105, 100, 87, 111, 114, 100] ["given"] [p0]) = some (.tup (.str [73, 110, 118, 97, 108, 105, 100, 87, 111, 114, 100] :: [])) := by rfl
theorem res_UnknownLetter {p0 : P} : resX rows_law cats_law (mkXn "UnknownLetter" [85, 110, 107, 110, 111, 119, 110, 76, 101, 116, 116, 101, 114] ["letter"] [p0]) = some (.tup (.str [85, 110, 107, 110, 111, 119, 110, 76, 101, 116, 116, 101, 114] :: [])) := by rfl
theorem nf_answer_answer_names : ((PySem.Str.ofString "answer") == (PySem.Str.ofString "answer_names")) = false := by decide +kernel
theorem nf_answer_begin : ((PySem.Str.ofString "answer") == (PySem.Str.ofString "begin")) = false := by decide +kernel
theorem nf_answer_join_rows : ((PySem.Str.ofString "answer") == (PySem.Str.ofString "join_rows")) = false := by decide +kernel
theorem nf_answer_letters : ((PySem.Str.ofString "answer") == (PySem.Str.ofString "letters")) = false := by decide +kernel
theorem nf_answer_size : ((PySem.Str.ofString "answer") == (PySem.Str.ofString "size")) = false := by decide +kernel
theorem nf_answer_step_rows : ((PySem.Str.ofString "answer") == (PySem.Str.ofString "step_rows")) = false := by decide +kernel
theorem nf_answer_names_begin : ((PySem.Str.ofString "answer_names") == (PySem.Str.ofString "begin")) = false := by decide +kernel
theorem nf_answer_names_join_rows : ((PySem.Str.ofString "answer_names") == (PySem.Str.ofString "join_rows")) = false := by decide +kernel
theorem nf_answer_names_letters : ((PySem.Str.ofString "answer_names") == (PySem.Str.ofString "letters")) = false := by decide +kernel
theorem nf_answer_names_size : ((PySem.Str.ofString "answer_names") == (PySem.Str.ofString "size")) = false := by decide +kernel
theorem nf_answer_names_step_rows : ((PySem.Str.ofString "answer_names") == (PySem.Str.ofString "step_rows")) = false := by decide +kernel
theorem nf_answers_answer_names : ((PySem.Str.ofString "answers") == (PySem.Str.ofString "answer_names")) = false := by decide +kernel
theorem nf_answers_begin : ((PySem.Str.ofString "answers") == (PySem.Str.ofString "begin")) = false := by decide +kernel
theorem nf_answers_join_rows : ((PySem.Str.ofString "answers") == (PySem.Str.ofString "join_rows")) = false := by decide +kernel
theorem nf_answers_letters : ((PySem.Str.ofString "answers") == (PySem.Str.ofString "letters")) = false := by decide +kernel
theorem nf_answers_size : ((PySem.Str.ofString "answers") == (PySem.Str.ofString "size")) = false := by decide +kernel
theorem nf_answers_step_rows : ((PySem.Str.ofString "answers") == (PySem.Str.ofString "step_rows")) = false := by decide +kernel
theorem nf_begin_answer_names : ((PySem.Str.ofString "begin") == (PySem.Str.ofString "answer_names")) = false := by decide +kernel
theorem nf_begin_join_rows : ((PySem.Str.ofString "begin") == (PySem.Str.ofString "join_rows")) = false := by decide +kernel
theorem nf_begin_letters : ((PySem.Str.ofString "begin") == (PySem.Str.ofString "letters")) = false := by decide +kernel
theorem nf_begin_size : ((PySem.Str.ofString "begin") == (PySem.Str.ofString "size")) = false := by decide +kernel
theorem nf_begin_step_rows : ((PySem.Str.ofString "begin") == (PySem.Str.ofString "step_rows")) = false := by decide +kernel
theorem nf_check_state_answer_names : ((PySem.Str.ofString "check_state") == (PySem.Str.ofString "answer_names")) = false := by decide +kernel
theorem nf_check_state_begin : ((PySem.Str.ofString "check_state") == (PySem.Str.ofString "begin")) = false := by decide +kernel
theorem nf_check_state_join_rows : ((PySem.Str.ofString "check_state") == (PySem.Str.ofString "join_rows")) = false := by decide +kernel
theorem nf_check_state_letters : ((PySem.Str.ofString "check_state") == (PySem.Str.ofString "letters")) = false := by decide +kernel
theorem nf_check_state_size : ((PySem.Str.ofString "check_state") == (PySem.Str.ofString "size")) = false := by decide +kernel
theorem nf_check_state_step_rows : ((PySem.Str.ofString "check_state") == (PySem.Str.ofString "step_rows")) = false := by decide +kernel
theorem nf_check_word_answer_names : ((PySem.Str.ofString "check_word") == (PySem.Str.ofString "answer_names")) = false := by decide +kernel
theorem nf_check_word_begin : ((PySem.Str.ofString "check_word") == (PySem.Str.ofString "begin")) = false := by decide +kernel
theorem nf_check_word_join_rows : ((PySem.Str.ofString "check_word") == (PySem.Str.ofString "join_rows")) = false := by decide +kernel
theorem nf_check_word_letters : ((PySem.Str.ofString "check_word") == (PySem.Str.ofString "letters")) = false := by decide +kernel
theorem nf_check_word_size : ((PySem.Str.ofString "check_word") == (PySem.Str.ofString "size")) = false := by decide +kernel
theorem nf_check_word_step_rows : ((PySem.Str.ofString "check_word") == (PySem.Str.ofString "step_rows")) = false := by decide +kernel
theorem nf_combine_answer_names : ((PySem.Str.ofString "combine") == (PySem.Str.ofString "answer_names")) = false := by decide +kernel
theorem nf_combine_begin : ((PySem.Str.ofString "combine") == (PySem.Str.ofString "begin")) = false := by decide +kernel
theorem nf_combine_join_rows : ((PySem.Str.ofString "combine") == (PySem.Str.ofString "join_rows")) = false := by decide +kernel
theorem nf_combine_letters : ((PySem.Str.ofString "combine") == (PySem.Str.ofString "letters")) = false := by decide +kernel
theorem nf_combine_size : ((PySem.Str.ofString "combine") == (PySem.Str.ofString "size")) = false := by decide +kernel
theorem nf_combine_step_rows : ((PySem.Str.ofString "combine") == (PySem.Str.ofString "step_rows")) = false := by decide +kernel
theorem nf_content_answer_names : ((PySem.Str.ofString "content") == (PySem.Str.ofString "answer_names")) = false := by decide +kernel
theorem nf_content_begin : ((PySem.Str.ofString "content") == (PySem.Str.ofString "begin")) = false := by decide +kernel
theorem nf_content_join_rows : ((PySem.Str.ofString "content") == (PySem.Str.ofString "join_rows")) = false := by decide +kernel
theorem nf_content_letters : ((PySem.Str.ofString "content") == (PySem.Str.ofString "letters")) = false := by decide +kernel
theorem nf_content_size : ((PySem.Str.ofString "content") == (PySem.Str.ofString "size")) = false := by decide +kernel
theorem nf_content_step_rows : ((PySem.Str.ofString "content") == (PySem.Str.ofString "step_rows")) = false := by decide +kernel
theorem nf_counter_answer_names : ((PySem.Str.ofString "counter") == (PySem.Str.ofString "answer_names")) = false := by decide +kernel
theorem nf_counter_begin : ((PySem.Str.ofString "counter") == (PySem.Str.ofString "begin")) = false := by decide +kernel
theorem nf_counter_join_rows : ((PySem.Str.ofString "counter") == (PySem.Str.ofString "join_rows")) = false := by decide +kernel
theorem nf_counter_letters : ((PySem.Str.ofString "counter") == (PySem.Str.ofString "letters")) = false := by decide +kernel
theorem nf_counter_size : ((PySem.Str.ofString "counter") == (PySem.Str.ofString "size")) = false := by decide +kernel
theorem nf_counter_step_rows : ((PySem.Str.ofString "counter") == (PySem.Str.ofString "step_rows")) = false := by decide +kernel
theorem nf_fold_answer_names : ((PySem.Str.ofString "fold") == (PySem.Str.ofString "answer_names")) = false := by decide +kernel
theorem nf_fold_begin : ((PySem.Str.ofString "fold") == (PySem.Str.ofString "begin")) = false := by decide +kernel
theorem nf_fold_join_rows : ((PySem.Str.ofString "fold") == (PySem.Str.ofString "join_rows")) = false := by decide +kernel
theorem nf_fold_letters : ((PySem.Str.ofString "fold") == (PySem.Str.ofString "letters")) = false := by decide +kernel
theorem nf_fold_size : ((PySem.Str.ofString "fold") == (PySem.Str.ofString "size")) = false := by decide +kernel
theorem nf_fold_step_rows : ((PySem.Str.ofString "fold") == (PySem.Str.ofString "step_rows")) = false := by decide +kernel
theorem nf_join_rows_answer_names : ((PySem.Str.ofString "join_rows") == (PySem.Str.ofString "answer_names")) = false := by decide +kernel
theorem nf_join_rows_begin : ((PySem.Str.ofString "join_rows") == (PySem.Str.ofString "begin")) = false := by decide +kernel
theorem nf_join_rows_letters : ((PySem.Str.ofString "join_rows") == (PySem.Str.ofString "letters")) = false := by decide +kernel
theorem nf_join_rows_size : ((PySem.Str.ofString "join_rows") == (PySem.Str.ofString "size")) = false := by decide +kernel
theorem nf_join_rows_step_rows : ((PySem.Str.ofString "join_rows") == (PySem.Str.ofString "step_rows")) = false := by decide +kernel
theorem nf_joins_answer_names : ((PySem.Str.ofString "joins") == (PySem.Str.ofString "answer_names")) = false := by decide +kernel
theorem nf_joins_begin : ((PySem.Str.ofString "joins") == (PySem.Str.ofString "begin")) = false := by decide +kernel
theorem nf_joins_join_rows : ((PySem.Str.ofString "joins") == (PySem.Str.ofString "join_rows")) = false := by decide +kernel
theorem nf_joins_letters : ((PySem.Str.ofString "joins") == (PySem.Str.ofString "letters")) = false := by decide +kernel
theorem nf_joins_size : ((PySem.Str.ofString "joins") == (PySem.Str.ofString "size")) = false := by decide +kernel
theorem nf_joins_step_rows : ((PySem.Str.ofString "joins") == (PySem.Str.ofString "step_rows")) = false := by decide +kernel
theorem nf_letters_answer_names : ((PySem.Str.ofString "letters") == (PySem.Str.ofString "answer_names")) = false := by decide +kernel
theorem nf_letters_begin : ((PySem.Str.ofString "letters") == (PySem.Str.ofString "begin")) = false := by decide +kernel
theorem nf_letters_join_rows : ((PySem.Str.ofString "letters") == (PySem.Str.ofString "join_rows")) = false := by decide +kernel
theorem nf_letters_size : ((PySem.Str.ofString "letters") == (PySem.Str.ofString "size")) = false := by decide +kernel
theorem nf_letters_step_rows : ((PySem.Str.ofString "letters") == (PySem.Str.ofString "step_rows")) = false := by decide +kernel
theorem nf_size_answer_names : ((PySem.Str.ofString "size") == (PySem.Str.ofString "answer_names")) = false := by decide +kernel
theorem nf_size_begin : ((PySem.Str.ofString "size") == (PySem.Str.ofString "begin")) = false := by decide +kernel
theorem nf_size_join_rows : ((PySem.Str.ofString "size") == (PySem.Str.ofString "join_rows")) = false := by decide +kernel
theorem nf_size_letters : ((PySem.Str.ofString "size") == (PySem.Str.ofString "letters")) = false := by decide +kernel
theorem nf_size_step_rows : ((PySem.Str.ofString "size") == (PySem.Str.ofString "step_rows")) = false := by decide +kernel
theorem nf_step_answer_names : ((PySem.Str.ofString "step") == (PySem.Str.ofString "answer_names")) = false := by decide +kernel
theorem nf_step_begin : ((PySem.Str.ofString "step") == (PySem.Str.ofString "begin")) = false := by decide +kernel
theorem nf_step_join_rows : ((PySem.Str.ofString "step") == (PySem.Str.ofString "join_rows")) = false := by decide +kernel
theorem nf_step_letters : ((PySem.Str.ofString "step") == (PySem.Str.ofString "letters")) = false := by decide +kernel
theorem nf_step_size : ((PySem.Str.ofString "step") == (PySem.Str.ofString "size")) = false := by decide +kernel
theorem nf_step_step_rows : ((PySem.Str.ofString "step") == (PySem.Str.ofString "step_rows")) = false := by decide +kernel
theorem nf_step_rows_answer_names : ((PySem.Str.ofString "step_rows") == (PySem.Str.ofString "answer_names")) = false := by decide +kernel
theorem nf_step_rows_begin : ((PySem.Str.ofString "step_rows") == (PySem.Str.ofString "begin")) = false := by decide +kernel
theorem nf_step_rows_join_rows : ((PySem.Str.ofString "step_rows") == (PySem.Str.ofString "join_rows")) = false := by decide +kernel
theorem nf_step_rows_letters : ((PySem.Str.ofString "step_rows") == (PySem.Str.ofString "letters")) = false := by decide +kernel
theorem nf_step_rows_size : ((PySem.Str.ofString "step_rows") == (PySem.Str.ofString "size")) = false := by decide +kernel
theorem nf_steps_answer_names : ((PySem.Str.ofString "steps") == (PySem.Str.ofString "answer_names")) = false := by decide +kernel
theorem nf_steps_begin : ((PySem.Str.ofString "steps") == (PySem.Str.ofString "begin")) = false := by decide +kernel
theorem nf_steps_join_rows : ((PySem.Str.ofString "steps") == (PySem.Str.ofString "join_rows")) = false := by decide +kernel
theorem nf_steps_letters : ((PySem.Str.ofString "steps") == (PySem.Str.ofString "letters")) = false := by decide +kernel
theorem nf_steps_size : ((PySem.Str.ofString "steps") == (PySem.Str.ofString "size")) = false := by decide +kernel
theorem nf_steps_step_rows : ((PySem.Str.ofString "steps") == (PySem.Str.ofString "step_rows")) = false := by decide +kernel
theorem nf_told_answer_names : ((PySem.Str.ofString "told") == (PySem.Str.ofString "answer_names")) = false := by decide +kernel
theorem nf_told_begin : ((PySem.Str.ofString "told") == (PySem.Str.ofString "begin")) = false := by decide +kernel
theorem nf_told_join_rows : ((PySem.Str.ofString "told") == (PySem.Str.ofString "join_rows")) = false := by decide +kernel
theorem nf_told_letters : ((PySem.Str.ofString "told") == (PySem.Str.ofString "letters")) = false := by decide +kernel
theorem nf_told_size : ((PySem.Str.ofString "told") == (PySem.Str.ofString "size")) = false := by decide +kernel
theorem nf_told_step_rows : ((PySem.Str.ofString "told") == (PySem.Str.ofString "step_rows")) = false := by decide +kernel
theorem nf_walked_answer_names : ((PySem.Str.ofString "walked") == (PySem.Str.ofString "answer_names")) = false := by decide +kernel
theorem nf_walked_begin : ((PySem.Str.ofString "walked") == (PySem.Str.ofString "begin")) = false := by decide +kernel
theorem nf_walked_join_rows : ((PySem.Str.ofString "walked") == (PySem.Str.ofString "join_rows")) = false := by decide +kernel
theorem nf_walked_letters : ((PySem.Str.ofString "walked") == (PySem.Str.ofString "letters")) = false := by decide +kernel
theorem nf_walked_size : ((PySem.Str.ofString "walked") == (PySem.Str.ofString "size")) = false := by decide +kernel
theorem nf_walked_step_rows : ((PySem.Str.ofString "walked") == (PySem.Str.ofString "step_rows")) = false := by decide +kernel
theorem nf_with_answers_answer_names : ((PySem.Str.ofString "with_answers") == (PySem.Str.ofString "answer_names")) = false := by decide +kernel
theorem nf_with_answers_begin : ((PySem.Str.ofString "with_answers") == (PySem.Str.ofString "begin")) = false := by decide +kernel
theorem nf_with_answers_join_rows : ((PySem.Str.ofString "with_answers") == (PySem.Str.ofString "join_rows")) = false := by decide +kernel
theorem nf_with_answers_letters : ((PySem.Str.ofString "with_answers") == (PySem.Str.ofString "letters")) = false := by decide +kernel
theorem nf_with_answers_size : ((PySem.Str.ofString "with_answers") == (PySem.Str.ofString "size")) = false := by decide +kernel
theorem nf_with_answers_step_rows : ((PySem.Str.ofString "with_answers") == (PySem.Str.ofString "step_rows")) = false := by decide +kernel
theorem nf_with_joins_answer_names : ((PySem.Str.ofString "with_joins") == (PySem.Str.ofString "answer_names")) = false := by decide +kernel
theorem nf_with_joins_begin : ((PySem.Str.ofString "with_joins") == (PySem.Str.ofString "begin")) = false := by decide +kernel
theorem nf_with_joins_join_rows : ((PySem.Str.ofString "with_joins") == (PySem.Str.ofString "join_rows")) = false := by decide +kernel
theorem nf_with_joins_letters : ((PySem.Str.ofString "with_joins") == (PySem.Str.ofString "letters")) = false := by decide +kernel
theorem nf_with_joins_size : ((PySem.Str.ofString "with_joins") == (PySem.Str.ofString "size")) = false := by decide +kernel
theorem nf_with_joins_step_rows : ((PySem.Str.ofString "with_joins") == (PySem.Str.ofString "step_rows")) = false := by decide +kernel
local macro_rules
  | `(tactic| wide_open with ($a0, $a1, $a2, $a3, $a4, $a5) using "sim") => `(tactic| try simp only [$a0:term, $a1:term, $a2:term, $a3:term, $a4:term, $a5:term, ↓wpV, ↓wpW, ↓wpC, ↓wpOp, ↓wpOpL, ↓wpNil, ↓wpCons, ↓wpF, ↓wpF1, ↓wpNeg, ↓wpAnd, ↓wpOr, ↓wpNot, ↓wpAndT, ↓wpOrT, ↓wpNotT, ↓wpIf, ↓wpVal, ↓wpTr, ↓wpNt, ↓wpAn, ↓wpO, ↓wpYs, ↓wpTup, ↓wpONo, ↓wpOSome, ↓wpSlice, ↓wpSliceL, ↓wpChain, ↓wpFz, ↓wpIsi2, ↓wpLst, ↓wpListOf, ↓wpSort, ↓wpSortI, ↓wpListStr, ↓wpLenSet, ↓wpSortSet, ↓wpFld, ↓wpLc, ↓wpIVal, ↓wpIEnu, ↓wpIZi, ↓wpIRg1, ↓wpIRg2, ↓wpPopAt, ↓wpPop, ↓wpGet2L, ↓wpNewT, ↓wpNewK, ↓wpGaN, ↓wpGaC, ↓wpGaR, ↓wpCall, ↓wpNCall, ↓wpMeth, ↓wpMethK, ↓wpMk, ↓wpMkK, ↓wf_run, ↓wn_run, wf_ok, wn_ok, mkQ_o, ↓wsSeq, ↓wsRet, ↓wsRetN, ↓wsRetF, ↓wsRetO, ↓wsDrop, ↓wsAsg, two_c, three_c, ↓wsPar, ↓wsPar3, ↓wsParOwn, ↓wsParOwn3, ↓wsNext, ↓wsBreak, ↓wsCont, ↓wsNever, ↓wsIf, ↓wsOwn, ↓wsApp, ↓wsFrz, ↓wsFor, ↓wsAugI, ↓wsSetF, ↓wsPutD, ↓wpHN, ↓wpHsN, ↓wpHsC, ↓wpHT, ↓wpHSub, e_gN, e_gsN, e_gsC, e_gT, ↓wo_bind, ↓wo_map, e_vSl, e_wSl_v, e_wSl_l, e_wSl_i, e_argS_v, e_argS_l, e_argS_i, e_locO, e_objO_l, e_objO_i, e_lstO_l, e_lstO_i, e_chg_l, e_chg_i, e_val_l, e_val_i, e_val_dT, e_val_dK, e_obj_v, e_obj_u, e_toI, e_toB, e_tupN, e_tru_n, e_tru_b, e_tru_i, e_tru_s, e_tru_l, e_tru_t, e_add_ii, e_add_ss, e_add_ll, e_add_tt, e_sub, e_mul_ii, e_mul_li, e_fdiv, e_mod, e_pow, e_lt_ii, e_lt_ss, e_le, e_gt, e_ge, e_is, e_isNot, e_non_n, e_non_b, e_non_i, e_non_s, e_non_l, e_non_t, e_eq, e_ne, e_ok_nn, e_ok_nb, e_ok_ni, e_ok_ns, e_ok_bn, e_ok_bb, e_ok_bi, e_ok_bs, e_ok_in, e_ok_ib, e_ok_ii, e_ok_is, e_ok_sn, e_ok_sb, e_ok_si, e_ok_ss, e_peq_nn, e_peq_bb, e_peq_ii, e_peq_ss, e_peq_ll, e_peq_tt, e_peq_ns, e_peq_sn, e_peq_ni, e_peq_in, e_peq_is, e_peq_si, e_peq_bs, e_peq_sb, e_peq_nb, e_peq_bn, e_peqs_nil, e_peqs_cons, e_in, e_nin, e_inP_c, e_ix_l, e_ix_t, e_ix_s, e_cut_l, e_cut_s, e_cut_c, e_len_s, e_len_l, e_len_t, e_int_i, e_int_b, e_tup_l, e_tup_t, e_lst_l, e_lst_t, e_lst_c, e_all, e_any, e_sum, e_max, e_min, e_isi, e_join, e_it_l, e_it_t, e_it_s, e_enu, e_enuT, e_enum0, e_zip_l, e_zip_t, e_lenSet, e_sortSet, e_listStr, e_sort, e_sortI, e_isD_T, e_isD_K, e_dget_T, e_dget_K, e_fDGet, e_fDIn, e_fDNin, e_dput_T, e_dput_K, e_key_i, e_key_s, e_keyT2, e_sl_0, e_sl_s, e_set_0, e_set_s, e_wipe_0, e_wipe_s, e_unw_0, e_unw_s, e_uns_0, e_uns_s, e_io_n, e_io_v, e_io_i, e_wb_i, e_wb_v, e_wb_n, ↓ws_okRt, e_strs, e_strs_f, e_ints, e_ints_f, e_bls, e_bls_f, e_low, e_joinE, e_inP_strs, e_okT_bool, e_isP_bool_non, e_isP_bool_bl, e_isP_bool_int, e_isP_bool_str, e_isP_bool_lst, e_isP_bool_tup, e_okT_int, e_isP_int_non, e_isP_int_bl, e_isP_int_int, e_isP_int_str, e_isP_int_lst, e_isP_int_tup, e_okT_str, e_isP_str_non, e_isP_str_bl, e_isP_str_int, e_isP_str_str, e_isP_str_lst, e_isP_str_tup, e_okT_list, e_isP_list_non, e_isP_list_bl, e_isP_list_int, e_isP_list_str, e_isP_list_lst, e_isP_list_tup, e_okT_tuple, e_isP_tuple_non, e_isP_tuple_bl, e_isP_tuple_int, e_isP_tuple_str, e_isP_tuple_lst, e_isP_tuple_tup, e_kd_non, e_kd_bl, e_kd_int, e_kd_str, e_kd_lst, e_kd_tup, e_isi2, e_ints_n, e_ints_c, e_strs_n, e_strs_c, e_bls_n, e_bls_c, e_maxI2, e_minI2, e_pick, e_insO_i, e_insO_l, e_put_nil, e_put_here, e_put_next, e_look_here, e_look_next, e_self, e_fld, e_na10, e_na2, e_at0, e_at1, e_at2, e_at3, e_at4, e_at5, e_at6, e_at7, e_at8, e_at9, e_ixN0, e_ixN1, e_ixN2, e_ixN3, e_ixN4, e_ixN5, e_ixN6, e_ixN7, e_ixN8, e_ixN9, ↓wp_try, e_sRaise, e_xMk, ↓wpCallK, ↓wpCallKn, ↓wpOwn2, wo_notV, ↓wpOwnN, ↓wpStar, e_seq_l, e_seq_t, e_bool_i, e_bool_b, ↓wpIsC, e_isC, ↓wpLc2, ↓wpSortSetL, e_setl, ↓wpTries, ↓wp_tx_n, ↓wp_tx_c, e_nthB_0, e_nthB_s, e_lamsV, e_lamL_n, e_lamL_c, ↓wpSIx, e_strP, e_sIxV, ↓wpMethN, wo_some, ↓wo_gd, ↓pIte_t, ↓pIte_f, List.map_cons, List.map_nil, List.all_cons, List.all_nil, Nat.mul_zero, Nat.add_zero, Int.toNat_natCast, List.cons_append, List.nil_append, List.length_cons, List.length_nil, or_true, true_or, List.length_map, Bool.not_true, Option.isNone_none, Bool.and_self, decide_true, decide_false, beq_self_eq_true, Bool.or_self, Bool.or_false, Bool.false_or, Bool.or_true, Bool.true_or, eq_self, List.drop_zero, List.drop_succ_cons, List.take_succ_cons, List.take_zero, List.drop_nil, List.take_nil, rangeN_len, rangeP_len, List.contains_cons, List.contains_nil, Bool.not_false, true_and, and_true, Option.map_some, List.set_cons_zero, List.set_cons_succ, Nat.reduceAdd, Nat.reduceLeDiff, Nat.reduceMul, Int.reduceNeg, Int.reduceAdd, Int.reduceSub, Int.reduceLE, Int.reduceLT, Int.reduceMul, Int.reduceToNat, Int.reducePow, Nat.reducePow, Nat.reduceLT, nf_answer_answer_names, nf_answer_begin, nf_answer_join_rows, nf_answer_letters, nf_answer_size, nf_answer_step_rows, nf_answer_names_begin, nf_answer_names_join_rows, nf_answer_names_letters, nf_answer_names_size, nf_answer_names_step_rows, nf_answers_answer_names, nf_answers_begin, nf_answers_join_rows, nf_answers_letters, nf_answers_size, nf_answers_step_rows, nf_begin_answer_names, nf_begin_join_rows, nf_begin_letters, nf_begin_size, nf_begin_step_rows, nf_check_state_answer_names, nf_check_state_begin, nf_check_state_join_rows, nf_check_state_letters, nf_check_state_size, nf_check_state_step_rows, nf_check_word_answer_names, nf_check_word_begin, nf_check_word_join_rows, nf_check_word_letters, nf_check_word_size, nf_check_word_step_rows, nf_combine_answer_names, nf_combine_begin, nf_combine_join_rows, nf_combine_letters, nf_combine_size, nf_combine_step_rows, nf_content_answer_names, nf_content_begin, nf_content_join_rows, nf_content_letters, nf_content_size, nf_content_step_rows, nf_counter_answer_names, nf_counter_begin, nf_counter_join_rows, nf_counter_letters, nf_counter_size, nf_counter_step_rows, nf_fold_answer_names, nf_fold_begin, nf_fold_join_rows, nf_fold_letters, nf_fold_size, nf_fold_step_rows, nf_join_rows_answer_names, nf_join_rows_begin, nf_join_rows_letters, nf_join_rows_size, nf_join_rows_step_rows, nf_joins_answer_names, nf_joins_begin, nf_joins_join_rows, nf_joins_letters, nf_joins_size, nf_joins_step_rows, nf_letters_answer_names, nf_letters_begin, nf_letters_join_rows, nf_letters_size, nf_letters_step_rows, nf_size_answer_names, nf_size_begin, nf_size_join_rows, nf_size_letters, nf_size_step_rows, nf_step_answer_names, nf_step_begin, nf_step_join_rows, nf_step_letters, nf_step_size, nf_step_step_rows, nf_step_rows_answer_names, nf_step_rows_begin, nf_step_rows_join_rows, nf_step_rows_letters, nf_step_rows_size, nf_steps_answer_names, nf_steps_begin, nf_steps_join_rows, nf_steps_letters, nf_steps_size, nf_steps_step_rows, nf_told_answer_names, nf_told_begin, nf_told_join_rows, nf_told_letters, nf_told_size, nf_told_step_rows, nf_walked_answer_names, nf_walked_begin, nf_walked_join_rows, nf_walked_letters, nf_walked_size, nf_walked_step_rows, nf_with_answers_answer_names, nf_with_answers_begin, nf_with_answers_join_rows, nf_with_answers_letters, nf_with_answers_size, nf_with_answers_step_rows, nf_with_joins_answer_names, nf_with_joins_begin, nf_with_joins_join_rows, nf_with_joins_letters, nf_with_joins_size, nf_with_joins_step_rows, res_InvalidLetters, res_InvalidSize, res_InvalidSteps, res_InvalidJoins, res_InvalidAnswers, res_InvalidBegin, res_InvalidState, res_InvalidWord, res_UnknownLetter])
  | `(tactic| wide_open with ($a0, $a1, $a2, $a3, $a4) using "sim") => `(tactic| try simp only [$a0:term, $a1:term, $a2:term, $a3:term, $a4:term, ↓wpV, ↓wpW, ↓wpC, ↓wpOp, ↓wpOpL, ↓wpNil, ↓wpCons, ↓wpF, ↓wpF1, ↓wpNeg, ↓wpAnd, ↓wpOr, ↓wpNot, ↓wpAndT, ↓wpOrT, ↓wpNotT, ↓wpIf, ↓wpVal, ↓wpTr, ↓wpNt, ↓wpAn, ↓wpO, ↓wpYs, ↓wpTup, ↓wpONo, ↓wpOSome, ↓wpSlice, ↓wpSliceL, ↓wpChain, ↓wpFz, ↓wpIsi2, ↓wpLst, ↓wpListOf, ↓wpSort, ↓wpSortI, ↓wpListStr, ↓wpLenSet, ↓wpSortSet, ↓wpFld, ↓wpLc, ↓wpIVal, ↓wpIEnu, ↓wpIZi, ↓wpIRg1, ↓wpIRg2, ↓wpPopAt, ↓wpPop, ↓wpGet2L, ↓wpNewT, ↓wpNewK, ↓wpGaN, ↓wpGaC, ↓wpGaR, ↓wpCall, ↓wpNCall, ↓wpMeth, ↓wpMethK, ↓wpMk, ↓wpMkK, ↓wf_run, ↓wn_run, wf_ok, wn_ok, mkQ_o, ↓wsSeq, ↓wsRet, ↓wsRetN, ↓wsRetF, ↓wsRetO, ↓wsDrop, ↓wsAsg, two_c, three_c, ↓wsPar, ↓wsPar3, ↓wsParOwn, ↓wsParOwn3, ↓wsNext, ↓wsBreak, ↓wsCont, ↓wsNever, ↓wsIf, ↓wsOwn, ↓wsApp, ↓wsFrz, ↓wsFor, ↓wsAugI, ↓wsSetF, ↓wsPutD, ↓wpHN, ↓wpHsN, ↓wpHsC, ↓wpHT, ↓wpHSub, e_gN, e_gsN, e_gsC, e_gT, ↓wo_bind, ↓wo_map, e_vSl, e_wSl_v, e_wSl_l, e_wSl_i, e_argS_v, e_argS_l, e_argS_i, e_locO, e_objO_l, e_objO_i, e_lstO_l, e_lstO_i, e_chg_l, e_chg_i, e_val_l, e_val_i, e_val_dT, e_val_dK, e_obj_v, e_obj_u, e_toI, e_toB, e_tupN, e_tru_n, e_tru_b, e_tru_i, e_tru_s, e_tru_l, e_tru_t, e_add_ii, e_add_ss, e_add_ll, e_add_tt, e_sub, e_mul_ii, e_mul_li, e_fdiv, e_mod, e_pow, e_lt_ii, e_lt_ss, e_le, e_gt, e_ge, e_is, e_isNot, e_non_n, e_non_b, e_non_i, e_non_s, e_non_l, e_non_t, e_eq, e_ne, e_ok_nn, e_ok_nb, e_ok_ni, e_ok_ns, e_ok_bn, e_ok_bb, e_ok_bi, e_ok_bs, e_ok_in, e_ok_ib, e_ok_ii, e_ok_is, e_ok_sn, e_ok_sb, e_ok_si, e_ok_ss, e_peq_nn, e_peq_bb, e_peq_ii, e_peq_ss, e_peq_ll, e_peq_tt, e_peq_ns, e_peq_sn, e_peq_ni, e_peq_in, e_peq_is, e_peq_si, e_peq_bs, e_peq_sb, e_peq_nb, e_peq_bn, e_peqs_nil, e_peqs_cons, e_in, e_nin, e_inP_c, e_ix_l, e_ix_t, e_ix_s, e_cut_l, e_cut_s, e_cut_c, e_len_s, e_len_l, e_len_t, e_int_i, e_int_b, e_tup_l, e_tup_t, e_lst_l, e_lst_t, e_lst_c, e_all, e_any, e_sum, e_max, e_min, e_isi, e_join, e_it_l, e_it_t, e_it_s, e_enu, e_enuT, e_enum0, e_zip_l, e_zip_t, e_lenSet, e_sortSet, e_listStr, e_sort, e_sortI, e_isD_T, e_isD_K, e_dget_T, e_dget_K, e_fDGet, e_fDIn, e_fDNin, e_dput_T, e_dput_K, e_key_i, e_key_s, e_keyT2, e_sl_0, e_sl_s, e_set_0, e_set_s, e_wipe_0, e_wipe_s, e_unw_0, e_unw_s, e_uns_0, e_uns_s, e_io_n, e_io_v, e_io_i, e_wb_i, e_wb_v, e_wb_n, ↓ws_okRt, e_strs, e_strs_f, e_ints, e_ints_f, e_bls, e_bls_f, e_low, e_joinE, e_inP_strs, e_okT_bool, e_isP_bool_non, e_isP_bool_bl, e_isP_bool_int, e_isP_bool_str, e_isP_bool_lst, e_isP_bool_tup, e_okT_int, e_isP_int_non, e_isP_int_bl, e_isP_int_int, e_isP_int_str, e_isP_int_lst, e_isP_int_tup, e_okT_str, e_isP_str_non, e_isP_str_bl, e_isP_str_int, e_isP_str_str, e_isP_str_lst, e_isP_str_tup, e_okT_list, e_isP_list_non, e_isP_list_bl, e_isP_list_int, e_isP_list_str, e_isP_list_lst, e_isP_list_tup, e_okT_tuple, e_isP_tuple_non, e_isP_tuple_bl, e_isP_tuple_int, e_isP_tuple_str, e_isP_tuple_lst, e_isP_tuple_tup, e_kd_non, e_kd_bl, e_kd_int, e_kd_str, e_kd_lst, e_kd_tup, e_isi2, e_ints_n, e_ints_c, e_strs_n, e_strs_c, e_bls_n, e_bls_c, e_maxI2, e_minI2, e_pick, e_insO_i, e_insO_l, e_put_nil, e_put_here, e_put_next, e_look_here, e_look_next, e_self, e_fld, e_na10, e_na2, e_at0, e_at1, e_at2, e_at3, e_at4, e_at5, e_at6, e_at7, e_at8, e_at9, e_ixN0, e_ixN1, e_ixN2, e_ixN3, e_ixN4, e_ixN5, e_ixN6, e_ixN7, e_ixN8, e_ixN9, ↓wp_try, e_sRaise, e_xMk, ↓wpCallK, ↓wpCallKn, ↓wpOwn2, wo_notV, ↓wpOwnN, ↓wpStar, e_seq_l, e_seq_t, e_bool_i, e_bool_b, ↓wpIsC, e_isC, ↓wpLc2, ↓wpSortSetL, e_setl, ↓wpTries, ↓wp_tx_n, ↓wp_tx_c, e_nthB_0, e_nthB_s, e_lamsV, e_lamL_n, e_lamL_c, ↓wpSIx, e_strP, e_sIxV, ↓wpMethN, wo_some, ↓wo_gd, ↓pIte_t, ↓pIte_f, List.map_cons, List.map_nil, List.all_cons, List.all_nil, Nat.mul_zero, Nat.add_zero, Int.toNat_natCast, List.cons_append, List.nil_append, List.length_cons, List.length_nil, or_true, true_or, List.length_map, Bool.not_true, Option.isNone_none, Bool.and_self, decide_true, decide_false, beq_self_eq_true, Bool.or_self, Bool.or_false, Bool.false_or, Bool.or_true, Bool.true_or, eq_self, List.drop_zero, List.drop_succ_cons, List.take_succ_cons, List.take_zero, List.drop_nil, List.take_nil, rangeN_len, rangeP_len, List.contains_cons, List.contains_nil, Bool.not_false, true_and, and_true, Option.map_some, List.set_cons_zero, List.set_cons_succ, Nat.reduceAdd, Nat.reduceLeDiff, Nat.reduceMul, Int.reduceNeg, Int.reduceAdd, Int.reduceSub, Int.reduceLE, Int.reduceLT, Int.reduceMul, Int.reduceToNat, Int.reducePow, Nat.reducePow, Nat.reduceLT, nf_answer_answer_names, nf_answer_begin, nf_answer_join_rows, nf_answer_letters, nf_answer_size, nf_answer_step_rows, nf_answer_names_begin, nf_answer_names_join_rows, nf_answer_names_letters, nf_answer_names_size, nf_answer_names_step_rows, nf_answers_answer_names, nf_answers_begin, nf_answers_join_rows, nf_answers_letters, nf_answers_size, nf_answers_step_rows, nf_begin_answer_names, nf_begin_join_rows, nf_begin_letters, nf_begin_size, nf_begin_step_rows, nf_check_state_answer_names, nf_check_state_begin, nf_check_state_join_rows, nf_check_state_letters, nf_check_state_size, nf_check_state_step_rows, nf_check_word_answer_names, nf_check_word_begin, nf_check_word_join_rows, nf_check_word_letters, nf_check_word_size, nf_check_word_step_rows, nf_combine_answer_names, nf_combine_begin, nf_combine_join_rows, nf_combine_letters, nf_combine_size, nf_combine_step_rows, nf_content_answer_names, nf_content_begin, nf_content_join_rows, nf_content_letters, nf_content_size, nf_content_step_rows, nf_counter_answer_names, nf_counter_begin, nf_counter_join_rows, nf_counter_letters, nf_counter_size, nf_counter_step_rows, nf_fold_answer_names, nf_fold_begin, nf_fold_join_rows, nf_fold_letters, nf_fold_size, nf_fold_step_rows, nf_join_rows_answer_names, nf_join_rows_begin, nf_join_rows_letters, nf_join_rows_size, nf_join_rows_step_rows, nf_joins_answer_names, nf_joins_begin, nf_joins_join_rows, nf_joins_letters, nf_joins_size, nf_joins_step_rows, nf_letters_answer_names, nf_letters_begin, nf_letters_join_rows, nf_letters_size, nf_letters_step_rows, nf_size_answer_names, nf_size_begin, nf_size_join_rows, nf_size_letters, nf_size_step_rows, nf_step_answer_names, nf_step_begin, nf_step_join_rows, nf_step_letters, nf_step_size, nf_step_step_rows, nf_step_rows_answer_names, nf_step_rows_begin, nf_step_rows_join_rows, nf_step_rows_letters, nf_step_rows_size, nf_steps_answer_names, nf_steps_begin, nf_steps_join_rows, nf_steps_letters, nf_steps_size, nf_steps_step_rows, nf_told_answer_names, nf_told_begin, nf_told_join_rows, nf_told_letters, nf_told_size, nf_told_step_rows, nf_walked_answer_names, nf_walked_begin, nf_walked_join_rows, nf_walked_letters, nf_walked_size, nf_walked_step_rows, nf_with_answers_answer_names, nf_with_answers_begin, nf_with_answers_join_rows, nf_with_answers_letters, nf_with_answers_size, nf_with_answers_step_rows, nf_with_joins_answer_names, nf_with_joins_begin, nf_with_joins_join_rows, nf_with_joins_letters, nf_with_joins_size, nf_with_joins_step_rows, res_InvalidLetters, res_InvalidSize, res_InvalidSteps, res_InvalidJoins, res_InvalidAnswers, res_InvalidBegin, res_InvalidState, res_InvalidWord, res_UnknownLetter])
  | `(tactic| wide_open with ($a0, $a1, $a2) using "sim") => `(tactic| try simp only [$a0:term, $a1:term, $a2:term, ↓wpV, ↓wpW, ↓wpC, ↓wpOp, ↓wpOpL, ↓wpNil, ↓wpCons, ↓wpF, ↓wpF1, ↓wpNeg, ↓wpAnd, ↓wpOr, ↓wpNot, ↓wpAndT, ↓wpOrT, ↓wpNotT, ↓wpIf, ↓wpVal, ↓wpTr, ↓wpNt, ↓wpAn, ↓wpO, ↓wpYs, ↓wpTup, ↓wpONo, ↓wpOSome, ↓wpSlice, ↓wpSliceL, ↓wpChain, ↓wpFz, ↓wpIsi2, ↓wpLst, ↓wpListOf, ↓wpSort, ↓wpSortI, ↓wpListStr, ↓wpLenSet, ↓wpSortSet, ↓wpFld, ↓wpLc, ↓wpIVal, ↓wpIEnu, ↓wpIZi, ↓wpIRg1, ↓wpIRg2, ↓wpPopAt, ↓wpPop, ↓wpGet2L, ↓wpNewT, ↓wpNewK, ↓wpGaN, ↓wpGaC, ↓wpGaR, ↓wpCall, ↓wpNCall, ↓wpMeth, ↓wpMethK, ↓wpMk, ↓wpMkK, ↓wf_run, ↓wn_run, wf_ok, wn_ok, mkQ_o, ↓wsSeq, ↓wsRet, ↓wsRetN, ↓wsRetF, ↓wsRetO, ↓wsDrop, ↓wsAsg, two_c, three_c, ↓wsPar, ↓wsPar3, ↓wsParOwn, ↓wsParOwn3, ↓wsNext, ↓wsBreak, ↓wsCont, ↓wsNever, ↓wsIf, ↓wsOwn, ↓wsApp, ↓wsFrz, ↓wsFor, ↓wsAugI, ↓wsSetF, ↓wsPutD, ↓wpHN, ↓wpHsN, ↓wpHsC, ↓wpHT, ↓wpHSub, e_gN, e_gsN, e_gsC, e_gT, ↓wo_bind, ↓wo_map, e_vSl, e_wSl_v, e_wSl_l, e_wSl_i, e_argS_v, e_argS_l, e_argS_i, e_locO, e_objO_l, e_objO_i, e_lstO_l, e_lstO_i, e_chg_l, e_chg_i, e_val_l, e_val_i, e_val_dT, e_val_dK, e_obj_v, e_obj_u, e_toI, e_toB, e_tupN, e_tru_n, e_tru_b, e_tru_i, e_tru_s, e_tru_l, e_tru_t, e_add_ii, e_add_ss, e_add_ll, e_add_tt, e_sub, e_mul_ii, e_mul_li, e_fdiv, e_mod, e_pow, e_lt_ii, e_lt_ss, e_le, e_gt, e_ge, e_is, e_isNot, e_non_n, e_non_b, e_non_i, e_non_s, e_non_l, e_non_t, e_eq, e_ne, e_ok_nn, e_ok_nb, e_ok_ni, e_ok_ns, e_ok_bn, e_ok_bb, e_ok_bi, e_ok_bs, e_ok_in, e_ok_ib, e_ok_ii, e_ok_is, e_ok_sn, e_ok_sb, e_ok_si, e_ok_ss, e_peq_nn, e_peq_bb, e_peq_ii, e_peq_ss, e_peq_ll, e_peq_tt, e_peq_ns, e_peq_sn, e_peq_ni, e_peq_in, e_peq_is, e_peq_si, e_peq_bs, e_peq_sb, e_peq_nb, e_peq_bn, e_peqs_nil, e_peqs_cons, e_in, e_nin, e_inP_c, e_ix_l, e_ix_t, e_ix_s, e_cut_l, e_cut_s, e_cut_c, e_len_s, e_len_l, e_len_t, e_int_i, e_int_b, e_tup_l, e_tup_t, e_lst_l, e_lst_t, e_lst_c, e_all, e_any, e_sum, e_max, e_min, e_isi, e_join, e_it_l, e_it_t, e_it_s, e_enu, e_enuT, e_enum0, e_zip_l, e_zip_t, e_lenSet, e_sortSet, e_listStr, e_sort, e_sortI, e_isD_T, e_isD_K, e_dget_T, e_dget_K, e_fDGet, e_fDIn, e_fDNin, e_dput_T, e_dput_K, e_key_i, e_key_s, e_keyT2, e_sl_0, e_sl_s, e_set_0, e_set_s, e_wipe_0, e_wipe_s, e_unw_0, e_unw_s, e_uns_0, e_uns_s, e_io_n, e_io_v, e_io_i, e_wb_i, e_wb_v, e_wb_n, ↓ws_okRt, e_strs, e_strs_f, e_ints, e_ints_f, e_bls, e_bls_f, e_low, e_joinE, e_inP_strs, e_okT_bool, e_isP_bool_non, e_isP_bool_bl, e_isP_bool_int, e_isP_bool_str, e_isP_bool_lst, e_isP_bool_tup, e_okT_int, e_isP_int_non, e_isP_int_bl, e_isP_int_int, e_isP_int_str, e_isP_int_lst, e_isP_int_tup, e_okT_str, e_isP_str_non, e_isP_str_bl, e_isP_str_int, e_isP_str_str, e_isP_str_lst, e_isP_str_tup, e_okT_list, e_isP_list_non, e_isP_list_bl, e_isP_list_int, e_isP_list_str, e_isP_list_lst, e_isP_list_tup, e_okT_tuple, e_isP_tuple_non, e_isP_tuple_bl, e_isP_tuple_int, e_isP_tuple_str, e_isP_tuple_lst, e_isP_tuple_tup, e_kd_non, e_kd_bl, e_kd_int, e_kd_str, e_kd_lst, e_kd_tup, e_isi2, e_ints_n, e_ints_c, e_strs_n, e_strs_c, e_bls_n, e_bls_c, e_maxI2, e_minI2, e_pick, e_insO_i, e_insO_l, e_put_nil, e_put_here, e_put_next, e_look_here, e_look_next, e_self, e_fld, e_na10, e_na2, e_at0, e_at1, e_at2, e_at3, e_at4, e_at5, e_at6, e_at7, e_at8, e_at9, e_ixN0, e_ixN1, e_ixN2, e_ixN3, e_ixN4, e_ixN5, e_ixN6, e_ixN7, e_ixN8, e_ixN9, ↓wp_try, e_sRaise, e_xMk, ↓wpCallK, ↓wpCallKn, ↓wpOwn2, wo_notV, ↓wpOwnN, ↓wpStar, e_seq_l, e_seq_t, e_bool_i, e_bool_b, ↓wpIsC, e_isC, ↓wpLc2, ↓wpSortSetL, e_setl, ↓wpTries, ↓wp_tx_n, ↓wp_tx_c, e_nthB_0, e_nthB_s, e_lamsV, e_lamL_n, e_lamL_c, ↓wpSIx, e_strP, e_sIxV, ↓wpMethN, wo_some, ↓wo_gd, ↓pIte_t, ↓pIte_f, List.map_cons, List.map_nil, List.all_cons, List.all_nil, Nat.mul_zero, Nat.add_zero, Int.toNat_natCast, List.cons_append, List.nil_append, List.length_cons, List.length_nil, or_true, true_or, List.length_map, Bool.not_true, Option.isNone_none, Bool.and_self, decide_true, decide_false, beq_self_eq_true, Bool.or_self, Bool.or_false, Bool.false_or, Bool.or_true, Bool.true_or, eq_self, List.drop_zero, List.drop_succ_cons, List.take_succ_cons, List.take_zero, List.drop_nil, List.take_nil, rangeN_len, rangeP_len, List.contains_cons, List.contains_nil, Bool.not_false, true_and, and_true, Option.map_some, List.set_cons_zero, List.set_cons_succ, Nat.reduceAdd, Nat.reduceLeDiff, Nat.reduceMul, Int.reduceNeg, Int.reduceAdd, Int.reduceSub, Int.reduceLE, Int.reduceLT, Int.reduceMul, Int.reduceToNat, Int.reducePow, Nat.reducePow, Nat.reduceLT, nf_answer_answer_names, nf_answer_begin, nf_answer_join_rows, nf_answer_letters, nf_answer_size, nf_answer_step_rows, nf_answer_names_begin, nf_answer_names_join_rows, nf_answer_names_letters, nf_answer_names_size, nf_answer_names_step_rows, nf_answers_answer_names, nf_answers_begin, nf_answers_join_rows, nf_answers_letters, nf_answers_size, nf_answers_step_rows, nf_begin_answer_names, nf_begin_join_rows, nf_begin_letters, nf_begin_size, nf_begin_step_rows, nf_check_state_answer_names, nf_check_state_begin, nf_check_state_join_rows, nf_check_state_letters, nf_check_state_size, nf_check_state_step_rows, nf_check_word_answer_names, nf_check_word_begin, nf_check_word_join_rows, nf_check_word_letters, nf_check_word_size, nf_check_word_step_rows, nf_combine_answer_names, nf_combine_begin, nf_combine_join_rows, nf_combine_letters, nf_combine_size, nf_combine_step_rows, nf_content_answer_names, nf_content_begin, nf_content_join_rows, nf_content_letters, nf_content_size, nf_content_step_rows, nf_counter_answer_names, nf_counter_begin, nf_counter_join_rows, nf_counter_letters, nf_counter_size, nf_counter_step_rows, nf_fold_answer_names, nf_fold_begin, nf_fold_join_rows, nf_fold_letters, nf_fold_size, nf_fold_step_rows, nf_join_rows_answer_names, nf_join_rows_begin, nf_join_rows_letters, nf_join_rows_size, nf_join_rows_step_rows, nf_joins_answer_names, nf_joins_begin, nf_joins_join_rows, nf_joins_letters, nf_joins_size, nf_joins_step_rows, nf_letters_answer_names, nf_letters_begin, nf_letters_join_rows, nf_letters_size, nf_letters_step_rows, nf_size_answer_names, nf_size_begin, nf_size_join_rows, nf_size_letters, nf_size_step_rows, nf_step_answer_names, nf_step_begin, nf_step_join_rows, nf_step_letters, nf_step_size, nf_step_step_rows, nf_step_rows_answer_names, nf_step_rows_begin, nf_step_rows_join_rows, nf_step_rows_letters, nf_step_rows_size, nf_steps_answer_names, nf_steps_begin, nf_steps_join_rows, nf_steps_letters, nf_steps_size, nf_steps_step_rows, nf_told_answer_names, nf_told_begin, nf_told_join_rows, nf_told_letters, nf_told_size, nf_told_step_rows, nf_walked_answer_names, nf_walked_begin, nf_walked_join_rows, nf_walked_letters, nf_walked_size, nf_walked_step_rows, nf_with_answers_answer_names, nf_with_answers_begin, nf_with_answers_join_rows, nf_with_answers_letters, nf_with_answers_size, nf_with_answers_step_rows, nf_with_joins_answer_names, nf_with_joins_begin, nf_with_joins_join_rows, nf_with_joins_letters, nf_with_joins_size, nf_with_joins_step_rows, res_InvalidLetters, res_InvalidSize, res_InvalidSteps, res_InvalidJoins, res_InvalidAnswers, res_InvalidBegin, res_InvalidState, res_InvalidWord, res_UnknownLetter])
  | `(tactic| wide_open with ($a0, $a1) using "sim") => `(tactic| try simp only [$a0:term, $a1:term, ↓wpV, ↓wpW, ↓wpC, ↓wpOp, ↓wpOpL, ↓wpNil, ↓wpCons, ↓wpF, ↓wpF1, ↓wpNeg, ↓wpAnd, ↓wpOr, ↓wpNot, ↓wpAndT, ↓wpOrT, ↓wpNotT, ↓wpIf, ↓wpVal, ↓wpTr, ↓wpNt, ↓wpAn, ↓wpO, ↓wpYs, ↓wpTup, ↓wpONo, ↓wpOSome, ↓wpSlice, ↓wpSliceL, ↓wpChain, ↓wpFz, ↓wpIsi2, ↓wpLst, ↓wpListOf, ↓wpSort, ↓wpSortI, ↓wpListStr, ↓wpLenSet, ↓wpSortSet, ↓wpFld, ↓wpLc, ↓wpIVal, ↓wpIEnu, ↓wpIZi, ↓wpIRg1, ↓wpIRg2, ↓wpPopAt, ↓wpPop, ↓wpGet2L, ↓wpNewT, ↓wpNewK, ↓wpGaN, ↓wpGaC, ↓wpGaR, ↓wpCall, ↓wpNCall, ↓wpMeth, ↓wpMethK, ↓wpMk, ↓wpMkK, ↓wf_run, ↓wn_run, wf_ok, wn_ok, mkQ_o, ↓wsSeq, ↓wsRet, ↓wsRetN, ↓wsRetF, ↓wsRetO, ↓wsDrop, ↓wsAsg, two_c, three_c, ↓wsPar, ↓wsPar3, ↓wsParOwn, ↓wsParOwn3, ↓wsNext, ↓wsBreak, ↓wsCont, ↓wsNever, ↓wsIf, ↓wsOwn, ↓wsApp, ↓wsFrz, ↓wsFor, ↓wsAugI, ↓wsSetF, ↓wsPutD, ↓wpHN, ↓wpHsN, ↓wpHsC, ↓wpHT, ↓wpHSub, e_gN, e_gsN, e_gsC, e_gT, ↓wo_bind, ↓wo_map, e_vSl, e_wSl_v, e_wSl_l, e_wSl_i, e_argS_v, e_argS_l, e_argS_i, e_locO, e_objO_l, e_objO_i, e_lstO_l, e_lstO_i, e_chg_l, e_chg_i, e_val_l, e_val_i, e_val_dT, e_val_dK, e_obj_v, e_obj_u, e_toI, e_toB, e_tupN, e_tru_n, e_tru_b, e_tru_i, e_tru_s, e_tru_l, e_tru_t, e_add_ii, e_add_ss, e_add_ll, e_add_tt, e_sub, e_mul_ii, e_mul_li, e_fdiv, e_mod, e_pow, e_lt_ii, e_lt_ss, e_le, e_gt, e_ge, e_is, e_isNot, e_non_n, e_non_b, e_non_i, e_non_s, e_non_l, e_non_t, e_eq, e_ne, e_ok_nn, e_ok_nb, e_ok_ni, e_ok_ns, e_ok_bn, e_ok_bb, e_ok_bi, e_ok_bs, e_ok_in, e_ok_ib, e_ok_ii, e_ok_is, e_ok_sn, e_ok_sb, e_ok_si, e_ok_ss, e_peq_nn, e_peq_bb, e_peq_ii, e_peq_ss, e_peq_ll, e_peq_tt, e_peq_ns, e_peq_sn, e_peq_ni, e_peq_in, e_peq_is, e_peq_si, e_peq_bs, e_peq_sb, e_peq_nb, e_peq_bn, e_peqs_nil, e_peqs_cons, e_in, e_nin, e_inP_c, e_ix_l, e_ix_t, e_ix_s, e_cut_l, e_cut_s, e_cut_c, e_len_s, e_len_l, e_len_t, e_int_i, e_int_b, e_tup_l, e_tup_t, e_lst_l, e_lst_t, e_lst_c, e_all, e_any, e_sum, e_max, e_min, e_isi, e_join, e_it_l, e_it_t, e_it_s, e_enu, e_enuT, e_enum0, e_zip_l, e_zip_t, e_lenSet, e_sortSet, e_listStr, e_sort, e_sortI, e_isD_T, e_isD_K, e_dget_T, e_dget_K, e_fDGet, e_fDIn, e_fDNin, e_dput_T, e_dput_K, e_key_i, e_key_s, e_keyT2, e_sl_0, e_sl_s, e_set_0, e_set_s, e_wipe_0, e_wipe_s, e_unw_0, e_unw_s, e_uns_0, e_uns_s, e_io_n, e_io_v, e_io_i, e_wb_i, e_wb_v, e_wb_n, ↓ws_okRt, e_strs, e_strs_f, e_ints, e_ints_f, e_bls, e_bls_f, e_low, e_joinE, e_inP_strs, e_okT_bool, e_isP_bool_non, e_isP_bool_bl, e_isP_bool_int, e_isP_bool_str, e_isP_bool_lst, e_isP_bool_tup, e_okT_int, e_isP_int_non, e_isP_int_bl, e_isP_int_int, e_isP_int_str, e_isP_int_lst, e_isP_int_tup, e_okT_str, e_isP_str_non, e_isP_str_bl, e_isP_str_int, e_isP_str_str, e_isP_str_lst, e_isP_str_tup, e_okT_list, e_isP_list_non, e_isP_list_bl, e_isP_list_int, e_isP_list_str, e_isP_list_lst, e_isP_list_tup, e_okT_tuple, e_isP_tuple_non, e_isP_tuple_bl, e_isP_tuple_int, e_isP_tuple_str, e_isP_tuple_lst, e_isP_tuple_tup, e_kd_non, e_kd_bl, e_kd_int, e_kd_str, e_kd_lst, e_kd_tup, e_isi2, e_ints_n, e_ints_c, e_strs_n, e_strs_c, e_bls_n, e_bls_c, e_maxI2, e_minI2, e_pick, e_insO_i, e_insO_l, e_put_nil, e_put_here, e_put_next, e_look_here, e_look_next, e_self, e_fld, e_na10, e_na2, e_at0, e_at1, e_at2, e_at3, e_at4, e_at5, e_at6, e_at7, e_at8, e_at9, e_ixN0, e_ixN1, e_ixN2, e_ixN3, e_ixN4, e_ixN5, e_ixN6, e_ixN7, e_ixN8, e_ixN9, ↓wp_try, e_sRaise, e_xMk, ↓wpCallK, ↓wpCallKn, ↓wpOwn2, wo_notV, ↓wpOwnN, ↓wpStar, e_seq_l, e_seq_t, e_bool_i, e_bool_b, ↓wpIsC, e_isC, ↓wpLc2, ↓wpSortSetL, e_setl, ↓wpTries, ↓wp_tx_n, ↓wp_tx_c, e_nthB_0, e_nthB_s, e_lamsV, e_lamL_n, e_lamL_c, ↓wpSIx, e_strP, e_sIxV, ↓wpMethN, wo_some, ↓wo_gd, ↓pIte_t, ↓pIte_f, List.map_cons, List.map_nil, List.all_cons, List.all_nil, Nat.mul_zero, Nat.add_zero, Int.toNat_natCast, List.cons_append, List.nil_append, List.length_cons, List.length_nil, or_true, true_or, List.length_map, Bool.not_true, Option.isNone_none, Bool.and_self, decide_true, decide_false, beq_self_eq_true, Bool.or_self, Bool.or_false, Bool.false_or, Bool.or_true, Bool.true_or, eq_self, List.drop_zero, List.drop_succ_cons, List.take_succ_cons, List.take_zero, List.drop_nil, List.take_nil, rangeN_len, rangeP_len, List.contains_cons, List.contains_nil, Bool.not_false, true_and, and_true, Option.map_some, List.set_cons_zero, List.set_cons_succ, Nat.reduceAdd, Nat.reduceLeDiff, Nat.reduceMul, Int.reduceNeg, Int.reduceAdd, Int.reduceSub, Int.reduceLE, Int.reduceLT, Int.reduceMul, Int.reduceToNat, Int.reducePow, Nat.reducePow, Nat.reduceLT, nf_answer_answer_names, nf_answer_begin, nf_answer_join_rows, nf_answer_letters, nf_answer_size, nf_answer_step_rows, nf_answer_names_begin, nf_answer_names_join_rows, nf_answer_names_letters, nf_answer_names_size, nf_answer_names_step_rows, nf_answers_answer_names, nf_answers_begin, nf_answers_join_rows, nf_answers_letters, nf_answers_size, nf_answers_step_rows, nf_begin_answer_names, nf_begin_join_rows, nf_begin_letters, nf_begin_size, nf_begin_step_rows, nf_check_state_answer_names, nf_check_state_begin, nf_check_state_join_rows, nf_check_state_letters, nf_check_state_size, nf_check_state_step_rows, nf_check_word_answer_names, nf_check_word_begin, nf_check_word_join_rows, nf_check_word_letters, nf_check_word_size, nf_check_word_step_rows, nf_combine_answer_names, nf_combine_begin, nf_combine_join_rows, nf_combine_letters, nf_combine_size, nf_combine_step_rows, nf_content_answer_names, nf_content_begin, nf_content_join_rows, nf_content_letters, nf_content_size, nf_content_step_rows, nf_counter_answer_names, nf_counter_begin, nf_counter_join_rows, nf_counter_letters, nf_counter_size, nf_counter_step_rows, nf_fold_answer_names, nf_fold_begin, nf_fold_join_rows, nf_fold_letters, nf_fold_size, nf_fold_step_rows, nf_join_rows_answer_names, nf_join_rows_begin, nf_join_rows_letters, nf_join_rows_size, nf_join_rows_step_rows, nf_joins_answer_names, nf_joins_begin, nf_joins_join_rows, nf_joins_letters, nf_joins_size, nf_joins_step_rows, nf_letters_answer_names, nf_letters_begin, nf_letters_join_rows, nf_letters_size, nf_letters_step_rows, nf_size_answer_names, nf_size_begin, nf_size_join_rows, nf_size_letters, nf_size_step_rows, nf_step_answer_names, nf_step_begin, nf_step_join_rows, nf_step_letters, nf_step_size, nf_step_step_rows, nf_step_rows_answer_names, nf_step_rows_begin, nf_step_rows_join_rows, nf_step_rows_letters, nf_step_rows_size, nf_steps_answer_names, nf_steps_begin, nf_steps_join_rows, nf_steps_letters, nf_steps_size, nf_steps_step_rows, nf_told_answer_names, nf_told_begin, nf_told_join_rows, nf_told_letters, nf_told_size, nf_told_step_rows, nf_walked_answer_names, nf_walked_begin, nf_walked_join_rows, nf_walked_letters, nf_walked_size, nf_walked_step_rows, nf_with_answers_answer_names, nf_with_answers_begin, nf_with_answers_join_rows, nf_with_answers_letters, nf_with_answers_size, nf_with_answers_step_rows, nf_with_joins_answer_names, nf_with_joins_begin, nf_with_joins_join_rows, nf_with_joins_letters, nf_with_joins_size, nf_with_joins_step_rows, res_InvalidLetters, res_InvalidSize, res_InvalidSteps, res_InvalidJoins, res_InvalidAnswers, res_InvalidBegin, res_InvalidState, res_InvalidWord, res_UnknownLetter])
  | `(tactic| wide_open with ($a0) using "sim") => `(tactic| try simp only [$a0:term, ↓wpV, ↓wpW, ↓wpC, ↓wpOp, ↓wpOpL, ↓wpNil, ↓wpCons, ↓wpF, ↓wpF1, ↓wpNeg, ↓wpAnd, ↓wpOr, ↓wpNot, ↓wpAndT, ↓wpOrT, ↓wpNotT, ↓wpIf, ↓wpVal, ↓wpTr, ↓wpNt, ↓wpAn, ↓wpO, ↓wpYs, ↓wpTup, ↓wpONo, ↓wpOSome, ↓wpSlice, ↓wpSliceL, ↓wpChain, ↓wpFz, ↓wpIsi2, ↓wpLst, ↓wpListOf, ↓wpSort, ↓wpSortI, ↓wpListStr, ↓wpLenSet, ↓wpSortSet, ↓wpFld, ↓wpLc, ↓wpIVal, ↓wpIEnu, ↓wpIZi, ↓wpIRg1, ↓wpIRg2, ↓wpPopAt, ↓wpPop, ↓wpGet2L, ↓wpNewT, ↓wpNewK, ↓wpGaN, ↓wpGaC, ↓wpGaR, ↓wpCall, ↓wpNCall, ↓wpMeth, ↓wpMethK, ↓wpMk, ↓wpMkK, ↓wf_run, ↓wn_run, wf_ok, wn_ok, mkQ_o, ↓wsSeq, ↓wsRet, ↓wsRetN, ↓wsRetF, ↓wsRetO, ↓wsDrop, ↓wsAsg, two_c, three_c, ↓wsPar, ↓wsPar3, ↓wsParOwn, ↓wsParOwn3, ↓wsNext, ↓wsBreak, ↓wsCont, ↓wsNever, ↓wsIf, ↓wsOwn, ↓wsApp, ↓wsFrz, ↓wsFor, ↓wsAugI, ↓wsSetF, ↓wsPutD, ↓wpHN, ↓wpHsN, ↓wpHsC, ↓wpHT, ↓wpHSub, e_gN, e_gsN, e_gsC, e_gT, ↓wo_bind, ↓wo_map, e_vSl, e_wSl_v, e_wSl_l, e_wSl_i, e_argS_v, e_argS_l, e_argS_i, e_locO, e_objO_l, e_objO_i, e_lstO_l, e_lstO_i, e_chg_l, e_chg_i, e_val_l, e_val_i, e_val_dT, e_val_dK, e_obj_v, e_obj_u, e_toI, e_toB, e_tupN, e_tru_n, e_tru_b, e_tru_i, e_tru_s, e_tru_l, e_tru_t, e_add_ii, e_add_ss, e_add_ll, e_add_tt, e_sub, e_mul_ii, e_mul_li, e_fdiv, e_mod, e_pow, e_lt_ii, e_lt_ss, e_le, e_gt, e_ge, e_is, e_isNot, e_non_n, e_non_b, e_non_i, e_non_s, e_non_l, e_non_t, e_eq, e_ne, e_ok_nn, e_ok_nb, e_ok_ni, e_ok_ns, e_ok_bn, e_ok_bb, e_ok_bi, e_ok_bs, e_ok_in, e_ok_ib, e_ok_ii, e_ok_is, e_ok_sn, e_ok_sb, e_ok_si, e_ok_ss, e_peq_nn, e_peq_bb, e_peq_ii, e_peq_ss, e_peq_ll, e_peq_tt, e_peq_ns, e_peq_sn, e_peq_ni, e_peq_in, e_peq_is, e_peq_si, e_peq_bs, e_peq_sb, e_peq_nb, e_peq_bn, e_peqs_nil, e_peqs_cons, e_in, e_nin, e_inP_c, e_ix_l, e_ix_t, e_ix_s, e_cut_l, e_cut_s, e_cut_c, e_len_s, e_len_l, e_len_t, e_int_i, e_int_b, e_tup_l, e_tup_t, e_lst_l, e_lst_t, e_lst_c, e_all, e_any, e_sum, e_max, e_min, e_isi, e_join, e_it_l, e_it_t, e_it_s, e_enu, e_enuT, e_enum0, e_zip_l, e_zip_t, e_lenSet, e_sortSet, e_listStr, e_sort, e_sortI, e_isD_T, e_isD_K, e_dget_T, e_dget_K, e_fDGet, e_fDIn, e_fDNin, e_dput_T, e_dput_K, e_key_i, e_key_s, e_keyT2, e_sl_0, e_sl_s, e_set_0, e_set_s, e_wipe_0, e_wipe_s, e_unw_0, e_unw_s, e_uns_0, e_uns_s, e_io_n, e_io_v, e_io_i, e_wb_i, e_wb_v, e_wb_n, ↓ws_okRt, e_strs, e_strs_f, e_ints, e_ints_f, e_bls, e_bls_f, e_low, e_joinE, e_inP_strs, e_okT_bool, e_isP_bool_non, e_isP_bool_bl, e_isP_bool_int, e_isP_bool_str, e_isP_bool_lst, e_isP_bool_tup, e_okT_int, e_isP_int_non, e_isP_int_bl, e_isP_int_int, e_isP_int_str, e_isP_int_lst, e_isP_int_tup, e_okT_str, e_isP_str_non, e_isP_str_bl, e_isP_str_int, e_isP_str_str, e_isP_str_lst, e_isP_str_tup, e_okT_list, e_isP_list_non, e_isP_list_bl, e_isP_list_int, e_isP_list_str, e_isP_list_lst, e_isP_list_tup, e_okT_tuple, e_isP_tuple_non, e_isP_tuple_bl, e_isP_tuple_int, e_isP_tuple_str, e_isP_tuple_lst, e_isP_tuple_tup, e_kd_non, e_kd_bl, e_kd_int, e_kd_str, e_kd_lst, e_kd_tup, e_isi2, e_ints_n, e_ints_c, e_strs_n, e_strs_c, e_bls_n, e_bls_c, e_maxI2, e_minI2, e_pick, e_insO_i, e_insO_l, e_put_nil, e_put_here, e_put_next, e_look_here, e_look_next, e_self, e_fld, e_na10, e_na2, e_at0, e_at1, e_at2, e_at3, e_at4, e_at5, e_at6, e_at7, e_at8, e_at9, e_ixN0, e_ixN1, e_ixN2, e_ixN3, e_ixN4, e_ixN5, e_ixN6, e_ixN7, e_ixN8, e_ixN9, ↓wp_try, e_sRaise, e_xMk, ↓wpCallK, ↓wpCallKn, ↓wpOwn2, wo_notV, ↓wpOwnN, ↓wpStar, e_seq_l, e_seq_t, e_bool_i, e_bool_b, ↓wpIsC, e_isC, ↓wpLc2, ↓wpSortSetL, e_setl, ↓wpTries, ↓wp_tx_n, ↓wp_tx_c, e_nthB_0, e_nthB_s, e_lamsV, e_lamL_n, e_lamL_c, ↓wpSIx, e_strP, e_sIxV, ↓wpMethN, wo_some, ↓wo_gd, ↓pIte_t, ↓pIte_f, List.map_cons, List.map_nil, List.all_cons, List.all_nil, Nat.mul_zero, Nat.add_zero, Int.toNat_natCast, List.cons_append, List.nil_append, List.length_cons, List.length_nil, or_true, true_or, List.length_map, Bool.not_true, Option.isNone_none, Bool.and_self, decide_true, decide_false, beq_self_eq_true, Bool.or_self, Bool.or_false, Bool.false_or, Bool.or_true, Bool.true_or, eq_self, List.drop_zero, List.drop_succ_cons, List.take_succ_cons, List.take_zero, List.drop_nil, List.take_nil, rangeN_len, rangeP_len, List.contains_cons, List.contains_nil, Bool.not_false, true_and, and_true, Option.map_some, List.set_cons_zero, List.set_cons_succ, Nat.reduceAdd, Nat.reduceLeDiff, Nat.reduceMul, Int.reduceNeg, Int.reduceAdd, Int.reduceSub, Int.reduceLE, Int.reduceLT, Int.reduceMul, Int.reduceToNat, Int.reducePow, Nat.reducePow, Nat.reduceLT, nf_answer_answer_names, nf_answer_begin, nf_answer_join_rows, nf_answer_letters, nf_answer_size, nf_answer_step_rows, nf_answer_names_begin, nf_answer_names_join_rows, nf_answer_names_letters, nf_answer_names_size, nf_answer_names_step_rows, nf_answers_answer_names, nf_answers_begin, nf_answers_join_rows, nf_answers_letters, nf_answers_size, nf_answers_step_rows, nf_begin_answer_names, nf_begin_join_rows, nf_begin_letters, nf_begin_size, nf_begin_step_rows, nf_check_state_answer_names, nf_check_state_begin, nf_check_state_join_rows, nf_check_state_letters, nf_check_state_size, nf_check_state_step_rows, nf_check_word_answer_names, nf_check_word_begin, nf_check_word_join_rows, nf_check_word_letters, nf_check_word_size, nf_check_word_step_rows, nf_combine_answer_names, nf_combine_begin, nf_combine_join_rows, nf_combine_letters, nf_combine_size, nf_combine_step_rows, nf_content_answer_names, nf_content_begin, nf_content_join_rows, nf_content_letters, nf_content_size, nf_content_step_rows, nf_counter_answer_names, nf_counter_begin, nf_counter_join_rows, nf_counter_letters, nf_counter_size, nf_counter_step_rows, nf_fold_answer_names, nf_fold_begin, nf_fold_join_rows, nf_fold_letters, nf_fold_size, nf_fold_step_rows, nf_join_rows_answer_names, nf_join_rows_begin, nf_join_rows_letters, nf_join_rows_size, nf_join_rows_step_rows, nf_joins_answer_names, nf_joins_begin, nf_joins_join_rows, nf_joins_letters, nf_joins_size, nf_joins_step_rows, nf_letters_answer_names, nf_letters_begin, nf_letters_join_rows, nf_letters_size, nf_letters_step_rows, nf_size_answer_names, nf_size_begin, nf_size_join_rows, nf_size_letters, nf_size_step_rows, nf_step_answer_names, nf_step_begin, nf_step_join_rows, nf_step_letters, nf_step_size, nf_step_step_rows, nf_step_rows_answer_names, nf_step_rows_begin, nf_step_rows_join_rows, nf_step_rows_letters, nf_step_rows_size, nf_steps_answer_names, nf_steps_begin, nf_steps_join_rows, nf_steps_letters, nf_steps_size, nf_steps_step_rows, nf_told_answer_names, nf_told_begin, nf_told_join_rows, nf_told_letters, nf_told_size, nf_told_step_rows, nf_walked_answer_names, nf_walked_begin, nf_walked_join_rows, nf_walked_letters, nf_walked_size, nf_walked_step_rows, nf_with_answers_answer_names, nf_with_answers_begin, nf_with_answers_join_rows, nf_with_answers_letters, nf_with_answers_size, nf_with_answers_step_rows, nf_with_joins_answer_names, nf_with_joins_begin, nf_with_joins_join_rows, nf_with_joins_letters, nf_with_joins_size, nf_with_joins_step_rows, res_InvalidLetters, res_InvalidSize, res_InvalidSteps, res_InvalidJoins, res_InvalidAnswers, res_InvalidBegin, res_InvalidState, res_InvalidWord, res_UnknownLetter])
  | `(tactic| wide_open using "sim") => `(tactic| try simp only [↓wpV, ↓wpW, ↓wpC, ↓wpOp, ↓wpOpL, ↓wpNil, ↓wpCons, ↓wpF, ↓wpF1, ↓wpNeg, ↓wpAnd, ↓wpOr, ↓wpNot, ↓wpAndT, ↓wpOrT, ↓wpNotT, ↓wpIf, ↓wpVal, ↓wpTr, ↓wpNt, ↓wpAn, ↓wpO, ↓wpYs, ↓wpTup, ↓wpONo, ↓wpOSome, ↓wpSlice, ↓wpSliceL, ↓wpChain, ↓wpFz, ↓wpIsi2, ↓wpLst, ↓wpListOf, ↓wpSort, ↓wpSortI, ↓wpListStr, ↓wpLenSet, ↓wpSortSet, ↓wpFld, ↓wpLc, ↓wpIVal, ↓wpIEnu, ↓wpIZi, ↓wpIRg1, ↓wpIRg2, ↓wpPopAt, ↓wpPop, ↓wpGet2L, ↓wpNewT, ↓wpNewK, ↓wpGaN, ↓wpGaC, ↓wpGaR, ↓wpCall, ↓wpNCall, ↓wpMeth, ↓wpMethK, ↓wpMk, ↓wpMkK, ↓wf_run, ↓wn_run, wf_ok, wn_ok, mkQ_o, ↓wsSeq, ↓wsRet, ↓wsRetN, ↓wsRetF, ↓wsRetO, ↓wsDrop, ↓wsAsg, two_c, three_c, ↓wsPar, ↓wsPar3, ↓wsParOwn, ↓wsParOwn3, ↓wsNext, ↓wsBreak, ↓wsCont, ↓wsNever, ↓wsIf, ↓wsOwn, ↓wsApp, ↓wsFrz, ↓wsFor, ↓wsAugI, ↓wsSetF, ↓wsPutD, ↓wpHN, ↓wpHsN, ↓wpHsC, ↓wpHT, ↓wpHSub, e_gN, e_gsN, e_gsC, e_gT, ↓wo_bind, ↓wo_map, e_vSl, e_wSl_v, e_wSl_l, e_wSl_i, e_argS_v, e_argS_l, e_argS_i, e_locO, e_objO_l, e_objO_i, e_lstO_l, e_lstO_i, e_chg_l, e_chg_i, e_val_l, e_val_i, e_val_dT, e_val_dK, e_obj_v, e_obj_u, e_toI, e_toB, e_tupN, e_tru_n, e_tru_b, e_tru_i, e_tru_s, e_tru_l, e_tru_t, e_add_ii, e_add_ss, e_add_ll, e_add_tt, e_sub, e_mul_ii, e_mul_li, e_fdiv, e_mod, e_pow, e_lt_ii, e_lt_ss, e_le, e_gt, e_ge, e_is, e_isNot, e_non_n, e_non_b, e_non_i, e_non_s, e_non_l, e_non_t, e_eq, e_ne, e_ok_nn, e_ok_nb, e_ok_ni, e_ok_ns, e_ok_bn, e_ok_bb, e_ok_bi, e_ok_bs, e_ok_in, e_ok_ib, e_ok_ii, e_ok_is, e_ok_sn, e_ok_sb, e_ok_si, e_ok_ss, e_peq_nn, e_peq_bb, e_peq_ii, e_peq_ss, e_peq_ll, e_peq_tt, e_peq_ns, e_peq_sn, e_peq_ni, e_peq_in, e_peq_is, e_peq_si, e_peq_bs, e_peq_sb, e_peq_nb, e_peq_bn, e_peqs_nil, e_peqs_cons, e_in, e_nin, e_inP_c, e_ix_l, e_ix_t, e_ix_s, e_cut_l, e_cut_s, e_cut_c, e_len_s, e_len_l, e_len_t, e_int_i, e_int_b, e_tup_l, e_tup_t, e_lst_l, e_lst_t, e_lst_c, e_all, e_any, e_sum, e_max, e_min, e_isi, e_join, e_it_l, e_it_t, e_it_s, e_enu, e_enuT, e_enum0, e_zip_l, e_zip_t, e_lenSet, e_sortSet, e_listStr, e_sort, e_sortI, e_isD_T, e_isD_K, e_dget_T, e_dget_K, e_fDGet, e_fDIn, e_fDNin, e_dput_T, e_dput_K, e_key_i, e_key_s, e_keyT2, e_sl_0, e_sl_s, e_set_0, e_set_s, e_wipe_0, e_wipe_s, e_unw_0, e_unw_s, e_uns_0, e_uns_s, e_io_n, e_io_v, e_io_i, e_wb_i, e_wb_v, e_wb_n, ↓ws_okRt, e_strs, e_strs_f, e_ints, e_ints_f, e_bls, e_bls_f, e_low, e_joinE, e_inP_strs, e_okT_bool, e_isP_bool_non, e_isP_bool_bl, e_isP_bool_int, e_isP_bool_str, e_isP_bool_lst, e_isP_bool_tup, e_okT_int, e_isP_int_non, e_isP_int_bl, e_isP_int_int, e_isP_int_str, e_isP_int_lst, e_isP_int_tup, e_okT_str, e_isP_str_non, e_isP_str_bl, e_isP_str_int, e_isP_str_str, e_isP_str_lst, e_isP_str_tup, e_okT_list, e_isP_list_non, e_isP_list_bl, e_isP_list_int, e_isP_list_str, e_isP_list_lst, e_isP_list_tup, e_okT_tuple, e_isP_tuple_non, e_isP_tuple_bl, e_isP_tuple_int, e_isP_tuple_str, e_isP_tuple_lst, e_isP_tuple_tup, e_kd_non, e_kd_bl, e_kd_int, e_kd_str, e_kd_lst, e_kd_tup, e_isi2, e_ints_n, e_ints_c, e_strs_n, e_strs_c, e_bls_n, e_bls_c, e_maxI2, e_minI2, e_pick, e_insO_i, e_insO_l, e_put_nil, e_put_here, e_put_next, e_look_here, e_look_next, e_self, e_fld, e_na10, e_na2, e_at0, e_at1, e_at2, e_at3, e_at4, e_at5, e_at6, e_at7, e_at8, e_at9, e_ixN0, e_ixN1, e_ixN2, e_ixN3, e_ixN4, e_ixN5, e_ixN6, e_ixN7, e_ixN8, e_ixN9, ↓wp_try, e_sRaise, e_xMk, ↓wpCallK, ↓wpCallKn, ↓wpOwn2, wo_notV, ↓wpOwnN, ↓wpStar, e_seq_l, e_seq_t, e_bool_i, e_bool_b, ↓wpIsC, e_isC, ↓wpLc2, ↓wpSortSetL, e_setl, ↓wpTries, ↓wp_tx_n, ↓wp_tx_c, e_nthB_0, e_nthB_s, e_lamsV, e_lamL_n, e_lamL_c, ↓wpSIx, e_strP, e_sIxV, ↓wpMethN, wo_some, ↓wo_gd, ↓pIte_t, ↓pIte_f, List.map_cons, List.map_nil, List.all_cons, List.all_nil, Nat.mul_zero, Nat.add_zero, Int.toNat_natCast, List.cons_append, List.nil_append, List.length_cons, List.length_nil, or_true, true_or, List.length_map, Bool.not_true, Option.isNone_none, Bool.and_self, decide_true, decide_false, beq_self_eq_true, Bool.or_self, Bool.or_false, Bool.false_or, Bool.or_true, Bool.true_or, eq_self, List.drop_zero, List.drop_succ_cons, List.take_succ_cons, List.take_zero, List.drop_nil, List.take_nil, rangeN_len, rangeP_len, List.contains_cons, List.contains_nil, Bool.not_false, true_and, and_true, Option.map_some, List.set_cons_zero, List.set_cons_succ, Nat.reduceAdd, Nat.reduceLeDiff, Nat.reduceMul, Int.reduceNeg, Int.reduceAdd, Int.reduceSub, Int.reduceLE, Int.reduceLT, Int.reduceMul, Int.reduceToNat, Int.reducePow, Nat.reducePow, Nat.reduceLT, nf_answer_answer_names, nf_answer_begin, nf_answer_join_rows, nf_answer_letters, nf_answer_size, nf_answer_step_rows, nf_answer_names_begin, nf_answer_names_join_rows, nf_answer_names_letters, nf_answer_names_size, nf_answer_names_step_rows, nf_answers_answer_names, nf_answers_begin, nf_answers_join_rows, nf_answers_letters, nf_answers_size, nf_answers_step_rows, nf_begin_answer_names, nf_begin_join_rows, nf_begin_letters, nf_begin_size, nf_begin_step_rows, nf_check_state_answer_names, nf_check_state_begin, nf_check_state_join_rows, nf_check_state_letters, nf_check_state_size, nf_check_state_step_rows, nf_check_word_answer_names, nf_check_word_begin, nf_check_word_join_rows, nf_check_word_letters, nf_check_word_size, nf_check_word_step_rows, nf_combine_answer_names, nf_combine_begin, nf_combine_join_rows, nf_combine_letters, nf_combine_size, nf_combine_step_rows, nf_content_answer_names, nf_content_begin, nf_content_join_rows, nf_content_letters, nf_content_size, nf_content_step_rows, nf_counter_answer_names, nf_counter_begin, nf_counter_join_rows, nf_counter_letters, nf_counter_size, nf_counter_step_rows, nf_fold_answer_names, nf_fold_begin, nf_fold_join_rows, nf_fold_letters, nf_fold_size, nf_fold_step_rows, nf_join_rows_answer_names, nf_join_rows_begin, nf_join_rows_letters, nf_join_rows_size, nf_join_rows_step_rows, nf_joins_answer_names, nf_joins_begin, nf_joins_join_rows, nf_joins_letters, nf_joins_size, nf_joins_step_rows, nf_letters_answer_names, nf_letters_begin, nf_letters_join_rows, nf_letters_size, nf_letters_step_rows, nf_size_answer_names, nf_size_begin, nf_size_join_rows, nf_size_letters, nf_size_step_rows, nf_step_answer_names, nf_step_begin, nf_step_join_rows, nf_step_letters, nf_step_size, nf_step_step_rows, nf_step_rows_answer_names, nf_step_rows_begin, nf_step_rows_join_rows, nf_step_rows_letters, nf_step_rows_size, nf_steps_answer_names, nf_steps_begin, nf_steps_join_rows, nf_steps_letters, nf_steps_size, nf_steps_step_rows, nf_told_answer_names, nf_told_begin, nf_told_join_rows, nf_told_letters, nf_told_size, nf_told_step_rows, nf_walked_answer_names, nf_walked_begin, nf_walked_join_rows, nf_walked_letters, nf_walked_size, nf_walked_step_rows, nf_with_answers_answer_names, nf_with_answers_begin, nf_with_answers_join_rows, nf_with_answers_letters, nf_with_answers_size, nf_with_answers_step_rows, nf_with_joins_answer_names, nf_with_joins_begin, nf_with_joins_join_rows, nf_with_joins_letters, nf_with_joins_size, nf_with_joins_step_rows, res_InvalidLetters, res_InvalidSize, res_InvalidSteps, res_InvalidJoins, res_InvalidAnswers, res_InvalidBegin, res_InvalidState, res_InvalidWord, res_UnknownLetter])
/-! ### is_word -/
def b_is_word : PSx :=
  (sRet (pAnd (pF fIsi (aCons (pV 0) (aCons (pC (.ty "str")) aNil))) (pF1 fAll (pFz (pLc (iVal (pV 0)) [1] (gN 1) tYs (pOp fIn (pV 1) (pC (.str [97, 98, 99, 100, 101, 102, 103, 104, 105, 106, 107, 108, 109, 110, 111, 112, 113, 114, 115, 116, 117, 118, 119, 120, 121, 122]))))))))
@[irreducible] def f_is_word : FL := runD 1 b_is_word
theorem f_is_word_eq : f_is_word = runD 1 b_is_word := by rw [f_is_word]
def wordP : P → Bool
  | .str cs => lowL cs
  | _ => false
/-- a value of a plain kind, no text too long -/
def okP (p : P) : Prop := kindP p ≠ "" ∧ ∀ cs, p = .str cs → cs.length ≤ 1000
theorem word_w {p : P} {Q : P → List PO → Prop} {E : Xn → List PO → Prop} (ho : okP p) (h : Q (.bl (wordP p)) []) : wf (f_is_word [.val p]) Q E := by
  obtain ⟨hk, hz⟩ := ho
  wide_open with (f_is_word, b_is_word) using "sim"
  refine ⟨hk, ite_p (fun e => ?_) fun e => ?_⟩
  · cases p <;> first | (cases e; done) | skip
    rename_i cs
    wide_open using "sim"
    have hz := hz cs rfl
    refine ⟨by omega, lc_map (as := cs) (fun c => .bl (isLow c)) (fun c hc R N hR => ?_) ?_⟩
    · wide_open using "sim"
      exact hR _ rfl
    · wide_open with (List.all_map) using "sim"
      exact h
  · cases p <;> first | exact h | cases e
/-! ### are_letters -/
def b_are_letters : PSx :=
  (sSeq (sIf (tO (tNt (tVal (pCall [none] 1 f_is_word (gaC (pV 0) gaN)))) (tNt (tVal (pChain fLe fLe (pC (.int 1)) (pF1 fLen (pV 0)) (pC (.int 5)))))) (sRet (pC (.bl false))) sNext)
    (sRet (pOp fEq (pLenSet (pV 0)) (pF1 fLen (pV 0)))))
@[irreducible] def f_are_letters : FL := runD 0 b_are_letters
theorem f_are_letters_eq : f_are_letters = runD 0 b_are_letters := by rw [f_are_letters]
--@@ is_word
def lettersP : P → Bool
  | .str cs => lowL cs && (decide (1 ≤ cs.length) && (decide (cs.length ≤ 5) && decide cs.Nodup))
  | _ => false
theorem letters_ok {p : P} {Q : P → List PO → Prop} {E : Xn → List PO → Prop} (ho : okP p) (h : Q (.bl (lettersP p)) []) : wf (f_are_letters [.val p]) Q E := by
  wide_open with (f_are_letters, b_are_letters) using "sim"
  refine word_w ho ?_
  wide_open using "sim"
  cases p <;> first | exact h | skip
  rename_i cs
  have hz := ho.2 cs rfl
  have h : Q (.bl (lowL cs && (decide (1 ≤ cs.length) && (decide (cs.length ≤ 5) && decide cs.Nodup)))) [] := h
  refine ite_p (fun e => ?_) fun e => ?_
  · have e : lowL cs = false := by have e : (!lowL cs) = true := e; simpa using e
    rw [e, Bool.false_and] at h
    exact h
  · have e : lowL cs = true := by have e : (!lowL cs) = false := e; simpa using e
    rw [e, Bool.true_and] at h
    wide_open using "sim"
    refine ⟨by omega, ?_⟩
    have i1 : decide ((1 : Int) ≤ (cs.length : Nat)) = decide (1 ≤ cs.length) := decide_eq_decide.mpr (by omega)
    have i2 : decide (((cs.length : Nat) : Int) ≤ 5) = decide (cs.length ≤ 5) := decide_eq_decide.mpr (by omega)
    rw [i1, i2]
    refine ite_p (fun e1 => ?_) fun e1 => ?_
    · rw [e1, Bool.true_and] at h
      refine ite_p (fun e2 => ?_) fun e2 => ?_
      · rw [show decide (cs.length ≤ 5) = false by simpa using e2, Bool.false_and] at h
        exact h
      · rw [show decide (cs.length ≤ 5) = true by simpa using e2, Bool.true_and] at h
        refine ⟨hz, by omega, ?_⟩
        rw [show ((((dedN cs []).length : Nat) : Int) == ((cs.length : Nat) : Int)) = decide cs.Nodup by
          have := len_dedN (cs := cs) (l := [])
          rw [List.length_nil, Nat.add_zero] at this
          refine Bool.eq_iff_iff.mpr ?_
          rw [beq_iff_eq, decide_eq_true_eq]
          constructor
          · intro z; exact (this.mp (by omega)).1
          · intro z; have := this.mpr ⟨z, fun _ _ => List.not_mem_nil⟩; omega]
        exact h
    · rw [e1, Bool.false_and] at h
      exact h
/-! ### first_wrong -/
def b_first_wrong_1 : PSx :=
  (sRet (pIf (tVal (pOp fLt (pF1 fLen (pV 0)) (pV 1))) (pF1 fLen (pV 0)) (pC .non)))
def b_first_wrong : PSx :=
  (sSeq (sFor (iEnu (pV 0)) (hT 2 (hsC (hN 2) (hsC (hN 3) hsN))) (sIf (tO (tNt (tTr (pV 3))) (tVal (pOp fGe (pV 2) (pV 1)))) (sRet (pV 2)) sNext))
    b_first_wrong_1)
@[irreducible] def f_first_wrong : FL := runD 2 b_first_wrong
theorem f_first_wrong_eq : f_first_wrong = runD 2 b_first_wrong := by rw [f_first_wrong]
def optP : Option Nat → P
  | none => .non
  | some i => .int (i : Nat)
/-- the first place that is wrong, lacks or is too many -/
def fwL (n : Nat) : Nat → List Bool → Option Nat
  | i, [] => if i < n then some i else none
  | i, b :: r => if (!b || decide (n ≤ i)) = true then some i else fwL n (i + 1) r
theorem fwL_none {n : Nat} : ∀ {bs : List Bool} {i : Nat}, i ≤ n → fwL n i bs = none → i + bs.length = n ∧ ∀ b ∈ bs, b = true
  | [], i, hi, h => by
    unfold fwL at h
    split at h
    · cases h
    · exact ⟨by rw [List.length_nil]; omega, fun _ hb => (List.not_mem_nil hb).elim⟩
  | b :: r, i, hi, h => by
    unfold fwL at h
    split at h
    · cases h
    · rename_i c
      rw [Bool.or_eq_true, not_or, Bool.not_eq_true, Bool.not_eq_true, Bool.not_eq_false', decide_eq_false_iff_not] at c
      obtain ⟨h1, h2⟩ := fwL_none (by omega) h
      exact ⟨by rw [List.length_cons]; omega, fun x hx => by
        rcases List.mem_cons.mp hx with rfl | hx
        · exact c.1
        · exact h2 x hx⟩
theorem fwL_all {n : Nat} : ∀ {bs : List Bool} {i : Nat}, i + bs.length = n → (∀ b ∈ bs, b = true) → fwL n i bs = none
  | [], i, hi, _ => by
    unfold fwL
    rw [if_neg (by rw [List.length_nil] at hi; omega)]
  | b :: r, i, hi, h => by
    rw [List.length_cons] at hi
    unfold fwL
    rw [if_neg (by rw [h b (List.mem_cons_self ..), Bool.or_eq_true, not_or, decide_eq_true_eq]; exact ⟨by decide, by omega⟩)]
    exact fwL_all (by omega) fun x hx => h x (List.mem_cons_of_mem _ hx)
theorem fw_w {bs : List Bool} {n : Nat} {Q : P → List PO → Prop} {E : Xn → List PO → Prop} (h : Q (optP (fwL n 0 bs)) []) : wf (f_first_wrong [.val (.lst (bs.map P.bl)), .val (.int (n : Nat))]) Q E := by
  wide_open with (f_first_wrong, b_first_wrong, b_first_wrong_1) using "sim"
  refine for_enu (fun i ρ => fwL n 0 bs = fwL n i (bs.drop i) ∧ ∃ s2 s3, ρ = [.val (.lst (bs.map P.bl)), .val (.int (n : Nat)), s2, s3]) ⟨rfl, _, _, rfl⟩ (fun i b ρ hb ⟨hf, s2, s3, er⟩ => ?_) fun ρ ⟨hf, s2, s3, er⟩ => ?_
  · subst er
    obtain ⟨hi, eb⟩ := List.getElem?_eq_some_iff.mp hb
    rw [List.drop_eq_getElem_cons hi, eb] at hf
    wide_open using "sim"
    have i1 : decide ((n : Int) ≤ (i : Nat)) = decide (n ≤ i) := decide_eq_decide.mpr (by omega)
    rw [i1]
    have done_ : (!b || decide (n ≤ i)) = true → Q (.int (i : Nat)) [] := fun e => by
      rw [hf] at h
      unfold fwL at h
      rw [if_pos e] at h
      exact h
    refine ite_p (fun e => done_ (by rw [e]; rfl)) fun e => ite_p (fun e2 => done_ (by rw [e2, Bool.or_true])) fun e2 => ⟨?_, _, _, rfl⟩
    rw [hf]
    conv => lhs; unfold fwL
    rw [if_neg (by rw [e, e2]; decide)]
  · subst er
    rw [List.drop_length] at hf
    rw [hf] at h
    wide_open using "sim"
    have i1 : decide (((bs.length : Nat) : Int) < (n : Nat)) = decide (bs.length < n) := decide_eq_decide.mpr (by omega)
    rw [i1]
    unfold fwL at h
    refine ite_p (fun e => ?_) fun e => ?_
    · rw [if_pos (of_decide_eq_true e)] at h
      exact h
    · rw [if_neg (of_decide_eq_false e)] at h
      exact h
/-! ### is_number -/
def b_is_number : PSx :=
  (sRet (pAnd (pF fIsi (aCons (pV 0) (aCons (pC (.ty "int")) aNil))) (pNot (pF fIsi (aCons (pV 0) (aCons (pC (.ty "bool")) aNil))))))
@[irreducible] def f_is_number : FL := runD 0 b_is_number
theorem f_is_number_eq : f_is_number = runD 0 b_is_number := by rw [f_is_number]
def numP : P → Bool
  | .int _ => true
  | _ => false
theorem number_w {p : P} {Q : P → List PO → Prop} {E : Xn → List PO → Prop} (hk : kindP p ≠ "") (h : Q (.bl (numP p)) []) : wf (f_is_number [.val p]) Q E := by
  wide_open with (f_is_number, b_is_number) using "sim"
  refine ⟨hk, ?_⟩
  cases p <;> first | exact absurd rfl hk | skip
  all_goals
    wide_open using "sim"
    first | exact h | exact ⟨hk, h⟩ | exact ⟨rfl, h⟩ | skip
/-! ### is_between -/
def b_is_between : PSx :=
  (sRet (pAnd (pCall [none] 1 f_is_number (gaC (pV 0) gaN)) (pChain fLe fLe (pV 1) (pV 0) (pV 2))))
@[irreducible] def f_is_between : FL := runD 0 b_is_between
theorem f_is_between_eq : f_is_between = runD 0 b_is_between := by rw [f_is_between]
--@@ is_number
def betP (lo hi : Int) : P → Bool
  | .int i => decide (lo ≤ i) && decide (i ≤ hi)
  | _ => false
theorem between_w {p : P} {lo hi : Int} {Q : P → List PO → Prop} {E : Xn → List PO → Prop} (hk : kindP p ≠ "") (h : Q (.bl (betP lo hi p)) []) : wf (f_is_between [.val p, .val (.int lo), .val (.int hi)]) Q E := by
  wide_open with (f_is_between, b_is_between) using "sim"
  refine number_w hk ?_
  cases p <;> first | (show Q _ _; exact h) | skip
  rename_i i
  wide_open using "sim"
  refine ite_p (fun _ => ite_p (fun e => ?_) fun e => ?_) fun e => by cases e
  · have h : Q (.bl (decide (lo ≤ i) && decide (i ≤ hi))) [] := h
    rw [e, Bool.true_and] at h
    exact h
  · have h : Q (.bl (decide (lo ≤ i) && decide (i ≤ hi))) [] := h
    rw [e, Bool.false_and] at h
    exact h
/-! ### is_row -/
def b_is_row_1 : PSx :=
  (sRet (pF1 fAll (pFz (pLc (iVal (pV 0)) [3] (gN 3) tYs (pCall [none, none, none] 3 f_is_between (gaC (pV 3) (gaC (pC (.int 0)) (gaC (pOp fSub (pV 2) (pC (.int 1))) gaN))))))))
def b_is_row : PSx :=
  (sSeq (sIf (tO (tNt (tVal (pIsi2 "list" "tuple" (pV 0)))) (tVal (pOp fNe (pF1 fLen (pV 0)) (pV 1)))) (sRet (pC (.bl false))) sNext)
    b_is_row_1)
@[irreducible] def f_is_row : FL := runD 1 b_is_row
theorem f_is_row_eq : f_is_row = runD 1 b_is_row := by rw [f_is_row]
--@@ is_between
def rowP (w : Nat) (n : Int) : P → Bool
  | .lst xs => decide (xs.length = w) && xs.all (betP 0 n)
  | .tup xs => decide (xs.length = w) && xs.all (betP 0 n)
  | _ => false
/-- what may be asked whether it is a row -/
def okRow : P → Prop
  | .lst xs => xs.length < 100000 ∧ ∀ x ∈ xs, kindP x ≠ ""
  | .tup xs => xs.length < 100000 ∧ ∀ x ∈ xs, kindP x ≠ ""
  | p => kindP p ≠ ""
theorem row_w {p : P} {w : Nat} {n : Nat} {Q : P → List PO → Prop} {E : Xn → List PO → Prop} (ho : okRow p) (h : Q (.bl (rowP w ((n : Int) - 1) p)) []) : wf (f_is_row [.val p, .val (.int (w : Nat)), .val (.int (n : Nat))]) Q E := by
  wide_open with (f_is_row, b_is_row, b_is_row_1) using "sim"
  have go : ∀ (xs : List P) (ρ : Ro) (p : P), ρ = [.val p, .val (.int (w : Nat)), .val (.int (n : Nat)), .un] → (∀ x ∈ xs, kindP x ≠ "") → ∀ (R : List P → Ro → Prop) (E : EP), R (xs.map fun x => .bl (betP 0 ((n : Int) - 1) x)) ρ →
      wp (lcX [3] (gN 3) tYs (pCall [none, none, none] 3 f_is_between (gaC (pV 3) (gaC (pC (.int 0)) (gaC (pOp fSub (pV 2) (pC (.int 1))) gaN)))) xs ρ) R E := fun xs ρ p er hx R E hR => by
    subst er
    have := lc_map (as := xs) (inj := fun x => x) (vs := [3]) (g := gN 3) (t := tYs) (e := pCall [none, none, none] 3 f_is_between (gaC (pV 3) (gaC (pC (.int 0)) (gaC (pOp fSub (pV 2) (pC (.int 1))) gaN)))) (ρ := [.val p, .val (.int (w : Nat)), .val (.int (n : Nat)), .un]) (E := E) (Q := R) (fun x => .bl (betP 0 ((n : Int) - 1) x)) (fun x hm R N h1 => by
      wide_open using "sim"
      refine between_w (hx x hm) ?_
      wide_open using "sim"
      exact h1 _ rfl) hR
    rw [show xs.map (fun x => x) = xs from List.map_id' xs] at this
    exact this
  have kl : kindP p ≠ "" := by cases p <;> first | exact ho | exact (show "list" ≠ "" by decide) | exact (show "tuple" ≠ "" by decide)
  refine ⟨kl, ?_⟩
  cases p <;> first | exact h | skip
  · rename_i xs
    wide_open using "sim"
    have i1 : (((xs.length : Nat) : Int) == (w : Nat)) = decide (xs.length = w) := Bool.eq_iff_iff.mpr (by rw [beq_iff_eq, decide_eq_true_eq]; omega)
    rw [i1]
    have h : Q (.bl (decide (xs.length = w) && xs.all (betP 0 ((n : Int) - 1)))) [] := h
    refine ite_p (fun e => ?_) fun e => ⟨ho.1, go xs _ _ rfl ho.2 _ _ ?_⟩
    · rw [show decide (xs.length = w) = false by simpa using e, Bool.false_and] at h
      exact h
    · rw [show decide (xs.length = w) = true by simpa using e, Bool.true_and] at h
      rw [e_bls_f]
      wide_open using "sim"
      rw [List.all_map]
      exact h
  · rename_i xs
    wide_open using "sim"
    have i1 : (((xs.length : Nat) : Int) == (w : Nat)) = decide (xs.length = w) := Bool.eq_iff_iff.mpr (by rw [beq_iff_eq, decide_eq_true_eq]; omega)
    rw [i1]
    have h : Q (.bl (decide (xs.length = w) && xs.all (betP 0 ((n : Int) - 1)))) [] := h
    refine ite_p (fun e => ?_) fun e => ⟨ho.1, go xs _ _ rfl ho.2 _ _ ?_⟩
    · rw [show decide (xs.length = w) = false by simpa using e, Bool.false_and] at h
      exact h
    · rw [show decide (xs.length = w) = true by simpa using e, Bool.true_and] at h
      rw [e_bls_f]
      wide_open using "sim"
      rw [List.all_map]
      exact h
/-! ### is_name -/
def b_is_name : PSx :=
  (sRet (pAnd (pCall [none] 1 f_is_word (gaC (pV 0) gaN)) (pChain fLe fLe (pC (.int 1)) (pF1 fLen (pV 0)) (pC (.int 8)))))
@[irreducible] def f_is_name : FL := runD 0 b_is_name
theorem f_is_name_eq : f_is_name = runD 0 b_is_name := by rw [f_is_name]
--@@ is_word
def nameP : P → Bool
  | .str cs => nameL cs
  | _ => false
theorem name_w {p : P} {Q : P → List PO → Prop} {E : Xn → List PO → Prop} (ho : okP p) (h : Q (.bl (nameP p)) []) : wf (f_is_name [.val p]) Q E := by
  wide_open with (f_is_name, b_is_name) using "sim"
  refine word_w ho ?_
  wide_open using "sim"
  cases p <;> first | (show Q _ _; exact h) | skip
  rename_i cs
  have hz := ho.2 cs rfl
  have h : Q (.bl (lowL cs && (decide (1 ≤ cs.length) && decide (cs.length ≤ 8)))) [] := h
  refine ite_p (fun e => ?_) fun e => ?_
  · rw [show lowL cs = true from e, Bool.true_and] at h
    wide_open using "sim"
    have i1 : decide ((1 : Int) ≤ (cs.length : Nat)) = decide (1 ≤ cs.length) := decide_eq_decide.mpr (by omega)
    have i2 : decide (((cs.length : Nat) : Int) ≤ 8) = decide (cs.length ≤ 8) := decide_eq_decide.mpr (by omega)
    rw [i1, i2]
    refine ⟨by omega, ite_p (fun e1 => ?_) fun e1 => ?_⟩
    · rw [e1, Bool.true_and] at h
      exact h
    · rw [e1, Bool.false_and] at h
      exact h
  · rw [show lowL cs = false from e, Bool.false_and] at h
    exact h
/-! ### InvalidAnswers_init -/

/-! ### check_answers -/
def b_check_answers_1 : PSx :=
  (sIf (tVal (pOp fIsNot (pV 2) (pC .non))) (sRaise (xMk "InvalidAnswers" [73, 110, 118, 97, 108, 105, 100, 65, 110, 115, 119, 101, 114, 115] ["at"] (aCons (pV 2) aNil))) sNext)
def b_check_answers : PSx :=
  (sSeq (sAsg (pCall [none, none] 2 f_first_wrong (gaC (pFz (pLc (iVal (pV 0)) [3] (gN 3) tYs (pCall [none] 1 f_is_name (gaC (pV 3) gaN)))) (gaC (pV 1) gaN))) (hN 2))
    b_check_answers_1)
@[irreducible] def f_check_answers : FL := runD 2 b_check_answers
theorem f_check_answers_eq : f_check_answers = runD 2 b_check_answers := by rw [f_check_answers]
--@@ first_wrong is_name
theorem answers_w {xs : List P} {n : Nat} {Q : P → List PO → Prop} {E : Xn → List PO → Prop} (hl : xs.length < 100000) (hx : ∀ x ∈ xs, okP x) (h : fwL n 0 (xs.map nameP) = none → Q .non []) (k : ∀ i : Nat, fwL n 0 (xs.map nameP) = some i → E (mkXn "InvalidAnswers" [73, 110, 118, 97, 108, 105, 100, 65, 110, 115, 119, 101, 114, 115] ["at"] [.int (i : Nat)]) []) : wf (f_check_answers [.val (.lst xs), .val (.int (n : Nat))]) Q E := by
  wide_open with (f_check_answers, b_check_answers, b_check_answers_1) using "sim"
  refine ⟨hl, ?_⟩
  conv => arg 1; arg 5; rw [show xs = xs.map (fun x => x) from (List.map_id' xs).symm]
  refine lc_map (as := xs) (inj := fun x => x) (fun x => .bl (nameP x)) (fun x hm R N h1 => ?_) ?_
  · wide_open using "sim"
    refine name_w (hx x hm) ?_
    wide_open using "sim"
    exact h1 _ rfl
  · wide_open using "sim"
    rw [show (xs.map fun x => P.bl (nameP x)) = (xs.map nameP).map P.bl by rw [List.map_map]; rfl]
    refine fw_w ?_
    wide_open using "sim"
    cases e : fwL n 0 (xs.map nameP) with
    | none => exact h e
    | some i =>
      have k := k i e
      wide_open with (optP) using "sim"
      exact k
/-! ### InvalidLetters_init -/

/-! ### InvalidSize_init -/

/-! ### InvalidSteps_init -/

/-! ### InvalidJoins_init -/

/-! ### InvalidBegin_init -/

/-! ### Reducer_init -/
def b_Reducer_init_1 : PSx :=
  (sSeq (sSetF 0 "Reducer" "join_rows" (pFz (pLc (iVal (pV 4)) [8] (gN 8) tYs (pF1 fTupOf (pV 8)))))
    (sSetF 0 "Reducer" "answer_names" (pFz (nListOf (pV 5)))))
def b_Reducer_init_2 : PSx :=
  (sSeq (sSetF 0 "Reducer" "letters" (pV 1))
    (sSeq (sSetF 0 "Reducer" "begin" (pV 2))
    (sSeq (sSetF 0 "Reducer" "size" (pV 6))
    (sSeq (sSetF 0 "Reducer" "step_rows" (pFz (pLc (iVal (pV 3)) [8] (gN 8) tYs (pF1 fTupOf (pV 8)))))
    b_Reducer_init_1))))
def b_Reducer_init_3 : PSx :=
  (sSeq (sIf (tNt (tVal (pCall [none, none, none] 3 f_is_between (gaC (pV 2) (gaC (pC (.int 0)) (gaC (pOp fSub (pV 6) (pC (.int 1))) gaN)))))) (sRaise (xMk "InvalidBegin" [73, 110, 118, 97, 108, 105, 100, 66, 101, 103, 105, 110] ["given"] (aCons (pV 2) aNil))) sNext)
    b_Reducer_init_2)
def b_Reducer_init_4 : PSx :=
  (sSeq (sDrop (pCall [none, none] 2 f_check_answers (gaC (pV 5) (gaC (pV 6) gaN))))
    b_Reducer_init_3)
def b_Reducer_init_5 : PSx :=
  (sSeq (sIf (tVal (pOp fIsNot (pV 7) (pC .non))) (sRaise (xMk "InvalidJoins" [73, 110, 118, 97, 108, 105, 100, 74, 111, 105, 110, 115] ["at"] (aCons (pV 7) aNil))) sNext)
    b_Reducer_init_4)
def b_Reducer_init_6 : PSx :=
  (sSeq (sAsg (pCall [none, none] 2 f_first_wrong (gaC (pFz (pLc (iVal (pV 4)) [8] (gN 8) tYs (pCall [none, none, none] 3 f_is_row (gaC (pV 8) (gaC (pV 6) (gaC (pV 6) gaN)))))) (gaC (pV 6) gaN))) (hN 7))
    b_Reducer_init_5)
def b_Reducer_init_7 : PSx :=
  (sSeq (sIf (tVal (pOp fIsNot (pV 7) (pC .non))) (sRaise (xMk "InvalidSteps" [73, 110, 118, 97, 108, 105, 100, 83, 116, 101, 112, 115] ["at"] (aCons (pV 7) aNil))) sNext)
    b_Reducer_init_6)
def b_Reducer_init_8 : PSx :=
  (sSeq (sAsg (pCall [none, none] 2 f_first_wrong (gaC (pFz (pLc (iVal (pV 3)) [8] (gN 8) tYs (pCall [none, none, none] 3 f_is_row (gaC (pV 8) (gaC (pF1 fLen (pV 1)) (gaC (pV 6) gaN)))))) (gaC (pV 6) gaN))) (hN 7))
    b_Reducer_init_7)
def b_Reducer_init_9 : PSx :=
  (sSeq (sAsg (pF1 fLen (pV 3)) (hN 6))
    (sSeq (sIf (tNt (tVal (pChain fLe fLe (pC (.int 1)) (pV 6) (pC (.int 16))))) (sRaise (xMk "InvalidSize" [73, 110, 118, 97, 108, 105, 100, 83, 105, 122, 101] ["given"] (aCons (pV 6) aNil))) sNext)
    b_Reducer_init_8))
def b_Reducer_init : PSx :=
  (sSeq (sIf (tNt (tTr (pCall [none] 1 f_are_letters (gaC (pV 1) gaN)))) (sRaise (xMk "InvalidLetters" [73, 110, 118, 97, 108, 105, 100, 76, 101, 116, 116, 101, 114, 115] ["given"] (aCons (pV 1) aNil))) sNext)
    b_Reducer_init_9)
@[irreducible] def f_Reducer_init : FL := runD 3 b_Reducer_init
theorem f_Reducer_init_eq : f_Reducer_init = runD 3 b_Reducer_init := by rw [f_Reducer_init]
--@@ are_letters first_wrong is_row check_answers is_between
def xLetters (p : P) : Xn := mkXn "InvalidLetters" [73, 110, 118, 97, 108, 105, 100, 76, 101, 116, 116, 101, 114, 115] ["given"] [p]
def xSize (p : P) : Xn := mkXn "InvalidSize" [73, 110, 118, 97, 108, 105, 100, 83, 105, 122, 101] ["given"] [p]
def xSteps (p : P) : Xn := mkXn "InvalidSteps" [73, 110, 118, 97, 108, 105, 100, 83, 116, 101, 112, 115] ["at"] [p]
def xJoins (p : P) : Xn := mkXn "InvalidJoins" [73, 110, 118, 97, 108, 105, 100, 74, 111, 105, 110, 115] ["at"] [p]
def xAnswers (p : P) : Xn := mkXn "InvalidAnswers" [73, 110, 118, 97, 108, 105, 100, 65, 110, 115, 119, 101, 114, 115] ["at"] [p]
def xBegin (p : P) : Xn := mkXn "InvalidBegin" [73, 110, 118, 97, 108, 105, 100, 66, 101, 103, 105, 110] ["given"] [p]
/-- why a reducer is none -/
def initX (p b : P) (st jn an : List P) : Option Xn :=
  if lettersP p = false then some (xLetters p) else
  if (decide (1 ≤ st.length) && decide (st.length ≤ 16)) = false then some (xSize (.int (st.length : Nat))) else
  match fwL st.length 0 (st.map (rowP (txtOf p).length ((st.length : Nat) - 1 : Int))) with
  | some i => some (xSteps (.int (i : Nat)))
  | none => match fwL st.length 0 (jn.map (rowP st.length ((st.length : Nat) - 1 : Int))) with
    | some i => some (xJoins (.int (i : Nat)))
    | none => match fwL st.length 0 (an.map nameP) with
      | some i => some (xAnswers (.int (i : Nat)))
      | none => if betP 0 ((st.length : Nat) - 1 : Int) b = false then some (xBegin b) else none
where txtOf : P → List Nat
  | .str cs => cs
  | _ => []
def tupR : P → P
  | .lst xs => .tup xs
  | p => p
def redO (p b : P) (n : Nat) (st jn an : List P) : PO := .ins "Reducer" ["letters", "begin", "size", "step_rows", "join_rows", "answer_names"] [p, b, .int (n : Nat), .lst st, .lst jn, .lst an]
theorem lc_rows {vs : List Nat} {g : PGx} {t : PTx} {e : PEx} {ρ : Ro} {xs : List P} (f : P → P) {Q : List P → Ro → Prop} {E : EP} (h : ∀ a, a ∈ xs → ∀ (R : P → Ro → Prop) (N : Ro → Prop), (∀ ρ3, wipeP ρ3 vs = ρ → R (f a) ρ3) → wo (g a ρ) fun ρ1 => wp (t ρ1) (fun k ρ2 => pIte k (wp (e ρ2) R fun _ _ => False) (N ρ2)) fun _ _ => False)
    (q : Q (xs.map f) ρ) : wp (lcX vs g t e xs ρ) Q E := by
  have := lc_map (as := xs) (inj := fun x => x) (vs := vs) (g := g) (t := t) (e := e) (ρ := ρ) (Q := Q) (E := E) f h q
  rw [show xs.map (fun x => x) = xs from List.map_id' xs] at this
  exact this
theorem init_w {p b : P} {st jn an : List P} {Q : P → List PO → Prop} {E : Xn → List PO → Prop} (hp : okP p) (hb : kindP b ≠ "") (hs : st.length < 100000) (hs2 : ∀ r ∈ st, okRow r) (hj : jn.length < 100000) (hj2 : ∀ r ∈ jn, okRow r) (ha : an.length < 100000) (ha2 : ∀ r ∈ an, okP r)
    (h : initX p b st jn an = none → Q .non [redO p b st.length (st.map tupR) (jn.map tupR) an]) (k : ∀ e, initX p b st jn an = some e → E e [.ins "Reducer" [] []]) : wf (f_Reducer_init [.io (.ins "Reducer" [] []), .val p, .val b, .val (.lst st), .val (.lst jn), .val (.lst an)]) Q E := by
  wide_open with (f_Reducer_init, b_Reducer_init) using "sim"
  refine letters_ok hp ?_
  wide_open using "sim"
  refine ite_p (fun e => ?_) fun e0 => ?_
  · exact k (xLetters p) (by unfold initX; rw [if_pos (by simpa using e)])
  have e : lettersP p = true := by simpa using e0
  clear e0
  cases p <;> first | (cases e; done) | skip
  rename_i cs
  have e' : ¬ lettersP (.str cs) = false := by rw [e]; decide
  wide_open with (b_Reducer_init_9) using "sim"
  have i1 : decide ((1 : Int) ≤ (st.length : Nat)) = decide (1 ≤ st.length) := decide_eq_decide.mpr (by omega)
  have i2 : decide (((st.length : Nat) : Int) ≤ 16) = decide (st.length ≤ 16) := decide_eq_decide.mpr (by omega)
  rw [i1, i2]
  have bad : (decide (1 ≤ st.length) && decide (st.length ≤ 16)) = false → E (xSize (.int (st.length : Nat))) [.ins "Reducer" [] []] := fun z => k _ (by unfold initX; rw [if_neg e', if_pos z])
  refine ite_p (fun l1 => ite_p (fun l2 => ?_) fun l2 => ?_) fun l1 => ?_
  · exact bad (by rw [show decide (st.length ≤ 16) = false by simpa using l2, Bool.and_false])
  rotate_left
  · exact bad (by rw [l1, Bool.false_and])
  have l2 : decide (st.length ≤ 16) = true := by simpa using l2
  have ez : ¬ (decide (1 ≤ st.length) && decide (st.length ≤ 16)) = false := by rw [l1, l2]; decide
  have k : ∀ e, _ = some e → _ := k
  unfold initX at h k
  rw [if_neg e', if_neg ez] at h k
  clear bad ez l1 l2 i1 i2
  wide_open with (b_Reducer_init_8) using "sim"
  refine ⟨hs, ?_⟩
  refine lc_rows (fun r => .bl (rowP cs.length ((st.length : Nat) - 1 : Int) r)) (fun r hm R N h1 => ?_) ?_
  · wide_open using "sim"
    refine ⟨by have := hp.2 cs rfl; omega, row_w (hs2 r hm) ?_⟩
    wide_open using "sim"
    exact h1 _ rfl
  wide_open using "sim"
  rw [show (st.map fun r => P.bl (rowP cs.length ((st.length : Nat) - 1 : Int) r)) = (st.map (rowP cs.length ((st.length : Nat) - 1 : Int))).map P.bl by rw [List.map_map]; rfl]
  refine fw_w ?_
  wide_open with (b_Reducer_init_7) using "sim"
  have tx : initX.txtOf (.str cs) = cs := rfl
  rw [tx] at h k
  cases e1 : fwL st.length 0 (st.map (rowP cs.length ((st.length : Nat) - 1 : Int))) with
  | some i =>
    rw [e1] at k
    exact k _ rfl
  | none =>
  rw [e1] at h k
  wide_open with (optP, b_Reducer_init_6) using "sim"
  refine ⟨hj, ?_⟩
  refine lc_rows (fun r => .bl (rowP st.length ((st.length : Nat) - 1 : Int) r)) (fun r hm R N h1 => ?_) ?_
  · wide_open using "sim"
    refine row_w (hj2 r hm) ?_
    wide_open using "sim"
    exact h1 _ rfl
  wide_open using "sim"
  rw [show (jn.map fun r => P.bl (rowP st.length ((st.length : Nat) - 1 : Int) r)) = (jn.map (rowP st.length ((st.length : Nat) - 1 : Int))).map P.bl by rw [List.map_map]; rfl]
  refine fw_w ?_
  wide_open with (b_Reducer_init_5) using "sim"
  cases e2 : fwL st.length 0 (jn.map (rowP st.length ((st.length : Nat) - 1 : Int))) with
  | some i =>
    dsimp only at k
    rw [e2] at k
    exact k _ rfl
  | none =>
  dsimp only at h k
  rw [e2] at h k
  wide_open with (optP, b_Reducer_init_4) using "sim"
  refine answers_w ha ha2 (fun e3 => ?_) fun i e3 => ?_
  rotate_left
  · dsimp only at k
    rw [e3] at k
    exact k _ rfl
  dsimp only at h k
  rw [e3] at h k
  wide_open with (b_Reducer_init_3) using "sim"
  refine between_w hb ?_
  wide_open using "sim"
  refine ite_p (fun e4 => ?_) fun e4 => ?_
  · exact k (xBegin b) (if_pos (by simpa using e4))
  have h := h (if_neg (by simpa using e4))
  wide_open with (b_Reducer_init_2) using "sim"
  refine ⟨hs, ?_⟩
  have tup_ : ∀ {w n : Nat} {rs : List P} {r : P}, fwL n 0 (rs.map (rowP w ((n : Nat) - 1 : Int))) = none → r ∈ rs → fTupOf [r] = some (tupR r) := fun {w n rs r} z hm => by
    have := (fwL_none (Nat.zero_le _) z).2 _ (List.mem_map.mpr ⟨r, hm, rfl⟩)
    cases r <;> first | rfl | (cases this; done)
  refine lc_rows tupR (fun r hm R N h1 => ?_) ?_
  · wide_open with (tup_ e1 hm) using "sim"
    exact h1 _ rfl
  wide_open with (b_Reducer_init_1) using "sim"
  refine ⟨hj, ?_⟩
  refine lc_rows tupR (fun r hm R N h1 => ?_) ?_
  · wide_open with (tup_ e2 hm) using "sim"
    exact h1 _ rfl
  wide_open using "sim"
  exact h
/-! ### Reducer_counter -/
def b_Reducer_counter_1 : PSx :=
  (sRetF (nMk "Reducer" [none, none, none, none, none] 6 f_Reducer_init (gaC (pV 0) (gaC (pC (.int 0)) (gaC (pV 2) (gaC (pV 3) (gaC (pFz (pLc (iRg1 (pV 1)) [4] (gN 4) tYs (pOp fIx (pC (.str [97, 98, 99, 100, 101, 102, 103, 104, 105, 106, 107, 108, 109, 110, 111, 112, 113, 114, 115, 116, 117, 118, 119, 120, 121, 122])) (pV 4)))) gaN)))))))
def b_Reducer_counter_2 : PSx :=
  (sSeq (sAsg (pFz (pLc (iRg1 (pV 1)) [5] (gN 5) tYs (pFz (pLc (iRg1 (pV 1)) [7] (gN 7) tYs (pOp fMod (pOp fAdd (pV 5) (pV 7)) (pV 1)))))) (hN 3))
    b_Reducer_counter_1)
def b_Reducer_counter_3 : PSx :=
  (sSeq (sAsg (pFz (pLc (iRg1 (pV 1)) [4] (gN 4) tYs (pFz (pLc (iVal (pV 0)) [6] (gN 6) tYs (pOp fMod (pOp fAdd (pV 4) (pC (.int 1))) (pV 1)))))) (hN 2))
    b_Reducer_counter_2)
def b_Reducer_counter_4 : PSx :=
  (sSeq (sIf (tNt (tVal (pCall [none, none, none] 3 f_is_between (gaC (pV 1) (gaC (pC (.int 1)) (gaC (pC (.int 16)) gaN)))))) (sRaise (xMk "InvalidSize" [73, 110, 118, 97, 108, 105, 100, 83, 105, 122, 101] ["given"] (aCons (pV 1) aNil))) sNext)
    b_Reducer_counter_3)
def b_Reducer_counter : PSx :=
  (sSeq (sIf (tNt (tTr (pCall [none] 1 f_are_letters (gaC (pV 0) gaN)))) (sRaise (xMk "InvalidLetters" [73, 110, 118, 97, 108, 105, 100, 76, 101, 116, 116, 101, 114, 115] ["given"] (aCons (pV 0) aNil))) sNext)
    b_Reducer_counter_4)
@[irreducible] def f_Reducer_counter : FL := runD 6 b_Reducer_counter
theorem f_Reducer_counter_eq : f_Reducer_counter = runD 6 b_Reducer_counter := by rw [f_Reducer_counter]
--@@ Reducer_init
def stepsC (n m : Nat) : List (List P) := (List.range m).map fun i => (List.replicate n (.int (((i + 1) % m : Nat) : Int)))
def joinsC (m : Nat) : List (List P) := (List.range m).map fun i => (List.range m).map fun j => .int (((i + j) % m : Nat) : Int)
def ansC (m : Nat) : List P := (List.range m).map fun i => .str [97 + i]
/-- a reducer that counts -/
def cntO (cs : List Nat) (m : Nat) : PO := redO (.str cs) (.int 0) m ((stepsC cs.length m).map .tup) ((joinsC m).map .tup) (ansC m)
theorem abc_at {i : Nat} (h : i < 26) : atI [97, 98, 99, 100, 101, 102, 103, 104, 105, 106, 107, 108, 109, 110, 111, 112, 113, 114, 115, 116, 117, 118, 119, 120, 121, 122] (i : Nat) = some (97 + i) := by
  have : ∀ i, i < 26 → atI [97, 98, 99, 100, 101, 102, 103, 104, 105, 106, 107, 108, 109, 110, 111, 112, 113, 114, 115, 116, 117, 118, 119, 120, 121, 122] (i : Nat) = some (97 + i) := by decide +kernel
  exact this i h
theorem counter_no {p m : P} {Q : P → List PO → Prop} {E : Xn → List PO → Prop} (hp : okP p) (e : lettersP p = false) (k : E (xLetters p) []) : wf (f_Reducer_counter [.val p, .val m]) Q E := by
  wide_open with (f_Reducer_counter, b_Reducer_counter, b_Reducer_counter_1, b_Reducer_counter_2, b_Reducer_counter_3, b_Reducer_counter_4) using "sim"
  refine letters_ok hp ?_
  rw [e]
  wide_open using "sim"
  exact k
theorem counter_size {p m : P} {Q : P → List PO → Prop} {E : Xn → List PO → Prop} (hp : okP p) (e : lettersP p = true) (hm : kindP m ≠ "") (e2 : betP 1 16 m = false) (k : E (xSize m) []) : wf (f_Reducer_counter [.val p, .val m]) Q E := by
  wide_open with (f_Reducer_counter, b_Reducer_counter) using "sim"
  refine letters_ok hp ?_
  rw [e]
  wide_open with (b_Reducer_counter_4) using "sim"
  refine between_w hm ?_
  rw [e2]
  wide_open using "sim"
  exact k
theorem counter_w {cs : List Nat} {m : Nat} {Q : P → List PO → Prop} {E : Xn → List PO → Prop} (hp : okP (.str cs)) (e : lettersP (.str cs) = true) (m1 : 1 ≤ m) (m2 : m ≤ 16) (h : Q (cntO cs m).val []) : wf (f_Reducer_counter [.val (.str cs), .val (.int (m : Nat))]) Q E := by
  wide_open with (f_Reducer_counter, b_Reducer_counter) using "sim"
  refine letters_ok hp ?_
  rw [e]
  wide_open with (b_Reducer_counter_4) using "sim"
  refine between_w (show "int" ≠ "" by decide) ?_
  rw [show betP 1 16 (.int (m : Nat)) = true by show (decide _ && decide _) = true; rw [decide_eq_true (by omega), decide_eq_true (by omega)]; rfl]
  wide_open with (b_Reducer_counter_3) using "sim"
  refine ⟨⟨by omega, by omega⟩, by omega, ?_⟩
  unfold rangeN
  refine lc_map (as := List.range m) (inj := fun i => .int (i : Nat)) (fun i => .lst (List.replicate cs.length (.int (((i + 1) % m : Nat) : Int)))) (fun i hi R N h1 => ?_) ?_
  · wide_open using "sim"
    refine ⟨by have := hp.2 cs rfl; omega, ?_⟩
    refine lc_map (as := cs) (inj := fun c => .str [c]) (fun _ => .int (((i + 1) % m : Nat) : Int)) (fun c hc R N h1 => ?_) ?_
    · wide_open using "sim"
      exact ⟨by omega, h1 _ rfl⟩
    · wide_open using "sim"
      have := h1 [Sl.val (P.str cs), Sl.val (P.int ↑m), Sl.un, Sl.un, Sl.val (P.int ↑i), Sl.un, Sl.un, Sl.un] rfl
      rw [← List.map_const'] at this
      exact this
  wide_open with (b_Reducer_counter_2) using "sim"
  unfold rangeN
  refine ⟨⟨by omega, by omega⟩, by omega, ?_⟩
  refine lc_map (as := List.range m) (inj := fun i => .int (i : Nat)) (fun i => .lst ((List.range m).map fun j => .int (((i + j) % m : Nat) : Int))) (fun i hi R N h1 => ?_) ?_
  · wide_open using "sim"
    unfold rangeN
    refine ⟨⟨by omega, by omega⟩, by omega, ?_⟩
    refine lc_map (as := List.range m) (inj := fun i => .int (i : Nat)) (fun j => .int (((i + j) % m : Nat) : Int)) (fun j hj R N h1 => ?_) ?_
    · wide_open using "sim"
      exact ⟨by omega, h1 _ rfl⟩
    · wide_open using "sim"
      exact h1 _ rfl
  wide_open with (b_Reducer_counter_1) using "sim"
  unfold rangeN
  refine ⟨⟨by omega, by omega⟩, by omega, ?_⟩
  refine lc_map (as := List.range m) (inj := fun i => .int (i : Nat)) (fun i => .str [97 + i]) (fun i hi R N h1 => ?_) ?_
  · wide_open using "sim"
    rw [abc_at (by have := List.mem_range.mp hi; omega)]
    wide_open using "sim"
    exact h1 _ rfl
  wide_open using "sim"
  have es : (List.range m).map (fun i => P.lst (List.replicate cs.length (P.int (((i + 1) % m : Nat) : Int)))) = (stepsC cs.length m).map .lst := by unfold stepsC; rw [List.map_map]; rfl
  have ej : (List.range m).map (fun i => P.lst ((List.range m).map fun j => P.int (((i + j) % m : Nat) : Int))) = (joinsC m).map .lst := by unfold joinsC; rw [List.map_map]; rfl
  rw [es, ej]
  have ls : (stepsC cs.length m).length = m := by unfold stepsC; rw [List.length_map, List.length_range]
  have lj : (joinsC m).length = m := by unfold joinsC; rw [List.length_map, List.length_range]
  have la : (ansC m).length = m := by unfold ansC; rw [List.length_map, List.length_range]
  have hcs := hp.2 cs rfl
  have nb : ∀ k : Nat, betP 0 ((m : Int) - 1) (.int ((k % m : Nat) : Int)) = true := fun k => by
    have := Nat.mod_lt k (show 0 < m by omega)
    show (decide ((0 : Int) ≤ ((k % m : Nat) : Int)) && decide (((k % m : Nat) : Int) ≤ (m : Int) - 1)) = true
    rw [decide_eq_true (by omega), decide_eq_true (by omega)]
    rfl
  have r1 : ∀ r ∈ (stepsC cs.length m).map P.lst, okRow r ∧ rowP cs.length ((m : Int) - 1) r = true := fun r hr => by
    obtain ⟨x, hx, rfl⟩ := List.mem_map.mp hr
    obtain ⟨i, hi, rfl⟩ := List.mem_map.mp hx
    refine ⟨⟨by rw [List.length_replicate]; omega, fun y hy => by rw [List.eq_of_mem_replicate hy]; exact (show "int" ≠ "" by decide)⟩, ?_⟩
    show (decide _ && List.all _ _) = true
    rw [List.length_replicate, decide_eq_true rfl, Bool.true_and]
    exact List.all_eq_true.mpr fun y hy => by rw [List.eq_of_mem_replicate hy]; exact nb _
  have r2 : ∀ r ∈ (joinsC m).map P.lst, okRow r ∧ rowP m ((m : Int) - 1) r = true := fun r hr => by
    obtain ⟨x, hx, rfl⟩ := List.mem_map.mp hr
    obtain ⟨i, hi, rfl⟩ := List.mem_map.mp hx
    refine ⟨⟨by rw [List.length_map, List.length_range]; omega, fun y hy => by obtain ⟨j, _, rfl⟩ := List.mem_map.mp hy; exact (show "int" ≠ "" by decide)⟩, ?_⟩
    show (decide _ && List.all _ _) = true
    rw [List.length_map, List.length_range, decide_eq_true rfl, Bool.true_and]
    exact List.all_eq_true.mpr fun y hy => by obtain ⟨j, _, rfl⟩ := List.mem_map.mp hy; exact nb _
  have r3 : ∀ r ∈ ansC m, okP r ∧ nameP r = true := fun r hr => by
    obtain ⟨i, hi, rfl⟩ := List.mem_map.mp hr
    have hi := List.mem_range.mp hi
    refine ⟨⟨(show "str" ≠ "" by decide), fun c e => by cases e; exact Nat.le_of_ble_eq_true rfl⟩, ?_⟩
    have : ∀ i, i < 16 → nameP (.str [97 + i]) = true := by decide +kernel
    exact this i (by omega)
  have en : initX (.str cs) (.int 0) ((stepsC cs.length m).map .lst) ((joinsC m).map .lst) (ansC m) = none := by
    unfold initX
    rw [List.length_map, ls, if_neg (by rw [e]; decide), if_neg (by rw [decide_eq_true m1, decide_eq_true m2]; decide)]
    rw [fwL_all (by rw [List.length_map, List.length_map, ls, Nat.zero_add]) fun b hb => by
      obtain ⟨r, hr, rfl⟩ := List.mem_map.mp hb
      exact (r1 r hr).2]
    dsimp only
    rw [fwL_all (by rw [List.length_map, List.length_map, lj, Nat.zero_add]) fun b hb => by
      obtain ⟨r, hr, rfl⟩ := List.mem_map.mp hb
      exact (r2 r hr).2]
    dsimp only
    rw [fwL_all (by rw [List.length_map, la, Nat.zero_add]) fun b hb => by
      obtain ⟨r, hr, rfl⟩ := List.mem_map.mp hb
      exact (r3 r hr).2]
    dsimp only
    rw [if_neg]
    have : betP 0 ((m : Int) - 1) (.int 0) = true := by
      show (decide ((0 : Int) ≤ 0) && decide ((0 : Int) ≤ (m : Int) - 1)) = true
      rw [decide_eq_true (by omega), decide_eq_true (by omega)]
      rfl
    rw [this]
    decide
  refine init_w hp (show "int" ≠ "" by decide) (by rw [List.length_map, ls]; omega) (fun r hr => (r1 r hr).1) (by rw [List.length_map, lj]; omega) (fun r hr => (r2 r hr).1) (by show (ansC m).length < _; omega) (fun r hr => (r3 r hr).1) (fun _ => ?_) (fun x hx => by
    rw [show (List.range m).map (fun i => P.str [97 + i]) = ansC m from rfl, en] at hx
    cases hx)
  rw [List.map_map, List.map_map, List.length_map, ls]
  wide_open using "sim"
  exact h
/-! ### Reducer_steps -/
def b_Reducer_steps : PSx :=
  (sRetF (pLc (iVal (pFld "Reducer" "step_rows" (pV 0))) [1] (gN 1) tYs (pFz (nListOf (pV 1)))))
@[irreducible] def f_Reducer_steps : FL := runD 1 b_Reducer_steps
theorem f_Reducer_steps_eq : f_Reducer_steps = runD 1 b_Reducer_steps := by rw [f_Reducer_steps]
--@@ Reducer_init
theorem steps_w {p b : P} {n : Nat} {st jn an : List P} {rs : List (List P)} {Q : P → List PO → Prop} {E : Xn → List PO → Prop} (hl : st.length < 100000) (e : st = rs.map .tup) (h : Q (.lst (rs.map .lst)) []) : wf (f_Reducer_steps [.val (redO p b n st jn an).val]) Q E := by
  unfold redO
  wide_open with (f_Reducer_steps, b_Reducer_steps) using "sim"
  refine ⟨hl, ?_⟩
  subst e
  refine lc_map (as := rs) (inj := .tup) .lst (fun r hr R N h1 => ?_) ?_
  · wide_open using "sim"
    exact h1 _ rfl
  · wide_open using "sim"
    exact h
/-! ### Reducer_joins -/
def b_Reducer_joins : PSx :=
  (sRetF (pLc (iVal (pFld "Reducer" "join_rows" (pV 0))) [1] (gN 1) tYs (pFz (nListOf (pV 1)))))
@[irreducible] def f_Reducer_joins : FL := runD 1 b_Reducer_joins
theorem f_Reducer_joins_eq : f_Reducer_joins = runD 1 b_Reducer_joins := by rw [f_Reducer_joins]
--@@ Reducer_init
theorem joins_w {p b : P} {n : Nat} {st jn an : List P} {rs : List (List P)} {Q : P → List PO → Prop} {E : Xn → List PO → Prop} (hl : jn.length < 100000) (e : jn = rs.map .tup) (h : Q (.lst (rs.map .lst)) []) : wf (f_Reducer_joins [.val (redO p b n st jn an).val]) Q E := by
  unfold redO
  wide_open with (f_Reducer_joins, b_Reducer_joins) using "sim"
  refine ⟨hl, ?_⟩
  subst e
  refine lc_map (as := rs) (inj := .tup) .lst (fun r hr R N h1 => ?_) ?_
  · wide_open using "sim"
    exact h1 _ rfl
  · wide_open using "sim"
    exact h
/-! ### Reducer_answers -/
def b_Reducer_answers : PSx :=
  (sRetF (nListOf (pFld "Reducer" "answer_names" (pV 0))))
@[irreducible] def f_Reducer_answers : FL := runD 0 b_Reducer_answers
theorem f_Reducer_answers_eq : f_Reducer_answers = runD 0 b_Reducer_answers := by rw [f_Reducer_answers]
--@@ Reducer_init
theorem ansOf_w {p b : P} {n : Nat} {st jn an : List P} {Q : P → List PO → Prop} {E : Xn → List PO → Prop} (h : Q (.lst an) []) : wf (f_Reducer_answers [.val (redO p b n st jn an).val]) Q E := by
  unfold redO
  wide_open with (f_Reducer_answers, b_Reducer_answers) using "sim"
  exact h
/-! ### Reducer_walked -/
def b_Reducer_walked : PSx :=
  (sSeq (sFor (iVal (pV 2)) (hN 3) (sAsg (pOp fIx (pOp fIx (pFld "Reducer" "step_rows" (pV 0)) (pV 1)) (pSIx (pFld "Reducer" "letters" (pV 0)) (pV 3))) (hN 1)))
    (sRet (pV 1)))
@[irreducible] def f_Reducer_walked : FL := runD 1 b_Reducer_walked
theorem f_Reducer_walked_eq : f_Reducer_walked = runD 1 b_Reducer_walked := by rw [f_Reducer_walked]
--@@ Reducer_init
def rowsP (rs : List (List Nat)) : List P := rs.map fun r => .tup (r.map fun x => .int (x : Nat))
/-- one step -/
def stpF (cs : List Nat) (rs : List (List Nat)) (s c : Nat) : Nat := (rs.getD s []).getD (cs.idxOf c) 0
def walkF (cs : List Nat) (rs : List (List Nat)) (s : Nat) (ws : List Nat) : Nat := ws.foldl (stpF cs rs) s
/-- steps that stand -/
structure StOk (cs : List Nat) (rs : List (List Nat)) : Prop where
  row : ∀ r ∈ rs, r.length = cs.length ∧ ∀ x ∈ r, x < rs.length
theorem StOk.stp {cs : List Nat} {rs : List (List Nat)} {s c : Nat} (h : StOk cs rs) (hs : s < rs.length) (hc : c ∈ cs) : ∃ r, rs[s]? = some r ∧ r[cs.idxOf c]? = some (stpF cs rs s c) ∧ stpF cs rs s c < rs.length := by
  have e : rs[s]? = some rs[s] := List.getElem?_eq_getElem hs
  obtain ⟨h1, h2⟩ := h.row _ (List.getElem_mem hs)
  have hl : cs.idxOf c < rs[s].length := by rw [h1]; exact List.idxOf_lt_length_of_mem hc
  have e2 : rs[s][cs.idxOf c]? = some rs[s][cs.idxOf c] := List.getElem?_eq_getElem hl
  have e3 : stpF cs rs s c = rs[s][cs.idxOf c] := by
    unfold stpF
    rw [List.getD_eq_getElem?_getD, List.getD_eq_getElem?_getD, e, Option.getD_some, e2, Option.getD_some]
  exact ⟨_, e, by rw [e3]; exact e2, by rw [e3]; exact h2 _ (List.getElem_mem hl)⟩
theorem StOk.walk {cs : List Nat} {rs : List (List Nat)} (h : StOk cs rs) : ∀ {ws : List Nat} {s : Nat}, s < rs.length → (∀ c ∈ ws, c ∈ cs) → walkF cs rs s ws < rs.length
  | [], _, hs, _ => hs
  | c :: w, s, hs, hc => by
    obtain ⟨_, _, _, h3⟩ := h.stp hs (hc c (List.mem_cons_self ..))
    exact StOk.walk (ws := w) h h3 fun x hx => hc x (List.mem_cons_of_mem _ hx)
theorem walked_w {cs ws : List Nat} {b : P} {n s : Nat} {rs : List (List Nat)} {jn an : List P} {Q : P → List PO → Prop} {E : Xn → List PO → Prop} (h0 : StOk cs rs) (hs : s < rs.length) (sub : ∀ c ∈ ws, c ∈ cs) (hl : ws.length ≤ 1000) (h : Q (.int (walkF cs rs s ws : Nat)) []) : wf (f_Reducer_walked [.val (redO (.str cs) b n (rowsP rs) jn an).val, .val (.int (s : Nat)), .val (.str ws)]) Q E := by
  unfold redO
  wide_open with (f_Reducer_walked, b_Reducer_walked) using "sim"
  refine for_lst (as := ws) (inj := fun c => .str [c]) (fun i ρ => ∃ s3, ρ = [.val (redO (.str cs) b n (rowsP rs) jn an).val, .val (.int (walkF cs rs s (ws.take i) : Nat)), .val (.str ws), s3]) ⟨_, rfl⟩ (fun i c ρ hc ⟨s3, er⟩ => ?_) fun ρ ⟨s3, er⟩ => ?_
  · subst er
    have hm := List.mem_of_getElem? hc
    obtain ⟨r, e1, e2, e3⟩ := h0.stp (h0.walk (ws := ws.take i) hs fun x hx => sub x (List.mem_of_mem_take hx)) (sub c hm)
    unfold redO
    wide_open using "sim"
    have e4 : atI (rowsP rs) (walkF cs rs s (ws.take i) : Nat) = some (.tup (r.map fun x => .int (x : Nat))) := atI_nat (by unfold rowsP; rw [List.getElem?_map, e1]; rfl)
    rw [e4]
    wide_open using "sim"
    have e5 : atI (r.map fun x => P.int (x : Nat)) (cs.idxOf c : Nat) = some (.int (stpF cs rs (walkF cs rs s (ws.take i)) c : Nat)) := atI_nat (by rw [List.getElem?_map, e2]; rfl)
    rw [e5]
    wide_open using "sim"
    have e6 : walkF cs rs s (ws.take (i + 1)) = stpF cs rs (walkF cs rs s (ws.take i)) c := by
      unfold walkF
      rw [List.take_add_one, hc, List.foldl_append]
      rfl
    exact ⟨sub c hm, _, by rw [e6]⟩
  · subst er
    rw [List.take_length]
    unfold redO
    wide_open using "sim"
    exact h
/-! ### InvalidWord_init -/

/-! ### Reducer_check_word -/
def b_Reducer_check_word : PSx :=
  (sIf (tO (tNt (tVal (pCall [none] 1 f_is_word (gaC (pV 1) gaN)))) (tNt (tVal (pF1 fAll (pFz (pLc (iVal (pV 1)) [2] (gN 2) tYs (pOp fIn (pV 2) (pFld "Reducer" "letters" (pV 0))))))))) (sRaise (xMk "InvalidWord" [73, 110, 118, 97, 108, 105, 100, 87, 111, 114, 100] ["given"] (aCons (pV 1) aNil))) sNext)
@[irreducible] def f_Reducer_check_word : FL := runD 1 b_Reducer_check_word
theorem f_Reducer_check_word_eq : f_Reducer_check_word = runD 1 b_Reducer_check_word := by rw [f_Reducer_check_word]
--@@ Reducer_init is_word
theorem chk_w {cs ws : List Nat} {b : P} {n : Nat} {st jn an : List P} {Q : P → List PO → Prop} {E : Xn → List PO → Prop} (hc : cs.length ≤ 1000) (ho : okP (.str ws)) (lo : lowL ws = true) (sub : ∀ c ∈ ws, c ∈ cs) (h : Q .non []) : wf (f_Reducer_check_word [.val (redO (.str cs) b n st jn an).val, .val (.str ws)]) Q E := by
  unfold redO
  wide_open with (f_Reducer_check_word, b_Reducer_check_word) using "sim"
  refine word_w ho ?_
  rw [show wordP (.str ws) = true from lo]
  wide_open using "sim"
  refine ⟨by have := ho.2 ws rfl; omega, ?_⟩
  refine lc_map (as := ws) (inj := fun c => .str [c]) (fun c => .bl (decide (c ∈ cs))) (fun c hm R N h1 => ?_) ?_
  · wide_open using "sim"
    exact h1 _ rfl
  · wide_open using "sim"
    have ea : (ws.all (id ∘ fun a => decide (a ∈ cs))) = true := List.all_eq_true.mpr fun c hm => decide_eq_true (sub c hm)
    rw [List.all_map, ea]
    wide_open using "sim"
    exact h
/-! ### InvalidState_init -/

/-! ### Reducer_check_state -/
def b_Reducer_check_state : PSx :=
  (sIf (tNt (tVal (pCall [none, none, none] 3 f_is_between (gaC (pV 1) (gaC (pC (.int 0)) (gaC (pOp fSub (pFld "Reducer" "size" (pV 0)) (pC (.int 1))) gaN)))))) (sRaise (xMk "InvalidState" [73, 110, 118, 97, 108, 105, 100, 83, 116, 97, 116, 101] ["given"] (aCons (pV 1) aNil))) sNext)
@[irreducible] def f_Reducer_check_state : FL := runD 0 b_Reducer_check_state
theorem f_Reducer_check_state_eq : f_Reducer_check_state = runD 0 b_Reducer_check_state := by rw [f_Reducer_check_state]
/-! ### Reducer_fold -/
def b_Reducer_fold_1 : PSx :=
  (sRet (pMeth "Reducer" "walked" [none, none] 3 f_Reducer_walked (pV 0) (gaC (pV 2) (gaC (pV 1) gaN))))
def b_Reducer_fold_2 : PSx :=
  (sSeq (sDrop (pMeth "Reducer" "check_state" [none] 2 f_Reducer_check_state (pV 0) (gaC (pV 2) gaN)))
    b_Reducer_fold_1)
def b_Reducer_fold_3 : PSx :=
  (sSeq (sIf (tVal (pOp fIs (pV 2) (pC .non))) (sRet (pMeth "Reducer" "walked" [none, none] 3 f_Reducer_walked (pV 0) (gaC (pFld "Reducer" "begin" (pV 0)) (gaC (pV 1) gaN)))) sNext)
    b_Reducer_fold_2)
def b_Reducer_fold : PSx :=
  (sSeq (sDrop (pMeth "Reducer" "check_word" [none] 2 f_Reducer_check_word (pV 0) (gaC (pV 1) gaN)))
    b_Reducer_fold_3)
@[irreducible] def f_Reducer_fold : FL := runD 0 b_Reducer_fold
theorem f_Reducer_fold_eq : f_Reducer_fold = runD 0 b_Reducer_fold := by rw [f_Reducer_fold]
--@@ Reducer_init Reducer_walked Reducer_check_word
theorem fold_w {cs ws : List Nat} {n s : Nat} {rs : List (List Nat)} {jn an : List P} {Q : P → List PO → Prop} {E : Xn → List PO → Prop} (hc : cs.length ≤ 1000) (ho : okP (.str ws)) (lo : lowL ws = true) (sub : ∀ c ∈ ws, c ∈ cs) (h0 : StOk cs rs) (hs : s < rs.length) (h : Q (.int (walkF cs rs s ws : Nat)) []) : wf (f_Reducer_fold [.val (redO (.str cs) (.int (s : Nat)) n (rowsP rs) jn an).val, .val (.str ws), .val .non]) Q E := by
  unfold redO
  wide_open with (f_Reducer_fold, b_Reducer_fold, b_Reducer_fold_1, b_Reducer_fold_2, b_Reducer_fold_3) using "sim"
  refine chk_w hc ho lo sub ?_
  wide_open using "sim"
  refine walked_w h0 hs sub (ho.2 ws rfl) ?_
  wide_open using "sim"
  exact h
/-! ### Reducer_told -/
def b_Reducer_told : PSx :=
  (sRet (pOp fIx (pFld "Reducer" "answer_names" (pV 0)) (pMethN "Reducer" "fold" 1 0 3 f_Reducer_fold (fun us ws => (us ++ (pick 0 ([.non] : List P)))) (pV 0) (aCons (pV 1) aNil) aNil)))
@[irreducible] def f_Reducer_told : FL := runD 0 b_Reducer_told
theorem f_Reducer_told_eq : f_Reducer_told = runD 0 b_Reducer_told := by rw [f_Reducer_told]
--@@ Reducer_init Reducer_fold Reducer_walked
theorem told_w {cs ws : List Nat} {n s : Nat} {rs : List (List Nat)} {jn an : List P} {a : P} {Q : P → List PO → Prop} {E : Xn → List PO → Prop} (hc : cs.length ≤ 1000) (ho : okP (.str ws)) (lo : lowL ws = true) (sub : ∀ c ∈ ws, c ∈ cs) (h0 : StOk cs rs) (hs : s < rs.length) (ha : an[walkF cs rs s ws]? = some a) (h : Q a []) : wf (f_Reducer_told [.val (redO (.str cs) (.int (s : Nat)) n (rowsP rs) jn an).val, .val (.str ws)]) Q E := by
  unfold redO
  wide_open with (f_Reducer_told, b_Reducer_told, pick) using "sim"
  refine fold_w hc ho lo sub h0 hs ?_
  wide_open using "sim"
  rw [atI_nat ha]
  wide_open using "sim"
  exact h
/-! ### Reducer_call -/
def b_Reducer_call : PSx :=
  (sRet (pMeth "Reducer" "told" [none] 2 f_Reducer_told (pV 0) (gaC (pV 1) gaN)))
@[irreducible] def f_Reducer_call : FL := runD 0 b_Reducer_call
theorem f_Reducer_call_eq : f_Reducer_call = runD 0 b_Reducer_call := by rw [f_Reducer_call]
--@@ Reducer_told Reducer_init Reducer_walked
theorem call_w {cs ws : List Nat} {n s : Nat} {rs : List (List Nat)} {jn an : List P} {a : P} {Q : P → List PO → Prop} {E : Xn → List PO → Prop} (hc : cs.length ≤ 1000) (ho : okP (.str ws)) (lo : lowL ws = true) (sub : ∀ c ∈ ws, c ∈ cs) (h0 : StOk cs rs) (hs : s < rs.length) (ha : an[walkF cs rs s ws]? = some a) (h : Q a []) : wf (f_Reducer_call [.val (redO (.str cs) (.int (s : Nat)) n (rowsP rs) jn an).val, .val (.str ws)]) Q E := by
  unfold redO
  wide_open with (f_Reducer_call, b_Reducer_call) using "sim"
  refine told_w hc ho lo sub h0 hs ha ?_
  wide_open using "sim"
  exact h
/-! ### Reducer_content -/
def b_Reducer_content : PSx :=
  (sRet (pTup (aCons (pFld "Reducer" "letters" (pV 0)) (aCons (pFld "Reducer" "begin" (pV 0)) (aCons (pFld "Reducer" "step_rows" (pV 0)) (aCons (pFld "Reducer" "join_rows" (pV 0)) (aCons (pFld "Reducer" "answer_names" (pV 0)) aNil)))))))
@[irreducible] def f_Reducer_content : FL := runD 0 b_Reducer_content
theorem f_Reducer_content_eq : f_Reducer_content = runD 0 b_Reducer_content := by rw [f_Reducer_content]
--@@ Reducer_init
theorem content_w {p b : P} {n : Nat} {st jn an : List P} {Q : P → List PO → Prop} {E : Xn → List PO → Prop} (h : Q (.tup [p, b, .lst st, .lst jn, .lst an]) []) : wf (f_Reducer_content [.val (redO p b n st jn an).val]) Q E := by
  unfold redO
  wide_open with (f_Reducer_content, b_Reducer_content) using "sim"
  exact h
/-! ### Reducer_eq -/
def b_Reducer_eq : PSx :=
  (sRet (pAnd (pIsC "Reducer" (pV 1)) (pOp fEq (pMeth "Reducer" "content" [] 1 f_Reducer_content (pV 0) gaN) (pMeth "Reducer" "content" [] 1 f_Reducer_content (pV 1) gaN))))
@[irreducible] def f_Reducer_eq : FL := runD 0 b_Reducer_eq
theorem f_Reducer_eq_eq : f_Reducer_eq = runD 0 b_Reducer_eq := by rw [f_Reducer_eq]
--@@ Reducer_content Reducer_init
mutual
theorem peq_rfl : ∀ p : P, plain p = true → peq p p = true
  | .non, _ => rfl
  | .bl a, _ => by cases a <;> rfl
  | .int i, _ => by show (i == i) = true; exact beq_self_eq_true i
  | .str cs, _ => by show decide (cs = cs) = true; exact decide_eq_true rfl
  | .lst xs, h => peqs_rfl xs h
  | .tup xs, h => peqs_rfl xs h
theorem peqs_rfl : ∀ xs : List P, plains xs = true → peqs xs xs = true
  | [], _ => rfl
  | x :: xs, h => by
    obtain ⟨h1, h2⟩ := (Bool.and_eq_true _ _).mp (show (plain x && plains xs) = true from h)
    show (peq x x && peqs xs xs) = true
    rw [peq_rfl x h1, peqs_rfl xs h2]
    rfl
end
theorem pl_all {d : Nat} : ∀ {xs : List P}, (∀ x ∈ xs, plain x = true ∧ pdep x ≤ d) → plains xs = true ∧ pdeps xs ≤ d
  | [], _ => ⟨rfl, Nat.zero_le _⟩
  | x :: xs, h => by
    obtain ⟨a, b⟩ := h x (List.mem_cons_self ..)
    obtain ⟨c, e⟩ := pl_all (xs := xs) fun y hy => h y (List.mem_cons_of_mem _ hy)
    refine ⟨?_, ?_⟩
    · show (plain x && plains xs) = true
      rw [a, c]; rfl
    · show max (pdep x) (pdeps xs) ≤ d
      omega
/-- plain data of some depth -/
def plD (d : Nat) (p : P) : Prop := plain p = true ∧ pdep p ≤ d
theorem plD_lst {d : Nat} {xs : List P} (h : ∀ x ∈ xs, plD d x) : plD (d + 1) (.lst xs) := by
  obtain ⟨a, b⟩ := pl_all h
  exact ⟨a, by show pdeps xs + 1 ≤ d + 1; omega⟩
theorem plD_tup {d : Nat} {xs : List P} (h : ∀ x ∈ xs, plD d x) : plD (d + 1) (.tup xs) := by
  obtain ⟨a, b⟩ := pl_all h
  exact ⟨a, by show pdeps xs + 1 ≤ d + 1; omega⟩
theorem plD_int {d : Nat} {i : Int} : plD d (.int i) := ⟨rfl, Nat.zero_le _⟩
theorem plD_bl {d : Nat} {b : Bool} : plD d (.bl b) := ⟨rfl, Nat.zero_le _⟩
theorem plD_non {d : Nat} : plD d .non := ⟨rfl, Nat.zero_le _⟩
theorem plD_str {d : Nat} {cs : List Nat} (h : ∀ c ∈ cs, c < 1114112) : plD d (.str cs) := ⟨List.all_eq_true.mpr fun c hc => decide_eq_true (h c hc), Nat.zero_le _⟩
theorem low_c {cs : List Nat} (h : lowL cs = true) : ∀ c ∈ cs, c < 1114112 := fun c hc => by
  have h1 : c ∈ abcL := of_decide_eq_true (List.all_eq_true.mp h c hc)
  have h2 : (abcL.all fun c => decide (c < 1114112)) = true := by decide +kernel
  exact of_decide_eq_true (List.all_eq_true.mp h2 c h1)
theorem okEq_D {d : Nat} {p q : P} (h : plD d p) (k : plD d q) (hd : d ≤ 64) : okEq p q = true := by
  unfold okEq
  rw [h.1, k.1, decide_eq_true (show pdep p ≤ 64 by have := h.2; omega), decide_eq_true (show pdep q ≤ 64 by have := k.2; omega), Bool.or_eq_true]
  exact .inr rfl
theorem req_w {p b p' b' : P} {n n' : Nat} {st jn an st' jn' an' : List P} {Q : P → List PO → Prop} {E : Xn → List PO → Prop} (ok : okEq (.tup [p, b, .lst st, .lst jn, .lst an]) (.tup [p', b', .lst st', .lst jn', .lst an']) = true) (h : Q (.bl (peq (.tup [p, b, .lst st, .lst jn, .lst an]) (.tup [p', b', .lst st', .lst jn', .lst an']))) []) : wf (f_Reducer_eq [.val (redO p b n st jn an).val, .val (redO p' b' n' st' jn' an').val]) Q E := by
  unfold redO
  wide_open with (f_Reducer_eq, b_Reducer_eq) using "sim"
  refine content_w ?_
  wide_open using "sim"
  refine content_w ?_
  wide_open using "sim"
  exact ⟨ok, h⟩
/-! ### law_pull -/
def b_law_pull_1 : PSx :=
  (sAsg (pOp fMod (pF1 fIntOf (pOp fAdd (pOp fAdd (pOp fMul (pOpL fIx 0 (pC (.int 3))) (pC (.int 36979))) (pOp fMul (pOp fMod (pF1 fIntOf (pV 3)) (pC (.int 2147483489))) (pC (.int 42773)))) (pC (.int 89)))) (pC (.int 2147483549))) (hSub 0 (pC (.int 3))))
def b_law_pull_2 : PSx :=
  (sSeq (sAsg (pOpL fIx 0 (pC (.int 3))) (hN 2))
    (sSeq (sAsg (pOp fMod (pF1 fIntOf (pOp fAdd (pOp fAdd (pOp fAdd (pOp fPow (pV 2) (pC (.int 3))) (pOp fMul (pV 2) (pC (.int 39113)))) (pOp fMul (pOpL fIx 0 (pC (.int 4))) (pC (.int 1299721)))) (pC (.int 70003)))) (pC (.int 2147483549))) (hSub 0 (pC (.int 3))))
    (sRet (pOp fMod (pF1 fIntOf (pOp fAdd (pOp fFdiv (pOpL fIx 0 (pC (.int 3))) (pC (.int 89))) (pOp fMul (pOp fMod (pF1 fIntOf (pOpL fIx 0 (pC (.int 3)))) (pC (.int 7873))) (pC (.int 71))))) (pV 1)))))
def b_law_pull_3 : PSx :=
  (sSeq (sIf (tVal (pOp fGt (pOpL fIx 0 (pC (.int 2))) (pC (.int 0)))) (sSeq (sAsg (pTup (aCons (pOp fMod (pF1 fIntOf (pOpL fIx 0 (pC (.int 2)))) (pV 1)) (aCons (pOp fFdiv (pOpL fIx 0 (pC (.int 2))) (pV 1)) aNil))) (hT 2 (hsC (hN 4) (hsC (hSub 0 (pC (.int 2))) hsN))))
    (sRet (pV 4))) sNext)
    b_law_pull_2)
def b_law_pull : PSx :=
  (sSeq (sAsg (pOp fAdd (pOpL fIx 0 (pC (.int 4))) (pC (.int 1))) (hSub 0 (pC (.int 4))))
    (sSeq (sIf (tAn (tVal (pOp fEq (pOpL fIx 0 (pC (.int 2))) (pC (.int 0)))) (tVal (pOp fLt (pOpL fIx 0 (pC (.int 1))) (pF1 fLen (pOpL fIx 0 (pC (.int 0))))))) (sSeq (sAsg (pTup (aCons (pOp fIx (pOpL fIx 0 (pC (.int 0))) (pOpL fIx 0 (pC (.int 1)))) (aCons (pOp fAdd (pOpL fIx 0 (pC (.int 1))) (pC (.int 1))) aNil))) (hT 2 (hsC (hN 3) (hsC (hSub 0 (pC (.int 1))) hsN))))
    (sSeq (sIf (tVal (pOp fGe (pV 3) (pOp fPow (pC (.int 10)) (pC (.int 18))))) (sAsg (pV 3) (hSub 0 (pC (.int 2)))) sNext)
    b_law_pull_1)) sNext)
    b_law_pull_3))
@[irreducible] def f_law_pull : FL := runD 3 b_law_pull
theorem f_law_pull_eq : f_law_pull = runD 3 b_law_pull := by rw [f_law_pull]
/-- the script's bag -/
def BagOk : PO → Prop := fun o => ∃ (ns : List Int) (i r s c : Int), o = .lst [.lst (ns.map P.int), .int i, .int r, .int s, .int c] ∧ 0 ≤ i ∧ 0 ≤ r ∧ 0 ≤ s ∧ s < 2147483549
/-- a draw: any number below the sides -/
theorem pull_w {o : PO} {n : Int} {Q : P → List PO → Prop} {E : Xn → List PO → Prop} (hb : BagOk o) (h1 : 1 ≤ n) (h2 : n < 1073741824) (h : ∀ (d : Int) o', BagOk o' → 0 ≤ d → d < n → Q (.int d) [o']) : wf (f_law_pull [.io o, .val (.int n)]) Q E := by
  obtain ⟨ns, i, r, s, c, e, i0, r0, s0, s1⟩ := hb
  subst e
  have fin : ∀ (i r s c : Int), 0 ≤ i → 0 ≤ r → 0 ≤ s → s < 2147483549 → pIte (decide (0 < r)) (0 < n ∧ (0 < n ∧ n < 1073741824) ∧ Q (P.int (r % n)) [PO.lst [P.lst (List.map P.int ns), P.int i, P.int (r / n), P.int s, P.int c]])
      (s.natAbs < 18446744073709551616 ∧ 0 < n ∧ Q (P.int (((s ^ 3 + s * 39113 + c * 1299721 + 70003) % 2147483549 / 89 + (s ^ 3 + s * 39113 + c * 1299721 + 70003) % 2147483549 % 7873 * 71) % n))
        [PO.lst [P.lst (List.map P.int ns), P.int i, P.int r, P.int ((s ^ 3 + s * 39113 + c * 1299721 + 70003) % 2147483549), P.int c]]) := fun i r s c i0 r0 s0 s1 =>
    ite_p (fun e => ⟨by omega, ⟨by omega, h2⟩, h _ _ ⟨ns, _, _, _, _, rfl, i0, Int.ediv_nonneg r0 (by omega), s0, s1⟩ (Int.emod_nonneg _ (by omega)) (Int.emod_lt_of_pos _ (by omega))⟩)
      fun e => ⟨by omega, by omega, h _ _ ⟨ns, _, _, _, _, rfl, i0, r0, Int.emod_nonneg _ (by decide), Int.emod_lt_of_pos _ (by decide)⟩ (Int.emod_nonneg _ (by omega)) (Int.emod_lt_of_pos _ (by omega))⟩
  wide_open with (f_law_pull, b_law_pull, b_law_pull_1, b_law_pull_2, b_law_pull_3) using "sim"
  refine ite_p (fun e1 => ite_p (fun e2 => ?_) fun _ => fin _ _ _ _ i0 r0 s0 s1) fun _ => fin _ _ _ _ i0 r0 s0 s1
  have hi : i < ns.length := of_decide_eq_true e2
  obtain ⟨k, rfl⟩ := Int.eq_ofNat_of_zero_le i0
  refine at_n (by rw [List.length_map]; omega) ?_
  rw [List.getElem_map]
  wide_open using "sim"
  refine ite_p (fun e3 => ?_) fun _ => ?_
  · have e4 := of_decide_eq_true e3
    exact fin _ _ _ _ (by omega) (by omega) (Int.emod_nonneg _ (by decide)) (Int.emod_lt_of_pos _ (by decide))
  · exact fin _ _ _ _ (by omega) r0 (Int.emod_nonneg _ (by decide)) (Int.emod_lt_of_pos _ (by decide))
/-! ### law_letters -/
def b_law_letters : PSx :=
  (sSeq (sParOwn 3 4 (nListStr (pC (.str [97, 98, 99, 100, 101, 102, 103, 104, 105, 106, 107, 108, 109, 110, 111, 112, 113, 114, 115, 116, 117, 118, 119, 120, 121, 122]))) (pC (.str [])))
    (sSeq (sFor (iRg1 (pV 1)) (hN 2) (sAsg (pOp fAdd (pV 4) (pPopAt 3 (pCall [some 0, none] 2 f_law_pull (gaR 0 (gaC (pF1 fLen (pW 3)) gaN))))) (hN 4)))
    (sRet (pV 4))))
@[irreducible] def f_law_letters : FL := runD 3 b_law_letters
theorem f_law_letters_eq : f_law_letters = runD 3 b_law_letters := by rw [f_law_letters]
theorem perm_pop {a b : List Nat} {k : Nat} (hk : k < b.length) : (a ++ [b[k]] ++ b.eraseIdx k).Perm (a ++ b) := by
  rw [List.append_assoc]
  refine List.Perm.append_left a ?_
  have e : b = b.take k ++ b[k] :: b.drop (k + 1) := by rw [← List.drop_eq_getElem_cons hk, List.take_append_drop]
  rw [List.eraseIdx_eq_take_drop_succ]
  exact (show (b[k] :: (b.take k ++ b.drop (k + 1))).Perm (b.take k ++ b[k] :: b.drop (k + 1)) from List.perm_middle.symm).trans (by rw [← e])
/-- n letters, all unlike -/
theorem letters_w {o : PO} {n : Nat} {z : Int} {Q : P → List PO → Prop} {E : Xn → List PO → Prop} (hb : BagOk o) (hz : z = (n : Nat)) (h1 : n ≤ 26) (h : ∀ (w : List Nat) o', BagOk o' → w.length = n → w.Nodup → lowL w = true → Q (.str w) [o']) : wf (f_law_letters [.io o, .val (.int z)]) Q E := by
  subst hz
  wide_open with (f_law_letters, b_law_letters) using "sim"
  refine ⟨⟨by omega, by omega⟩, ?_⟩
  refine for_rng (fun i ρ => ∃ o' s left found, ρ = [.io o', .val (.int (n : Nat)), s, .loc (.lst (left.map fun c => .str [c])), .val (.str found)] ∧ BagOk o' ∧ left.length = 26 - i ∧ found.length = i ∧ (found ++ left).Nodup ∧ lowL (found ++ left) = true)
    ⟨o, _, [97, 98, 99, 100, 101, 102, 103, 104, 105, 106, 107, 108, 109, 110, 111, 112, 113, 114, 115, 116, 117, 118, 119, 120, 121, 122], [], rfl, hb, rfl, rfl, by decide, by decide +kernel⟩ (fun i ρ hi ⟨o', s, left, found, e, hb', l1, l2, nd, lo⟩ => ?_) fun ρ ⟨o', s, left, found, e, hb', l1, l2, nd, lo⟩ => ?_
  · subst e
    wide_open using "sim"
    refine pull_w hb' (by omega) (by omega) fun k o2 hb2 k0 k1 => ?_
    obtain ⟨k, rfl⟩ := Int.eq_ofNat_of_zero_le k0
    wide_open using "sim"
    have hk : k < left.length := by omega
    refine ⟨⟨k0, by omega⟩, at_p (p := .str [left[k]]) (by rw [List.getElem?_map, List.getElem?_eq_getElem hk]; rfl) ?_⟩
    wide_open using "sim"
    have pm : (found ++ [left[k]] ++ left.eraseIdx k).Perm (found ++ left) := perm_pop hk
    refine ⟨by omega, o2, .val (.int (i : Nat)), left.eraseIdx k, found ++ [left[k]], ?_, hb2, ?_, ?_, ?_, ?_⟩
    · rw [List.eraseIdx_eq_take_drop_succ, List.eraseIdx_eq_take_drop_succ, List.map_append, List.map_take, List.map_drop]
    · rw [List.length_eraseIdx, if_pos hk]; omega
    · rw [List.length_append, l2]; rfl
    · exact pm.nodup_iff.mpr nd
    · exact List.all_eq_true.mpr fun c hc => List.all_eq_true.mp lo c (pm.mem_iff.mp hc)
  · subst e
    wide_open using "sim"
    refine h found _ hb' l2 (List.nodup_append.mp nd).1 ?_
    rw [lowL_app, Bool.and_eq_true] at lo
    exact lo.1
/-! ### law_draws -/
def b_law_draws_1 : PSx :=
  (sRetF (nLst (aCons (pFz (nListOf (pSlice fCut (pV 0) oNo (oSome (pC (.int 63)))))) (aCons (pC (.int 0)) (aCons (pC (.int 0)) (aCons (pV 1) (aCons (pC (.int 0)) aNil)))))))
def b_law_draws : PSx :=
  (sSeq (sAsg (pC (.int 5798)) (hN 1))
    (sSeq (sFor (iVal (pSlice fCut (pV 0) oNo (oSome (pC (.int 63))))) (hN 2) (sAsg (pOp fMod (pF1 fIntOf (pOp fAdd (pOp fAdd (pOp fMul (pV 1) (pC (.int 47963))) (pOp fMod (pF1 fIntOf (pV 2)) (pC (.int 2147483489)))) (pC (.int 73)))) (pC (.int 2147483549))) (hN 1)))
    b_law_draws_1))
@[irreducible] def f_law_draws : FN := runN 2 b_law_draws
theorem f_law_draws_eq : f_law_draws = runN 2 b_law_draws := by rw [f_law_draws]
--@@ law_pull
theorem draws_w {ns : List Int} {Q : PO → List PO → Prop} {E : Xn → List PO → Prop} (hn : ns.length ≤ 63) (h : ∀ o, BagOk o → Q o []) : wn (f_law_draws [.val (.scr ns)]) Q E := by
  wide_open with (f_law_draws, b_law_draws, b_law_draws_1) using "sim"
  have ec : cutL ns none (some 63) = ns := by
    rw [show (63 : Int) = ((63 : Nat) : Int) from rfl, cutL_to, List.take_of_length_le hn]
  rw [ec]
  refine for_lst (fun _ ρ => ∃ s y, ρ = [.val (.scr ns), .val (.int s), y] ∧ 0 ≤ s ∧ s < 2147483549) ⟨_, _, rfl, by decide, by decide⟩ (fun i z ρ _ ⟨s, y, e, s0, s1⟩ => ?_) fun ρ ⟨s, y, e, s0, s1⟩ => ?_
  · subst e
    wide_open using "sim"
    exact ⟨_, _, rfl, Int.emod_nonneg _ (by decide), Int.emod_lt_of_pos _ (by decide)⟩
  · subst e
    wide_open with (ec) using "sim"
    exact h _ ⟨ns, 0, 0, s, 0, rfl, by decide, by decide, s0, s1⟩
/-! ### law_like -/
def b_law_like_1 (self : FL) : PSx :=
  (sRet (pAnd (pOp fEq (pF fIsi (aCons (pV 0) (aCons (pC (.ty "int")) aNil))) (pF fIsi (aCons (pV 1) (aCons (pC (.ty "int")) aNil)))) (pAnd (pOp fEq (pF fIsi (aCons (pV 0) (aCons (pC (.ty "str")) aNil))) (pF fIsi (aCons (pV 1) (aCons (pC (.ty "str")) aNil)))) (pOp fEq (pV 0) (pV 1)))))
def b_law_like_2 (self : FL) : PSx :=
  (sSeq (sIf (tO (tVal (pOp fIs (pV 0) (pC .non))) (tO (tVal (pOp fIs (pV 1) (pC .non))) (tVal (pOp fNe (pF fIsi (aCons (pV 0) (aCons (pC (.ty "bool")) aNil))) (pF fIsi (aCons (pV 1) (aCons (pC (.ty "bool")) aNil))))))) (sRet (pAnd (pOp fIs (pV 0) (pC .non)) (pOp fIs (pV 1) (pC .non)))) sNext)
    (b_law_like_1 self))
def b_law_like (self : FL) : PSx :=
  (sSeq (sIf (tVal (pIsi2 "list" "tuple" (pV 1))) (sSeq (sAsg (pAnd (pOp fEq (pF fIsi (aCons (pV 0) (aCons (pC (.ty "list")) aNil))) (pF fIsi (aCons (pV 1) (aCons (pC (.ty "list")) aNil)))) (pOp fEq (pF fIsi (aCons (pV 0) (aCons (pC (.ty "tuple")) aNil))) (pF fIsi (aCons (pV 1) (aCons (pC (.ty "tuple")) aNil))))) (hN 2))
    (sRet (pAndT (pV 2) (pAndT (pOp fEq (pF1 fLen (pV 0)) (pF1 fLen (pV 1))) (pF1 fAll (pFz (pLc (iZi (pV 0) (pV 1)) [3, 4] (gT 2 (gsC (gN 3) (gsC (gN 4) gsN))) tYs (pCall [none, none] 2 self (gaC (pV 3) (gaC (pV 4) gaN)))))))))) sNext)
    (b_law_like_2 self))
def g_law_like : Nat → FL
  | 0 => fun _ => .bad
  | d + 1 => runD 3 (b_law_like (g_law_like d))
@[irreducible] def f_law_like (d : Nat) : FL := g_law_like d
theorem f_law_like_g : f_law_like = g_law_like := by funext d; rw [f_law_like]
theorem f_law_like_0 : f_law_like 0 = fun _ => .bad := by rw [f_law_like_g]; rfl
theorem f_law_like_s {d : Nat} : f_law_like (d + 1) = runD 3 (b_law_like (f_law_like d)) := by rw [f_law_like_g]; rfl
/-- plain data, less deep than d -/
def datP : Nat → P → Bool
  | 0, _ => false
  | d + 1, .lst xs => decide (xs.length < 100000) && xs.all (datP d)
  | d + 1, .tup xs => decide (xs.length < 100000) && xs.all (datP d)
  | _ + 1, .str cs => decide (cs.length ≤ 100000)
  | _ + 1, .non => true
  | _ + 1, .bl _ => true
  | _ + 1, .int _ => true
  | _ + 1, _ => false
theorem zip_self : ∀ xs : List P, zipP xs xs = xs.map fun x => .tup [x, x]
  | [] => rfl
  | x :: xs => by show _ :: zipP xs xs = _; rw [zip_self xs]; rfl
theorem like_w : ∀ {d : Nat} {p : P} {Q : P → List PO → Prop} {E : Xn → List PO → Prop}, datP d p = true → Q (.bl true) [] → wf (f_law_like d [.val p, .val p]) Q E
  | 0, p, Q, E, h, _ => by cases h
  | d + 1, p, Q, E, h, q => by
    have ih := @like_w d
    rw [f_law_like_s]
    have zs : ∀ (xs : List P) (ρ : Ro) (R : List P → Ro → Prop) (E : EP), xs.all (datP d) = true → R (xs.map fun _ => .bl true) ρ → ∀ s t, ρ = [s, t, .val (.bl true), .un, .un] → wp (lcX [3, 4] (gT 2 (gsC (gN 3) (gsC (gN 4) gsN))) tYs (pCall [none, none] 2 (f_law_like d) (gaC (pV 3) (gaC (pV 4) gaN))) (zipP xs xs) ρ) R E := fun xs ρ R E ha hR s t e => by
      subst e
      rw [zip_self]
      refine lc_map (fun _ => .bl true) (fun a ha' R N hN => ?_) hR
      wide_open using "sim"
      refine ih (List.all_eq_true.mp ha a ha') ?_
      wide_open using "sim"
      exact hN _ rfl
    cases p <;> first | (cases h; done) | skip
    · wide_open with (b_law_like, b_law_like_1, b_law_like_2) using "sim"; exact q
    · wide_open with (b_law_like, b_law_like_1, b_law_like_2) using "sim"; exact q
    · wide_open with (b_law_like, b_law_like_1, b_law_like_2) using "sim"; exact q
    · wide_open with (b_law_like, b_law_like_1, b_law_like_2) using "sim"; exact q
    · wide_open with (b_law_like, b_law_like_1, b_law_like_2) using "sim"
      have h2 := (Bool.and_eq_true _ _).mp (show (decide (_ < 100000) && _) = true from h)
      have h3 := of_decide_eq_true h2.1
      refine ⟨by rw [zip_self, List.length_map]; exact h3, zs _ _ _ _ h2.2 ?_ _ _ rfl⟩
      wide_open with (List.all_map) using "sim"
      rw [show List.all _ (id ∘ fun _ => true) = true from List.all_eq_true.mpr fun _ _ => rfl]
      exact q
    · wide_open with (b_law_like, b_law_like_1, b_law_like_2) using "sim"
      have h2 := (Bool.and_eq_true _ _).mp (show (decide (_ < 100000) && _) = true from h)
      have h3 := of_decide_eq_true h2.1
      refine ⟨by rw [zip_self, List.length_map]; exact h3, zs _ _ _ _ h2.2 ?_ _ _ rfl⟩
      wide_open with (List.all_map) using "sim"
      rw [show List.all _ (id ∘ fun _ => true) = true from List.all_eq_true.mpr fun _ _ => rfl]
      exact q
/-! ### law_any -/
def b_law_any : PSx :=
  (sRet (pOp fIx (pV 1) (pCall [some 0, none] 2 f_law_pull (gaR 0 (gaC (pF1 fLen (pV 1)) gaN)))))
@[irreducible] def f_law_any : FL := runD 0 b_law_any
theorem f_law_any_eq : f_law_any = runD 0 b_law_any := by rw [f_law_any]
/-- a drawn item of a list or of a text -/
theorem any_l {o : PO} {ps : List P} {Q : P → List PO → Prop} {E : Xn → List PO → Prop} (hb : BagOk o) (h0 : 0 < ps.length) (h1 : ps.length < 100000) (h : ∀ p o', p ∈ ps → BagOk o' → Q p [o']) : wf (f_law_any [.io o, .val (.lst ps)]) Q E := by
  wide_open with (f_law_any, b_law_any) using "sim"
  refine pull_w hb (by omega) (by omega) fun d o' b d0 d1 => ?_
  obtain ⟨n, rfl⟩ := Int.eq_ofNat_of_zero_le d0
  wide_open using "sim"
  exact at_n (by omega) (h _ _ (List.getElem_mem _) b)
theorem any_s {o : PO} {cs : List Nat} {Q : P → List PO → Prop} {E : Xn → List PO → Prop} (hb : BagOk o) (h0 : 0 < cs.length) (h1 : cs.length < 100000) (h : ∀ c o', c ∈ cs → BagOk o' → Q (.str [c]) [o']) : wf (f_law_any [.io o, .val (.str cs)]) Q E := by
  wide_open with (f_law_any, b_law_any) using "sim"
  refine ⟨by omega, pull_w hb (by omega) (by omega) fun d o' b d0 d1 => ?_⟩
  obtain ⟨n, rfl⟩ := Int.eq_ofNat_of_zero_le d0
  wide_open using "sim"
  exact ⟨by omega, at_n (by omega) (h _ _ (List.getElem_mem _) b)⟩
/-! ### law_word -/
def b_law_word : PSx :=
  (sRet (pOp fJoin (pC (.str [])) (pFz (pLc (iRg1 (pCall [some 0, none] 2 f_law_pull (gaR 0 (gaC (pOp fAdd (pV 2) (pC (.int 1))) gaN)))) [3] (gN 3) tYs (pCall [some 0, none] 2 f_law_any (gaR 0 (gaC (pV 1) gaN)))))))
@[irreducible] def f_law_word : FL := runD 1 b_law_word
theorem f_law_word_eq : f_law_word = runD 1 b_law_word := by rw [f_law_word]
/-- texts of one letter each make a text -/
theorem chars_of {R : Nat → Prop} : ∀ {ys : List P}, (∀ y ∈ ys, ∃ c, y = .str [c] ∧ R c) → ∃ cs : List Nat, ys = cs.map (fun c => .str [c]) ∧ ∀ c ∈ cs, R c
  | [], _ => ⟨[], rfl, fun _ h => (List.not_mem_nil h).elim⟩
  | y :: ys, h => by
    obtain ⟨c, e, r⟩ := h y (List.mem_cons_self ..)
    obtain ⟨cs, e2, r2⟩ := chars_of fun z hz => h z (List.mem_cons_of_mem _ hz)
    exact ⟨c :: cs, by rw [e, e2]; rfl, fun d hd => (List.mem_cons.mp hd).elim (fun q => q ▸ r) fun q => r2 d q⟩
/-- a drawn word of drawn letters -/
theorem wordd_w {o : PO} {ls : List Nat} {n : Nat} {z : Int} {Q : P → List PO → Prop} {E : Xn → List PO → Prop} (hb : BagOk o) (hl : 0 < ls.length) (hl2 : ls.length ≤ 100) (hz : z = (n : Nat)) (hn : n ≤ 1000) (h : ∀ (w : List Nat) o', BagOk o' → w.length ≤ n → (∀ c ∈ w, c ∈ ls) → Q (.str w) [o']) : wf (f_law_word [.io o, .val (.str ls), .val (.int z)]) Q E := by
  subst hz
  wide_open with (f_law_word, b_law_word) using "sim"
  refine pull_w hb (by omega) (by omega) fun d o1 hb1 d0 d1 => ?_
  obtain ⟨d, rfl⟩ := Int.eq_ofNat_of_zero_le d0
  wide_open using "sim"
  refine ⟨by omega, by omega, ?_⟩
  refine lc_ex (fun p => ∃ c, p = .str [c] ∧ c ∈ ls) (fun ρ => ∃ o', BagOk o' ∧ ρ = [.io o', .val (.str ls), .val (.int (n : Nat)), .un]) ⟨_, hb1, rfl⟩ (fun i hi ρ ⟨o', hb', er⟩ R N hR => ?_) fun ys ρ hly hy ⟨o', hb', er⟩ => ?_
  · subst er
    wide_open using "sim"
    refine any_s hb' hl (by omega) fun c o2 hc hb2 => ?_
    wide_open using "sim"
    exact hR _ _ ⟨c, rfl, hc⟩ ⟨o2, hb2, rfl⟩
  · subst er
    obtain ⟨cs, rfl, hcs⟩ := chars_of hy
    rw [List.length_map, rangeN_len] at hly
    wide_open with (flat_ch, len_ch) using "sim"
    exact ⟨by omega, h cs o' hb' (by omega) hcs⟩
/-! ### law_field -/

/-! ### law_try -/

/-! ### law_tries -/

/-! ### law -/
def lb_law : List PEx := [(pCall [none, none] 2 f_Reducer_counter (gaC (pV 11) (gaC (pV 10) gaN))), (pCall [none, none] 2 f_Reducer_counter (gaC (pV 8) (gaC (pV 10) gaN)))]
def b_law_1 (fid : Nat) : PSx :=
  (sRet (pCall [none, none] 2 (f_law_like 6) (gaC (pTries fid rows_law cats_law lb_law (pV 7)) (gaC (pFz (nLst (aCons (pTup (aCons (pC (.str [73, 110, 118, 97, 108, 105, 100, 76, 101, 116, 116, 101, 114, 115])) (aCons (pV 11) aNil))) (aCons (pTup (aCons (pC (.str [73, 110, 118, 97, 108, 105, 100, 83, 105, 122, 101])) (aCons (pV 10) aNil))) aNil)))) gaN))))
def b_law_2 (fid : Nat) : PSx :=
  (sSeq (sAsg (pFz (nLst (aCons (pC (.fn fid 0)) (aCons (pC (.fn fid 1)) aNil)))) (hN 7))
    (b_law_1 fid))
def b_law_3 (fid : Nat) : PSx :=
  (sSeq (sAsg (pTup (aCons (pCall [some 1, none] 2 f_law_any (gaR 1 (gaC (pFz (nLst (aCons (pC (.int 0)) (aCons (pC (.int 17)) (aCons (pOp fSub (pC (.int 0)) (pC (.int 1))) (aCons (pC (.bl true)) (aCons (pC .non) (aCons (pC (.str [51])) aNil)))))))) gaN))) (aCons (pCall [some 1, none] 2 f_law_any (gaR 1 (gaC (pFz (nLst (aCons (pC (.str [])) (aCons (pC .non) (aCons (pC (.int 3)) (aCons (pOp fAdd (pV 8) (pV 8)) (aCons (pC (.str [97, 98, 99, 100, 101, 102])) (aCons (pC (.str [65])) aNil)))))))) gaN))) aNil))) (hT 2 (hsC (hN 10) (hsC (hN 11) hsN))))
    (b_law_2 fid))
def b_law_4 (fid : Nat) : PSx :=
  (sSeq (sIf (tNt (tTr (pCall [none, none] 2 (f_law_like 6) (gaC (pFz (nLst (aCons (pMeth "Reducer" "__call__" [none] 2 f_Reducer_call (pV 2) (gaC (pV 6) gaN)) (aCons (pOwn2 "Reducer" f_Reducer_eq (pCallK 0 2 2 f_Reducer_counter (fun us ws => pick 1 ws ++ (pick 0 ws)) aNil (aCons (pV 9) (aCons (pV 8) aNil))) (pV 2)) aNil)))) (gaC (pFz (nLst (aCons (pOp fIx (pV 3) (pOp fMod (pF1 fIntOf (pF1 fLen (pV 6))) (pV 9))) (aCons (pC (.bl true)) aNil)))) gaN))))) (sRet (pC (.bl false))) sNext)
    (b_law_3 fid))
def b_law_5 (fid : Nat) : PSx :=
  (sSeq (sAsg (pCall [some 1, none, none] 3 f_law_word (gaR 1 (gaC (pV 8) (gaC (pC (.int 40)) gaN)))) (hN 6))
    (b_law_4 fid))
def b_law_6 (fid : Nat) : PSx :=
  (sSeq (sIf (tNt (tTr (pCall [none, none] 2 (f_law_like 6) (gaC (pV 5) (gaC (pFz (nLst (aCons (pV 8) (aCons (pC (.int 0)) (aCons (pFz (pLc (iRg1 (pV 9)) [12] (gN 12) tYs (pOp fMul (pFz (nLst (aCons (pOp fMod (pF1 fIntOf (pOp fAdd (pV 12) (pC (.int 1)))) (pV 9)) aNil))) (pF1 fLen (pV 8))))) (aCons (pV 4) (aCons (pFz (nListStr (pSlice fCut (pV 3) oNo (oSome (pV 9))))) aNil))))))) gaN))))) (sRet (pC (.bl false))) sNext)
    (b_law_5 fid))
def b_law_7 (fid : Nat) : PSx :=
  (sSeq (sAsg (pFz (nLst (aCons (pFld "Reducer" "letters" (pV 2)) (aCons (pFld "Reducer" "begin" (pV 2)) (aCons (pMeth "Reducer" "steps" [] 1 f_Reducer_steps (pV 2) gaN) (aCons (pMeth "Reducer" "joins" [] 1 f_Reducer_joins (pV 2) gaN) (aCons (pMeth "Reducer" "answers" [] 1 f_Reducer_answers (pV 2) gaN) aNil))))))) (hN 5))
    (b_law_6 fid))
def b_law_8 (fid : Nat) : PSx :=
  (sSeq (sAsg (pC (.str [97, 98, 99, 100, 101, 102, 103, 104, 105, 106, 107, 108, 109, 110, 111, 112])) (hN 3))
    (sSeq (sAsg (pFz (pLc (iRg1 (pV 9)) [12] (gN 12) tYs (pFz (pLc (iRg1 (pV 9)) [13] (gN 13) tYs (pOp fMod (pF1 fIntOf (pOp fAdd (pV 12) (pV 13))) (pV 9)))))) (hN 4))
    (b_law_7 fid)))
def b_law_9 (fid : Nat) : PSx :=
  (sSeq (sAsg (pCall [none, none] 2 f_Reducer_counter (gaC (pV 8) (gaC (pV 9) gaN))) (hN 2))
    (b_law_8 fid))
def b_law_10 (fid : Nat) : PSx :=
  (sSeq (sAsg (pTup (aCons (pCall [some 1, none] 2 f_law_letters (gaR 1 (gaC (pOp fAdd (pC (.int 1)) (pCall [some 1, none] 2 f_law_pull (gaR 1 (gaC (pC (.int 5)) gaN)))) gaN))) (aCons (pOp fAdd (pC (.int 1)) (pCall [some 1, none] 2 f_law_pull (gaR 1 (gaC (pC (.int 16)) gaN)))) aNil))) (hT 2 (hsC (hN 8) (hsC (hN 9) hsN))))
    (b_law_9 fid))
def b_law (fid : Nat) : PSx :=
  (sSeq (sOwn 1 (nCall [none] 1 f_law_draws (gaC (pV 0) gaN)))
    (b_law_10 fid))
@[irreducible] def f_law (fid : Nat) : FL := runD 13 (b_law fid)
theorem f_law_eq : f_law = fun fid => runD 13 (b_law fid) := by funext fid; rw [f_law]
theorem f_law_at {fid : Nat} : f_law fid = runD 13 (b_law fid) := by rw [f_law]
--@@ Reducer_counter Reducer_steps Reducer_joins Reducer_answers Reducer_call Reducer_eq law_letters law_draws law_like law_pull law_any law_word
def stepsN (n m : Nat) : List (List Nat) := (List.range m).map fun i => List.replicate n ((i + 1) % m)
theorem stepsN_P {n m : Nat} : (stepsC n m).map P.tup = rowsP (stepsN n m) := by
  unfold stepsC rowsP stepsN
  rw [List.map_map, List.map_map]
  refine List.map_congr_left fun i _ => ?_
  show P.tup (List.replicate n _) = P.tup ((List.replicate n _).map _)
  rw [List.map_replicate]
theorem stepsN_ok {cs : List Nat} {m : Nat} (hm : 1 ≤ m) : StOk cs (stepsN cs.length m) := ⟨fun r hr => by
  obtain ⟨i, _, rfl⟩ := List.mem_map.mp hr
  refine ⟨List.length_replicate .., fun x hx => ?_⟩
  rw [List.eq_of_mem_replicate hx]
  unfold stepsN
  rw [List.length_map, List.length_range]
  exact Nat.mod_lt _ (by omega)⟩
theorem stepsN_walk {cs : List Nat} {m : Nat} (hm : 1 ≤ m) : ∀ {w : List Nat} {s : Nat}, s < m → (∀ c ∈ w, c ∈ cs) → walkF cs (stepsN cs.length m) s w = (s + w.length) % m
  | [], s, hs, _ => by show s = (s + 0) % m; rw [Nat.add_zero, Nat.mod_eq_of_lt hs]
  | c :: w, s, hs, hc => by
    have e : stpF cs (stepsN cs.length m) s c = (s + 1) % m := by
      unfold stpF stepsN
      rw [List.getD_eq_getElem?_getD, List.getD_eq_getElem?_getD, List.getElem?_map, List.getElem?_range hs]
      show (List.replicate _ _)[_]?.getD _ = _
      rw [List.getElem?_replicate, if_pos (List.idxOf_lt_length_of_mem (hc c (List.mem_cons_self ..)))]
      rfl
    show walkF cs (stepsN cs.length m) (stpF cs (stepsN cs.length m) s c) w = _
    rw [e, stepsN_walk hm (Nat.mod_lt _ (by omega)) fun x hx => hc x (List.mem_cons_of_mem _ hx), List.length_cons, Nat.mod_add_mod, Nat.add_assoc, Nat.add_comm 1]
theorem dat_lst {d : Nat} {xs : List P} (hl : xs.length < 100000) (h : ∀ x ∈ xs, datP d x = true) : datP (d + 1) (.lst xs) = true := by
  show (decide (xs.length < 100000) && xs.all (datP d)) = true
  rw [decide_eq_true hl, List.all_eq_true.mpr h]
  rfl
theorem abc_cut {m : Nat} (h : m ≤ 16) : (cutL [97, 98, 99, 100, 101, 102, 103, 104, 105, 106, 107, 108, 109, 110, 111, 112] none (some (m : Int))).map (fun c => P.str [c]) = ansC m ∧ (cutL [97, 98, 99, 100, 101, 102, 103, 104, 105, 106, 107, 108, 109, 110, 111, 112] none (some (m : Int))).length ≤ 1000 := by
  have a : ∀ m : Nat, m < 17 → cutL [97, 98, 99, 100, 101, 102, 103, 104, 105, 106, 107, 108, 109, 110, 111, 112] none (some (m : Int)) = (List.range m).map (97 + ·) := by decide +kernel
  rw [a m (by omega), List.length_map, List.length_range, List.map_map]
  exact ⟨rfl, by omega⟩
theorem abc_16 {i : Nat} (h : i < 16) : atI [97, 98, 99, 100, 101, 102, 103, 104, 105, 106, 107, 108, 109, 110, 111, 112] (i : Nat) = some (97 + i) := by
  have : ∀ i : Nat, i < 16 → atI [97, 98, 99, 100, 101, 102, 103, 104, 105, 106, 107, 108, 109, 110, 111, 112] (i : Nat) = some (97 + i) := by decide +kernel
  exact this i h
theorem law_w (ns : List Int) (hn : ns.length ≤ 63) (fid : Nat) : f_law fid [.val (.scr ns)] = .ok (.bl true) [] := by
  refine wf_eq ?_
  rw [f_law_at]
  wide_open with (b_law) using "sim"
  refine draws_w hn fun o hb => ?_
  wide_open with (b_law_10) using "sim"
  refine pull_w hb (by decide) (by decide) fun d o hb d0 d1 => ?_
  obtain ⟨d, rfl⟩ := Int.eq_ofNat_of_zero_le d0
  wide_open using "sim"
  refine letters_w hb (n := 1 + d) (by omega) (by omega) fun ls o hb wl nd lo => ?_
  wide_open using "sim"
  refine pull_w hb (by decide) (by decide) fun m0 o hb q0 q1 => ?_
  obtain ⟨m0, rfl⟩ := Int.eq_ofNat_of_zero_le q0
  obtain ⟨m, em⟩ : ∃ m : Nat, m = 1 + m0 := ⟨_, rfl⟩
  have ez : ((1 : Int) + (m0 : Nat)) = (m : Nat) := by omega
  have m1 : 1 ≤ m := by omega
  have m2 : m ≤ 16 := by omega
  have okl : okP (.str ls) := ⟨(show "str" ≠ "" by decide), fun c e => by cases e; omega⟩
  have ll : lettersP (.str ls) = true := by
    show (lowL ls && (decide (1 ≤ ls.length) && (decide (ls.length ≤ 5) && decide ls.Nodup))) = true
    rw [lo, decide_eq_true (show 1 ≤ ls.length by omega), decide_eq_true (show ls.length ≤ 5 by omega), decide_eq_true nd]
    rfl
  wide_open with (b_law_9) using "sim"
  rw [ez]
  refine counter_w okl ll m1 m2 ?_
  wide_open with (b_law_8) using "sim"
  refine ⟨⟨by omega, by omega⟩, by omega, ?_⟩
  unfold rangeN
  refine lc_map (as := List.range m) (inj := fun i => .int (i : Nat)) (fun i => .lst ((List.range m).map fun j => .int (((i + j) % m : Nat) : Int))) (fun i hi R N h1 => ?_) ?_
  · wide_open using "sim"
    unfold rangeN
    refine ⟨⟨by omega, by omega⟩, by omega, ?_⟩
    refine lc_map (as := List.range m) (inj := fun i => .int (i : Nat)) (fun j => .int (((i + j) % m : Nat) : Int)) (fun j hj R N h1 => ?_) ?_
    · wide_open using "sim"
      exact ⟨by omega, h1 _ rfl⟩
    · wide_open using "sim"
      exact h1 _ rfl
  have ls_ : (stepsC ls.length m).length = m := by unfold stepsC; rw [List.length_map, List.length_range]
  have lj_ : (joinsC m).length = m := by unfold joinsC; rw [List.length_map, List.length_range]
  have la_ : (ansC m).length = m := by unfold ansC; rw [List.length_map, List.length_range]
  rw [show (List.range m).map (fun i => P.lst ((List.range m).map fun j => P.int (((i + j) % m : Nat) : Int))) = (joinsC m).map .lst by unfold joinsC; rw [List.map_map]; rfl]
  unfold cntO redO
  wide_open with (b_law_7) using "sim"
  refine steps_w (by rw [List.length_map]; omega) rfl ?_
  wide_open using "sim"
  refine joins_w (by rw [List.length_map]; omega) rfl ?_
  wide_open using "sim"
  refine ansOf_w ?_
  wide_open with (b_law_6) using "sim"
  refine ⟨⟨by omega, by omega⟩, by omega, ?_⟩
  unfold rangeN
  refine lc_map (as := List.range m) (inj := fun i => .int (i : Nat)) (fun i => .lst (List.replicate ls.length (.int (((i + 1) % m : Nat) : Int)))) (fun i hi R N h1 => ?_) ?_
  · wide_open using "sim"
    have h1 := h1 [Sl.val (P.scr ns), Sl.loc o, _, _, _, _, Sl.un, Sl.un, Sl.val (P.str ls), Sl.val (P.int ↑m), Sl.un, Sl.un, Sl.val (P.int ↑i), Sl.un] rfl
    rw [show List.replicate ls.length (P.int (((i + 1) % m : Nat) : Int)) = (List.replicate ls.length [P.int (((i : Int) + 1) % (m : Int))]).flatten by rw [List.flatten_replicate_singleton]; rfl] at h1
    exact ⟨by omega, by omega, ⟨by omega, by omega, by omega⟩, h1⟩
  rw [show (List.range m).map (fun i => P.lst (List.replicate ls.length (P.int (((i + 1) % m : Nat) : Int)))) = (stepsC ls.length m).map .lst by unfold stepsC; rw [List.map_map]; rfl]
  wide_open using "sim"
  rw [(abc_cut m2).1]
  refine ⟨(abc_cut m2).2, like_w ?_ ?_⟩
  · refine dat_lst (show 5 < 100000 by decide) fun x hx => ?_
    simp only [List.mem_cons, List.not_mem_nil, or_false] at hx
    rcases hx with rfl | rfl | rfl | rfl | rfl
    · exact decide_eq_true (by omega)
    · rfl
    · refine dat_lst (by rw [List.length_map]; omega) fun x hx => ?_
      obtain ⟨r, hr, rfl⟩ := List.mem_map.mp hx
      obtain ⟨i, hi, rfl⟩ := List.mem_map.mp hr
      refine dat_lst (by rw [List.length_replicate]; omega) fun y hy => ?_
      rw [List.eq_of_mem_replicate hy]
      rfl
    · refine dat_lst (by rw [List.length_map]; omega) fun x hx => ?_
      obtain ⟨r, hr, rfl⟩ := List.mem_map.mp hx
      obtain ⟨i, hi, rfl⟩ := List.mem_map.mp hr
      refine dat_lst (by rw [List.length_map, List.length_range]; omega) fun y hy => ?_
      obtain ⟨j, _, rfl⟩ := List.mem_map.mp hy
      rfl
    · refine dat_lst (by omega) fun x hx => ?_
      obtain ⟨i, hi, rfl⟩ := List.mem_map.mp hx
      rfl
  wide_open with (b_law_5) using "sim"
  refine wordd_w hb (by omega) (by omega) (n := 40) rfl (by decide) fun w o hb w1 w2 => ?_
  rw [stepsN_P]
  wide_open with (b_law_4) using "sim"
  have sN : (stepsN ls.length m).length = m := by unfold stepsN; rw [List.length_map, List.length_range]
  have wlow : lowL w = true := List.all_eq_true.mpr fun c hc => List.all_eq_true.mp lo c (w2 c hc)
  have wok : okP (.str w) := ⟨(show "str" ≠ "" by decide), fun c e => by cases e; omega⟩
  have lt : w.length % m < m := Nat.mod_lt _ (by omega)
  have wk : walkF ls (stepsN ls.length m) 0 w = w.length % m := by rw [stepsN_walk m1 (by omega) w2, Nat.zero_add]
  refine ⟨by decide +kernel, ?_⟩
  refine call_w (s := 0) (rs := stepsN ls.length m) (an := ansC m) (a := .str [97 + w.length % m]) (by omega) wok wlow w2 (stepsN_ok m1) (by omega) (by rw [wk]; unfold ansC; rw [List.getElem?_map, List.getElem?_range lt]; rfl) ?_
  wide_open with (pick) using "sim"
  refine counter_w okl ll m1 m2 ?_
  refine ⟨rfl, ?_⟩
  have lw : ∀ c ∈ ls, c < 1114112 := low_c lo
  have pd : plD 4 (.tup [.str ls, .int 0, .lst ((stepsC ls.length m).map .tup), .lst ((joinsC m).map .tup), .lst (ansC m)]) := by
    refine plD_tup fun x hx => ?_
    simp only [List.mem_cons, List.not_mem_nil, or_false] at hx
    rcases hx with rfl | rfl | rfl | rfl | rfl
    · exact plD_str lw
    · exact plD_int
    · refine plD_lst fun x hx => ?_
      obtain ⟨r, hr, rfl⟩ := List.mem_map.mp hx
      obtain ⟨i, hi, rfl⟩ := List.mem_map.mp hr
      refine plD_tup fun y hy => ?_
      rw [List.eq_of_mem_replicate hy]
      exact plD_int
    · refine plD_lst fun x hx => ?_
      obtain ⟨r, hr, rfl⟩ := List.mem_map.mp hx
      obtain ⟨i, hi, rfl⟩ := List.mem_map.mp hr
      refine plD_tup fun y hy => ?_
      obtain ⟨j, _, rfl⟩ := List.mem_map.mp hy
      exact plD_int
    · refine plD_lst fun x hx => ?_
      obtain ⟨i, hi, rfl⟩ := List.mem_map.mp hx
      have hi := List.mem_range.mp hi
      exact plD_str fun c hc => by rw [List.mem_singleton.mp hc]; omega
  unfold cntO redO
  rw [stepsN_P]
  rw [stepsN_P] at pd
  refine req_w (okEq_D pd pd (by decide)) ?_
  rw [peq_rfl _ pd.1]
  wide_open using "sim"
  refine ⟨by omega, by omega, ?_⟩
  rw [← Int.natCast_emod, abc_16 (by omega)]
  wide_open using "sim"
  refine like_w rfl ?_
  wide_open with (b_law_3) using "sim"
  refine any_l hb (Nat.succ_pos _) (show 6 < 100000 by decide) fun bad o hbad hb => ?_
  wide_open using "sim"
  refine ⟨by omega, any_l hb (Nat.succ_pos _) (show 6 < 100000 by decide) fun odd o hodd hb => ?_⟩
  have hbad : kindP bad ≠ "" ∧ betP 1 16 bad = false ∧ datP 4 bad = true := by
    simp only [List.mem_cons, List.not_mem_nil, or_false] at hbad
    rcases hbad with rfl | rfl | rfl | rfl | rfl | rfl
    · exact ⟨(show "int" ≠ "" by decide), rfl, rfl⟩
    · exact ⟨(show "int" ≠ "" by decide), rfl, rfl⟩
    · exact ⟨(show "int" ≠ "" by decide), rfl, rfl⟩
    · exact ⟨(show "bool" ≠ "" by decide), rfl, rfl⟩
    · exact ⟨(show "NoneType" ≠ "" by decide), rfl, rfl⟩
    · exact ⟨(show "str" ≠ "" by decide), rfl, rfl⟩
  have hodd : okP odd ∧ lettersP odd = false ∧ datP 4 odd = true := by
    simp only [List.mem_cons, List.not_mem_nil, or_false] at hodd
    rcases hodd with rfl | rfl | rfl | rfl | rfl | rfl
    · exact ⟨⟨(show "str" ≠ "" by decide), fun c e => by cases e; exact Nat.zero_le _⟩, rfl, rfl⟩
    · exact ⟨⟨(show "NoneType" ≠ "" by decide), fun c e => by cases e⟩, rfl, rfl⟩
    · exact ⟨⟨(show "int" ≠ "" by decide), fun c e => by cases e⟩, rfl, rfl⟩
    · refine ⟨⟨(show "str" ≠ "" by decide), fun c e => by cases e; rw [List.length_append]; omega⟩, ?_, decide_eq_true (by rw [List.length_append]; omega)⟩
      show (lowL (ls ++ ls) && (decide (1 ≤ (ls ++ ls).length) && (decide ((ls ++ ls).length ≤ 5) && decide (ls ++ ls).Nodup))) = false
      rw [decide_eq_false (show ¬ (ls ++ ls).Nodup from fun z => by
        cases ls with
        | nil => rw [List.length_nil] at wl; omega
        | cons c r => exact (List.nodup_append.mp z).2.2 c (List.mem_cons_self ..) c (List.mem_cons_self ..) rfl), Bool.and_false, Bool.and_false, Bool.and_false]
    · exact ⟨⟨(show "str" ≠ "" by decide), fun c e => by cases e; decide⟩, by decide +kernel, rfl⟩
    · exact ⟨⟨(show "str" ≠ "" by decide), fun c e => by cases e; decide⟩, by decide +kernel, rfl⟩
  wide_open with (b_law_2, b_law_1, lb_law) using "sim"
  refine counter_no hodd.1 hodd.2.1 ?_
  unfold xLetters
  rw [res_InvalidLetters]
  wide_open using "sim"
  refine counter_size okl ll hbad.1 hbad.2.1 ?_
  unfold xSize
  rw [res_InvalidSize]
  wide_open using "sim"
  refine like_w ?_ ?_
  · have u1 : datP 5 (.tup [.str [73, 110, 118, 97, 108, 105, 100, 76, 101, 116, 116, 101, 114, 115], odd]) = true := by
      show (true && (datP 4 _ && (datP 4 odd && true))) = true
      rw [hodd.2.2]; rfl
    have u2 : datP 5 (.tup [.str [73, 110, 118, 97, 108, 105, 100, 83, 105, 122, 101], bad]) = true := by
      show (true && (datP 4 _ && (datP 4 bad && true))) = true
      rw [hbad.2.2]; rfl
    refine dat_lst (show 2 < 100000 by decide) fun x hx => ?_
    simp only [List.mem_cons, List.not_mem_nil, or_false] at hx
    rcases hx with rfl | rfl
    · exact u1
    · exact u2
  · wide_open using "sim"
def topS (i : Nat) : Stmt := PySem.Challenge.pw_partjoins_k06_counters.main.body.getD i (.Pass ⟨0, 0, 0, 0⟩)
section
variable [Tbs]
variable {PP : Program} {w : World} {K : PySem.W.Frag} {mg : Str → Option Value} {base : Heap}

/-! ### is_word -/
abbrev st_is_word : Stmt := topS 19
abbrev N_is_word : List Str := ["value", "sign"]
theorem sc_is_word : FnScope N_is_word ["value"] (defScope st_is_word) := ⟨rfl, rfl, rfl, by decide +kernel, rfl, by decide +kernel, by decide +kernel⟩
theorem ok_is_word (S : Stood K mg "is_word" st_is_word) (z_isinstance : mg "isinstance" = none) (z_str : mg "str" = none) (z_all : mg "all" = none) (g_ALPHABET : ∃ u, mg "ALPHABET" = some u ∧ RelV (.str "abcdefghijklmnopqrstuvwxyz") u) : HasF PP w K mg base "is_word" st_is_word 1 ["value"] (liftF K 1 f_is_word) := by
  rw [f_is_word_eq]
  exact FX.Stood.okF S sc_is_word 1 rfl b_is_word (fun _ _ _ _ _ _ us hl => match us, hl with | [_], _ => rfl) (fun fa cdv A outer sh H E hr oo => (pss_one (ps_ret (pe_and (pe_callB (k_isi K) (by rfl) z_isinstance (by decide +kernel) (pa_cons (pv 0) (pa_cons (pe_bltn (v := .ty "str") (by rfl) z_str (by decide +kernel) rfl) pa_nil))) (pe_one (pe_callB (k_all K rfl) (by rfl) z_all (by decide +kernel) (pa_cons (pe_lc (own := [("sign", 1)]) rfl sc_is_word.nd (pi_dyn K (pv 0)) (blkOk_by (N := N_is_word) (sc := defScope st_is_word) (by decide +kernel)) (fun _ _ _ _ _ => (pg_name (i := 1) sc_is_word.nd rfl (Or.inl rfl))) (fun _ _ _ _ _ => pts_nil) (fun _ _ _ _ _ => (pe_cmpR (o_in K) (pv 1) (pe_gc (by rfl) g_ALPHABET) (by rfl)))) pa_nil))))))) (fun io F0 H0 E tb => show SndS _ _ (b_is_word) from (s_ret (s_and (s_cb r_isi (s_cons s_var (s_cons (s_c (.ty "str") fun _ => rfl) s_nil))) (s_cb1 r_all (SndE.w (s_fz (n_lc (i_val s_var) g_name s_yes (s_op r_in s_var (s_str [97, 98, 99, 100, 101, 102, 103, 104, 105, 106, 107, 108, 109, 110, 111, 112, 113, 114, 115, 116, 117, 118, 119, 120, 121, 122])))))))))
/-! ### are_letters -/
abbrev st_are_letters : Stmt := topS 23
abbrev N_are_letters : List Str := ["value"]
theorem sc_are_letters : FnScope N_are_letters ["value"] (defScope st_are_letters) := ⟨rfl, rfl, rfl, by decide +kernel, rfl, by decide +kernel, by decide +kernel⟩
theorem ok_are_letters (S : Stood K mg "are_letters" st_are_letters) (G_is_word : HasF PP w K mg base "is_word" st_is_word 1 ["value"] (liftF K 1 f_is_word)) (z_len : mg "len" = none) (g_LETTERS_AT_MOST : ∃ u, mg "LETTERS_AT_MOST" = some u ∧ RelV (.int 5) u) (z_set : mg "set" = none) : HasF PP w K mg base "are_letters" st_are_letters 2 ["value"] (liftF K 1 f_are_letters) := by
  rw [f_are_letters_eq]
  exact FX.Stood.okF S sc_are_letters 0 rfl b_are_letters (fun _ _ _ _ _ _ us hl => match us, hl with | [_], _ => rfl) (fun fa cdv A outer sh H E hr oo => (pss_cons (ps_if (PW.pt (pw_or (pt_not (pt_val (pe_hasF G_is_word (hr.mono (by decide)) oo.px (by rfl) (pa_cons (pv 0) pa_nil)))) (pw_or1 (pt_not (pt_chain o_le o_le pe_int (pe_callB (k_len K) (by rfl) z_len (by decide +kernel) (pa_cons (pv 0) pa_nil)) (pe_gc (by rfl) g_LETTERS_AT_MOST)))))) (pss_one (ps_ret pe_bl)) pss_nil)
    (pss_one (ps_ret (pe_cmpR (o_eq K hr.units) (pe_callB cr_lenT (by rfl) z_len (by decide +kernel) (pa_cons (pe_callTy (cr_setT rfl) (by rfl) z_set (by decide +kernel) (pa_cons (pv 0) pa_nil)) pa_nil)) (pe_callB (k_len K) (by rfl) z_len (by decide +kernel) (pa_cons (pv 0) pa_nil)) (nomark _)))))) (fun io F0 H0 E tb => show SndS _ _ (b_are_letters) from (s_seq (s_ifS (s_tor (s_tnot (s_tB (s_call (js := [none]) (ag_cons s_var ag_nil)))) (s_tnot (s_test (s_chain r_le r_le s_int (s_cb1 r_len (SndE.w s_var)) s_int)))) (s_ret s_bl) s_next)
    (s_ret (s_op r_eq (s_lenSet s_var) (s_cb1 r_len (SndE.w s_var))))))
/-! ### first_wrong -/
abbrev st_first_wrong : Stmt := topS 25
abbrev N_first_wrong : List Str := ["rights", "size", "at", "right"]
theorem sc_first_wrong : FnScope N_first_wrong ["rights", "size"] (defScope st_first_wrong) := ⟨rfl, rfl, rfl, by decide +kernel, rfl, by decide +kernel, by decide +kernel⟩
theorem ok_first_wrong (S : Stood K mg "first_wrong" st_first_wrong) (z_enumerate : mg "enumerate" = none) (z_len : mg "len" = none) : HasF PP w K mg base "first_wrong" st_first_wrong 1 ["rights", "size"] (liftF K 2 f_first_wrong) := by
  rw [f_first_wrong_eq]
  exact FX.Stood.okF S sc_first_wrong 2 rfl b_first_wrong (fun _ _ _ _ _ _ us hl => match us, hl with | [_, _], _ => rfl) (fun fa cdv A outer sh H E hr oo => (pss_cons (ps_for oo.po rfl (pi_enumD K (by rfl) z_enumerate (pa_cons (pv 0) pa_nil)) (k_tup K (n := 2) rfl (pgs_cons (pg_name (i := 2) sc_first_wrong.nd rfl (Or.inl rfl)) (pgs_cons (pg_name (i := 3) sc_first_wrong.nd rfl (Or.inl rfl)) pgs_nil))) (pss_one (ps_if (PW.pt (pw_or (pt_not (k_truth K (pv 3) (by intro _; rfl))) (pw_or1 (pt_cmpR o_ge (pv 2) (pv 1) (nomark _))))) (pss_one (ps_ret (pv 2))) pss_nil)))
    (pss_one (ps_ret (pe_ifExp (pt_cmpR o_lt (pe_callB (k_len K) (by rfl) z_len (by decide +kernel) (pa_cons (pv 0) pa_nil)) (pv 1) (nomark _)) (pe_callB (k_len K) (by rfl) z_len (by decide +kernel) (pa_cons (pv 0) pa_nil)) pe_non))))) (fun io F0 H0 E tb => show SndS _ _ (b_first_wrong) from (s_seq (s_for (i_enu s_var) (h_tup (hs_cons h_name (hs_cons h_name hs_nil))) (s_ifS (s_tor (s_tnot (s_tru (SndE.w s_var))) (s_test (s_op r_ge s_var s_var))) (s_ret s_var) s_next))
    (s_ret (s_if (s_test (s_op r_lt (s_cb1 r_len (SndE.w s_var)) s_var)) (s_cb1 r_len (SndE.w s_var)) s_non))))
/-! ### is_number -/
abbrev st_is_number : Stmt := topS 21
abbrev N_is_number : List Str := ["value"]
theorem sc_is_number : FnScope N_is_number ["value"] (defScope st_is_number) := ⟨rfl, rfl, rfl, by decide +kernel, rfl, by decide +kernel, by decide +kernel⟩
theorem ok_is_number (S : Stood K mg "is_number" st_is_number) (z_isinstance : mg "isinstance" = none) (z_int : mg "int" = none) (z_bool : mg "bool" = none) : HasF PP w K mg base "is_number" st_is_number 1 ["value"] (liftF K 1 f_is_number) := by
  rw [f_is_number_eq]
  exact FX.Stood.okF S sc_is_number 0 rfl b_is_number (fun _ _ _ _ _ _ us hl => match us, hl with | [_], _ => rfl) (fun fa cdv A outer sh H E hr oo => (pss_one (ps_ret (pe_and (pe_callB (k_isi K) (by rfl) z_isinstance (by decide +kernel) (pa_cons (pv 0) (pa_cons (pe_bltn (v := .ty "int") (by rfl) z_int (by decide +kernel) rfl) pa_nil))) (pe_one (pe_not (pe_callB (k_isi K) (by rfl) z_isinstance (by decide +kernel) (pa_cons (pv 0) (pa_cons (pe_bltn (v := .ty "bool") (by rfl) z_bool (by decide +kernel) rfl) pa_nil))))))))) (fun io F0 H0 E tb => show SndS _ _ (b_is_number) from (s_ret (s_and (s_cb r_isi (s_cons s_var (s_cons (s_c (.ty "int") fun _ => rfl) s_nil))) (s_not (s_cb r_isi (s_cons s_var (s_cons (s_c (.ty "bool") fun _ => rfl) s_nil)))))))
/-! ### is_between -/
abbrev st_is_between : Stmt := topS 22
abbrev N_is_between : List Str := ["value", "low", "high"]
theorem sc_is_between : FnScope N_is_between ["value", "low", "high"] (defScope st_is_between) := ⟨rfl, rfl, rfl, by decide +kernel, rfl, by decide +kernel, by decide +kernel⟩
theorem ok_is_between (S : Stood K mg "is_between" st_is_between) (G_is_number : HasF PP w K mg base "is_number" st_is_number 1 ["value"] (liftF K 1 f_is_number)) : HasF PP w K mg base "is_between" st_is_between 2 ["value", "low", "high"] (liftF K 3 f_is_between) := by
  rw [f_is_between_eq]
  exact FX.Stood.okF S sc_is_between 0 rfl b_is_between (fun _ _ _ _ _ _ us hl => match us, hl with | [_, _, _], _ => rfl) (fun fa cdv A outer sh H E hr oo => (pss_one (ps_ret (pe_and (pe_hasF G_is_number (hr.mono (by decide)) oo.px (by rfl) (pa_cons (pv 0) pa_nil)) (pe_one (pe_chain o_le o_le (pv 1) (pv 0) (pv 2))))))) (fun io F0 H0 E tb => show SndS _ _ (b_is_between) from (s_ret (s_and (s_call (js := [none]) (ag_cons s_var ag_nil)) (s_chain r_le r_le s_var s_var s_var))))
/-! ### is_row -/
abbrev st_is_row : Stmt := topS 24
abbrev N_is_row : List Str := ["value", "width", "size", "state"]
theorem sc_is_row : FnScope N_is_row ["value", "width", "size"] (defScope st_is_row) := ⟨rfl, rfl, rfl, by decide +kernel, rfl, by decide +kernel, by decide +kernel⟩
theorem ok_is_row (S : Stood K mg "is_row" st_is_row) (z_isinstance : mg "isinstance" = none) (z_list : mg "list" = none) (z_tuple : mg "tuple" = none) (z_len : mg "len" = none) (z_all : mg "all" = none) (G_is_between : HasF PP w K mg base "is_between" st_is_between 2 ["value", "low", "high"] (liftF K 3 f_is_between)) : HasF PP w K mg base "is_row" st_is_row 3 ["value", "width", "size"] (liftF K 3 f_is_row) := by
  rw [f_is_row_eq]
  exact FX.Stood.okF S sc_is_row 1 rfl b_is_row (fun _ _ _ _ _ _ us hl => match us, hl with | [_, _, _], _ => rfl) (fun fa cdv A outer sh H E hr oo => (pss_cons (ps_if (PW.pt (pw_or (pt_not (pt_val (pe_callB (k_isiT K) (by rfl) z_isinstance (by decide +kernel) (pa_cons (pv 0) (pa_cons (pe_tup (pa_cons (pe_bltn (v := .ty "list") (by rfl) z_list (by decide +kernel) rfl) (pa_cons (pe_bltn (v := .ty "tuple") (by rfl) z_tuple (by decide +kernel) rfl) pa_nil))) pa_nil))))) (pw_or1 (pt_cmpR (o_ne K hr.units) (pe_callB (k_len K) (by rfl) z_len (by decide +kernel) (pa_cons (pv 0) pa_nil)) (pv 1) (nomark _))))) (pss_one (ps_ret pe_bl)) pss_nil)
    (pss_one (ps_ret (pe_callB (k_all K rfl) (by rfl) z_all (by decide +kernel) (pa_cons (pe_lc (own := [("state", 3)]) rfl sc_is_row.nd (pi_dyn K (pv 0)) (blkOk_by (N := N_is_row) (sc := defScope st_is_row) (by decide +kernel)) (fun _ _ _ _ _ => (pg_name (i := 3) sc_is_row.nd rfl (Or.inl rfl))) (fun _ _ _ _ _ => pts_nil) (fun _ _ _ _ _ => (pe_hasF G_is_between (hr.mono (by decide)) passE0 (by rfl) (pa_cons (pv 3) (pa_cons pe_int (pa_cons (pe_op o_sub (pv 2) pe_int) pa_nil)))))) pa_nil)))))) (fun io F0 H0 E tb => show SndS _ _ (b_is_row) from (s_seq (s_ifS (s_tor (s_tnot (s_tB (s_isi2 s_var))) (s_test (s_op r_ne (s_cb1 r_len (SndE.w s_var)) s_var))) (s_ret s_bl) s_next)
    (s_ret (s_cb1 r_all (SndE.w (s_fz (n_lc (i_val s_var) g_name s_yes (s_call (js := [none, none, none]) (ag_cons s_var (ag_cons s_int (ag_cons (s_op r_sub s_var s_int) ag_nil)))))))))))
/-! ### is_name -/
abbrev st_is_name : Stmt := topS 20
abbrev N_is_name : List Str := ["value"]
theorem sc_is_name : FnScope N_is_name ["value"] (defScope st_is_name) := ⟨rfl, rfl, rfl, by decide +kernel, rfl, by decide +kernel, by decide +kernel⟩
theorem ok_is_name (S : Stood K mg "is_name" st_is_name) (G_is_word : HasF PP w K mg base "is_word" st_is_word 1 ["value"] (liftF K 1 f_is_word)) (z_len : mg "len" = none) (g_MOST_NAME : ∃ u, mg "MOST_NAME" = some u ∧ RelV (.int 8) u) : HasF PP w K mg base "is_name" st_is_name 2 ["value"] (liftF K 1 f_is_name) := by
  rw [f_is_name_eq]
  exact FX.Stood.okF S sc_is_name 0 rfl b_is_name (fun _ _ _ _ _ _ us hl => match us, hl with | [_], _ => rfl) (fun fa cdv A outer sh H E hr oo => (pss_one (ps_ret (pe_and (pe_hasF G_is_word (hr.mono (by decide)) oo.px (by rfl) (pa_cons (pv 0) pa_nil)) (pe_one (pe_chain o_le o_le pe_int (pe_callB (k_len K) (by rfl) z_len (by decide +kernel) (pa_cons (pv 0) pa_nil)) (pe_gc (by rfl) g_MOST_NAME))))))) (fun io F0 H0 E tb => show SndS _ _ (b_is_name) from (s_ret (s_and (s_call (js := [none]) (ag_cons s_var ag_nil)) (s_chain r_le r_le s_int (s_cb1 r_len (SndE.w s_var)) s_int))))
/-! ### InvalidAnswers_init -/
abbrev st_InvalidAnswers_init : Stmt := inClass (topS 8) 0
abbrev N_InvalidAnswers_init : List Str := ["self", "at"]
theorem sc_InvalidAnswers_init : FnScope N_InvalidAnswers_init ["self", "at"] (defScope st_InvalidAnswers_init) := ⟨rfl, rfl, rfl, by decide +kernel, rfl, by decide +kernel, by decide +kernel⟩
theorem ok_InvalidAnswers_init (S : StoodX K mg PP "JoinError" "InvalidAnswers" st_InvalidAnswers_init ["at"]) : HasX PP w K mg base "InvalidAnswers" 2 [73, 110, 118, 97, 108, 105, 100, 65, 110, 115, 119, 101, 114, 115] ["at"] :=
  S.ok1 sc_InvalidAnswers_init (fun _ _ _ _ _ _ us hl => match us, hl with | [_, _], _ => rfl) (fun fa cdv A outer sh H E hr => (pss_cons (ps_expr (pe_xi S hr (by rfl) rfl (pv 0))) (pss_one (ps_ost (pv 0) (pv 1)))))
/-! ### check_answers -/
abbrev st_check_answers : Stmt := topS 26
abbrev N_check_answers : List Str := ["answers", "size", "at", "name"]
theorem sc_check_answers : FnScope N_check_answers ["answers", "size"] (defScope st_check_answers) := ⟨rfl, rfl, rfl, by decide +kernel, rfl, by decide +kernel, by decide +kernel⟩
theorem ok_check_answers (S : Stood K mg "check_answers" st_check_answers) (G_first_wrong : HasF PP w K mg base "first_wrong" st_first_wrong 1 ["rights", "size"] (liftF K 2 f_first_wrong)) (G_is_name : HasF PP w K mg base "is_name" st_is_name 2 ["value"] (liftF K 1 f_is_name)) (H_InvalidAnswers : HasX PP w K mg base "InvalidAnswers" 2 [73, 110, 118, 97, 108, 105, 100, 65, 110, 115, 119, 101, 114, 115] ["at"]) : HasF PP w K mg base "check_answers" st_check_answers 4 ["answers", "size"] (liftF K 2 f_check_answers) := by
  rw [f_check_answers_eq]
  exact FX.Stood.okF S sc_check_answers 2 rfl b_check_answers (fun _ _ _ _ _ _ us hl => match us, hl with | [_, _], _ => rfl) (fun fa cdv A outer sh H E hr oo => (pss_cons (ps_set (i := 2) sc_check_answers.nd rfl (.inl rfl) (pe_hasF G_first_wrong (hr.mono (by decide)) oo.px (by rfl) (pa_cons (pe_lc (own := [("name", 3)]) rfl sc_check_answers.nd (pi_dyn K (pv 0)) (blkOk_by (N := N_check_answers) (sc := defScope st_check_answers) (by decide +kernel)) (fun _ _ _ _ _ => (pg_name (i := 3) sc_check_answers.nd rfl (Or.inl rfl))) (fun _ _ _ _ _ => pts_nil) (fun _ _ _ _ _ => (pe_hasF G_is_name (hr.mono (by decide)) passE0 (by rfl) (pa_cons (pv 3) pa_nil)))) (pa_cons (pv 1) pa_nil))))
    (pss_one (ps_if (pt_cmpR op_notN1 (pv 2) pe_non (nomark _)) (pss_one (ps_raiseX K H_InvalidAnswers (hr.mono (by decide)) rfl oo (by rfl) (pa_cons (pv 2) pa_nil))) pss_nil)))) (fun io F0 H0 E tb => show SndS _ _ (b_check_answers) from (s_seq (s_set (s_call (js := [none, none]) (ag_cons (s_fz (n_lc (i_val s_var) g_name s_yes (s_call (js := [none]) (ag_cons s_var ag_nil)))) (ag_cons s_var ag_nil))))
    (s_ifS (s_test (s_op r_isNot s_var s_non)) (s_raiseX (s_cons s_var s_nil)) s_next)))
/-! ### InvalidLetters_init -/
abbrev st_InvalidLetters_init : Stmt := inClass (topS 4) 0
abbrev N_InvalidLetters_init : List Str := ["self", "given"]
theorem sc_InvalidLetters_init : FnScope N_InvalidLetters_init ["self", "given"] (defScope st_InvalidLetters_init) := ⟨rfl, rfl, rfl, by decide +kernel, rfl, by decide +kernel, by decide +kernel⟩
theorem ok_InvalidLetters_init (S : StoodX K mg PP "JoinError" "InvalidLetters" st_InvalidLetters_init ["given"]) : HasX PP w K mg base "InvalidLetters" 2 [73, 110, 118, 97, 108, 105, 100, 76, 101, 116, 116, 101, 114, 115] ["given"] :=
  S.ok1 sc_InvalidLetters_init (fun _ _ _ _ _ _ us hl => match us, hl with | [_, _], _ => rfl) (fun fa cdv A outer sh H E hr => (pss_cons (ps_expr (pe_xi S hr (by rfl) rfl (pv 0))) (pss_one (ps_ost (pv 0) (pv 1)))))
/-! ### InvalidSize_init -/
abbrev st_InvalidSize_init : Stmt := inClass (topS 5) 0
abbrev N_InvalidSize_init : List Str := ["self", "given"]
theorem sc_InvalidSize_init : FnScope N_InvalidSize_init ["self", "given"] (defScope st_InvalidSize_init) := ⟨rfl, rfl, rfl, by decide +kernel, rfl, by decide +kernel, by decide +kernel⟩
theorem ok_InvalidSize_init (S : StoodX K mg PP "JoinError" "InvalidSize" st_InvalidSize_init ["given"]) : HasX PP w K mg base "InvalidSize" 2 [73, 110, 118, 97, 108, 105, 100, 83, 105, 122, 101] ["given"] :=
  S.ok1 sc_InvalidSize_init (fun _ _ _ _ _ _ us hl => match us, hl with | [_, _], _ => rfl) (fun fa cdv A outer sh H E hr => (pss_cons (ps_expr (pe_xi S hr (by rfl) rfl (pv 0))) (pss_one (ps_ost (pv 0) (pv 1)))))
/-! ### InvalidSteps_init -/
abbrev st_InvalidSteps_init : Stmt := inClass (topS 6) 0
abbrev N_InvalidSteps_init : List Str := ["self", "at"]
theorem sc_InvalidSteps_init : FnScope N_InvalidSteps_init ["self", "at"] (defScope st_InvalidSteps_init) := ⟨rfl, rfl, rfl, by decide +kernel, rfl, by decide +kernel, by decide +kernel⟩
theorem ok_InvalidSteps_init (S : StoodX K mg PP "JoinError" "InvalidSteps" st_InvalidSteps_init ["at"]) : HasX PP w K mg base "InvalidSteps" 2 [73, 110, 118, 97, 108, 105, 100, 83, 116, 101, 112, 115] ["at"] :=
  S.ok1 sc_InvalidSteps_init (fun _ _ _ _ _ _ us hl => match us, hl with | [_, _], _ => rfl) (fun fa cdv A outer sh H E hr => (pss_cons (ps_expr (pe_xi S hr (by rfl) rfl (pv 0))) (pss_one (ps_ost (pv 0) (pv 1)))))
/-! ### InvalidJoins_init -/
abbrev st_InvalidJoins_init : Stmt := inClass (topS 7) 0
abbrev N_InvalidJoins_init : List Str := ["self", "at"]
theorem sc_InvalidJoins_init : FnScope N_InvalidJoins_init ["self", "at"] (defScope st_InvalidJoins_init) := ⟨rfl, rfl, rfl, by decide +kernel, rfl, by decide +kernel, by decide +kernel⟩
theorem ok_InvalidJoins_init (S : StoodX K mg PP "JoinError" "InvalidJoins" st_InvalidJoins_init ["at"]) : HasX PP w K mg base "InvalidJoins" 2 [73, 110, 118, 97, 108, 105, 100, 74, 111, 105, 110, 115] ["at"] :=
  S.ok1 sc_InvalidJoins_init (fun _ _ _ _ _ _ us hl => match us, hl with | [_, _], _ => rfl) (fun fa cdv A outer sh H E hr => (pss_cons (ps_expr (pe_xi S hr (by rfl) rfl (pv 0))) (pss_one (ps_ost (pv 0) (pv 1)))))
/-! ### InvalidBegin_init -/
abbrev st_InvalidBegin_init : Stmt := inClass (topS 9) 0
abbrev N_InvalidBegin_init : List Str := ["self", "given"]
theorem sc_InvalidBegin_init : FnScope N_InvalidBegin_init ["self", "given"] (defScope st_InvalidBegin_init) := ⟨rfl, rfl, rfl, by decide +kernel, rfl, by decide +kernel, by decide +kernel⟩
theorem ok_InvalidBegin_init (S : StoodX K mg PP "JoinError" "InvalidBegin" st_InvalidBegin_init ["given"]) : HasX PP w K mg base "InvalidBegin" 2 [73, 110, 118, 97, 108, 105, 100, 66, 101, 103, 105, 110] ["given"] :=
  S.ok1 sc_InvalidBegin_init (fun _ _ _ _ _ _ us hl => match us, hl with | [_, _], _ => rfl) (fun fa cdv A outer sh H E hr => (pss_cons (ps_expr (pe_xi S hr (by rfl) rfl (pv 0))) (pss_one (ps_ost (pv 0) (pv 1)))))
/-! ### Reducer_init -/
abbrev st_Reducer_init : Stmt := inClass (topS 27) 2
abbrev N_Reducer_init : List Str := ["self", "letters", "begin", "steps", "joins", "answers", "size", "at", "row"]
theorem sc_Reducer_init : FnScope N_Reducer_init ["self", "letters", "begin", "steps", "joins", "answers"] (defScope st_Reducer_init) := ⟨rfl, rfl, rfl, by decide +kernel, rfl, by decide +kernel, by decide +kernel⟩
theorem ok_Reducer_init (S : StoodI K mg "Reducer" st_Reducer_init []) (G_are_letters : HasF PP w K mg base "are_letters" st_are_letters 2 ["value"] (liftF K 1 f_are_letters)) (H_InvalidLetters : HasX PP w K mg base "InvalidLetters" 2 [73, 110, 118, 97, 108, 105, 100, 76, 101, 116, 116, 101, 114, 115] ["given"]) (z_len : mg "len" = none) (g_STATES_AT_MOST : ∃ u, mg "STATES_AT_MOST" = some u ∧ RelV (.int 16) u) (H_InvalidSize : HasX PP w K mg base "InvalidSize" 2 [73, 110, 118, 97, 108, 105, 100, 83, 105, 122, 101] ["given"]) (G_first_wrong : HasF PP w K mg base "first_wrong" st_first_wrong 1 ["rights", "size"] (liftF K 2 f_first_wrong)) (G_is_row : HasF PP w K mg base "is_row" st_is_row 3 ["value", "width", "size"] (liftF K 3 f_is_row)) (H_InvalidSteps : HasX PP w K mg base "InvalidSteps" 2 [73, 110, 118, 97, 108, 105, 100, 83, 116, 101, 112, 115] ["at"]) (H_InvalidJoins : HasX PP w K mg base "InvalidJoins" 2 [73, 110, 118, 97, 108, 105, 100, 74, 111, 105, 110, 115] ["at"]) (G_check_answers : HasF PP w K mg base "check_answers" st_check_answers 4 ["answers", "size"] (liftF K 2 f_check_answers)) (G_is_between : HasF PP w K mg base "is_between" st_is_between 2 ["value", "low", "high"] (liftF K 3 f_is_between)) (H_InvalidBegin : HasX PP w K mg base "InvalidBegin" 2 [73, 110, 118, 97, 108, 105, 100, 66, 101, 103, 105, 110] ["given"]) (k_Reducer : Cls K (He.ga K "Reducer")) (n_Reducer_letters : NoAttr K (He.ga K "Reducer") "letters") (n_Reducer_begin : NoAttr K (He.ga K "Reducer") "begin") (n_Reducer_size : NoAttr K (He.ga K "Reducer") "size") (n_Reducer_step_rows : NoAttr K (He.ga K "Reducer") "step_rows") (z_tuple : mg "tuple" = none) (n_Reducer_join_rows : NoAttr K (He.ga K "Reducer") "join_rows") (n_Reducer_answer_names : NoAttr K (He.ga K "Reducer") "answer_names") (z_list : mg "list" = none) : HasI PP w K mg base "Reducer" st_Reducer_init [] 5 ["self", "letters", "begin", "steps", "joins", "answers"] (liftF K 6 f_Reducer_init) := by
  rw [f_Reducer_init_eq]
  exact S.okF sc_Reducer_init 3 rfl b_Reducer_init (fun fa cdv A outer sh H E hr oo => (pss_cons (ps_if (pt_not (k_truth K (pe_hasF G_are_letters (hr.mono (by decide)) oo.px (by rfl) (pa_cons (pv 1) pa_nil)) (by intro _; rfl))) (pss_one (ps_raiseX K H_InvalidLetters (hr.mono (by decide)) rfl oo (by rfl) (pa_cons (pv 1) pa_nil))) pss_nil)
    (pss_cons (ps_set (i := 6) sc_Reducer_init.nd rfl (.inr rfl) (pe_callB (k_len K) (by rfl) z_len (by decide +kernel) (pa_cons (pv 3) pa_nil)))
    (pss_cons (ps_if (pt_not (pt_chain o_le o_le pe_int (pv 6) (pe_gc (by rfl) g_STATES_AT_MOST))) (pss_one (ps_raiseX K H_InvalidSize (hr.mono (by decide)) rfl oo (by rfl) (pa_cons (pv 6) pa_nil))) pss_nil)
    (pss_cons (ps_set (i := 7) sc_Reducer_init.nd rfl (.inl rfl) (pe_hasF G_first_wrong (hr.mono (by decide)) oo.px (by rfl) (pa_cons (pe_lc (own := [("row", 8)]) rfl sc_Reducer_init.nd (pi_dyn K (pv 3)) (blkOk_by (N := N_Reducer_init) (sc := defScope st_Reducer_init) (by decide +kernel)) (fun _ _ _ _ _ => (pg_name (i := 8) sc_Reducer_init.nd rfl (Or.inl rfl))) (fun _ _ _ _ _ => pts_nil) (fun _ _ _ _ _ => (pe_hasF G_is_row (hr.mono (by decide)) passE0 (by rfl) (pa_cons (pv 8) (pa_cons (pe_callB (k_len K) (by rfl) z_len (by decide +kernel) (pa_cons (pv 1) pa_nil)) (pa_cons (pv 6) pa_nil)))))) (pa_cons (pv 6) pa_nil))))
    (pss_cons (ps_if (pt_cmpR op_notN1 (pv 7) pe_non (nomark _)) (pss_one (ps_raiseX K H_InvalidSteps (hr.mono (by decide)) rfl oo (by rfl) (pa_cons (pv 7) pa_nil))) pss_nil)
    (pss_cons (ps_set (i := 7) sc_Reducer_init.nd rfl (.inl rfl) (pe_hasF G_first_wrong (hr.mono (by decide)) oo.px (by rfl) (pa_cons (pe_lc (own := [("row", 8)]) rfl sc_Reducer_init.nd (pi_dyn K (pv 4)) (blkOk_by (N := N_Reducer_init) (sc := defScope st_Reducer_init) (by decide +kernel)) (fun _ _ _ _ _ => (pg_name (i := 8) sc_Reducer_init.nd rfl (Or.inl rfl))) (fun _ _ _ _ _ => pts_nil) (fun _ _ _ _ _ => (pe_hasF G_is_row (hr.mono (by decide)) passE0 (by rfl) (pa_cons (pv 8) (pa_cons (pv 6) (pa_cons (pv 6) pa_nil)))))) (pa_cons (pv 6) pa_nil))))
    (pss_cons (ps_if (pt_cmpR op_notN1 (pv 7) pe_non (nomark _)) (pss_one (ps_raiseX K H_InvalidJoins (hr.mono (by decide)) rfl oo (by rfl) (pa_cons (pv 7) pa_nil))) pss_nil)
    (pss_cons (ps_expr (pe_hasF G_check_answers (hr.mono (by decide)) oo.px (by rfl) (pa_cons (pv 5) (pa_cons (pv 6) pa_nil))))
    (pss_cons (ps_if (pt_not (pt_val (pe_hasF G_is_between (hr.mono (by decide)) oo.px (by rfl) (pa_cons (pv 2) (pa_cons pe_int (pa_cons (pe_op o_sub (pv 6) pe_int) pa_nil)))))) (pss_one (ps_raiseX K H_InvalidBegin (hr.mono (by decide)) rfl oo (by rfl) (pa_cons (pv 2) pa_nil))) pss_nil)
    (pss_cons (k_setf K (pv 0) (pv 1))
    (pss_cons (k_setf K (pv 0) (pv 2))
    (pss_cons (k_setf K (pv 0) (pv 6))
    (pss_cons (k_setf K (pv 0) (pe_lc (own := [("row", 8)]) rfl sc_Reducer_init.nd (pi_dyn K (pv 3)) (blkOk_by (N := N_Reducer_init) (sc := defScope st_Reducer_init) (by decide +kernel)) (fun _ _ _ _ _ => (pg_name (i := 8) sc_Reducer_init.nd rfl (Or.inl rfl))) (fun _ _ _ _ _ => pts_nil) (fun _ _ _ _ _ => (pe_callTy (k_tuple K) (by rfl) z_tuple (by decide +kernel) (pa_cons (pv 8) pa_nil)))))
    (pss_cons (k_setf K (pv 0) (pe_lc (own := [("row", 8)]) rfl sc_Reducer_init.nd (pi_dyn K (pv 4)) (blkOk_by (N := N_Reducer_init) (sc := defScope st_Reducer_init) (by decide +kernel)) (fun _ _ _ _ _ => (pg_name (i := 8) sc_Reducer_init.nd rfl (Or.inl rfl))) (fun _ _ _ _ _ => pts_nil) (fun _ _ _ _ _ => (pe_callTy (k_tuple K) (by rfl) z_tuple (by decide +kernel) (pa_cons (pv 8) pa_nil)))))
    (pss_one (k_setf K (pv 0) (pe_callTy (k_list K) (by rfl) z_list (by decide +kernel) (pa_cons (pv 5) pa_nil))))))))))))))))))) (fun io F0 H0 E tb => show SndS _ _ (b_Reducer_init) from (s_seq (s_ifS (s_tnot (s_tru (SndE.w (s_call (js := [none]) (ag_cons s_var ag_nil))))) (s_raiseX (s_cons s_var s_nil)) s_next)
    (s_seq (s_set (s_cb1 r_len (SndE.w s_var)))
    (s_seq (s_ifS (s_tnot (s_test (s_chain r_le r_le s_int s_var s_int))) (s_raiseX (s_cons s_var s_nil)) s_next)
    (s_seq (s_set (s_call (js := [none, none]) (ag_cons (s_fz (n_lc (i_val s_var) g_name s_yes (s_call (js := [none, none, none]) (ag_cons s_var (ag_cons (s_cb1 r_len (SndE.w s_var)) (ag_cons s_var ag_nil)))))) (ag_cons s_var ag_nil))))
    (s_seq (s_ifS (s_test (s_op r_isNot s_var s_non)) (s_raiseX (s_cons s_var s_nil)) s_next)
    (s_seq (s_set (s_call (js := [none, none]) (ag_cons (s_fz (n_lc (i_val s_var) g_name s_yes (s_call (js := [none, none, none]) (ag_cons s_var (ag_cons s_var (ag_cons s_var ag_nil)))))) (ag_cons s_var ag_nil))))
    (s_seq (s_ifS (s_test (s_op r_isNot s_var s_non)) (s_raiseX (s_cons s_var s_nil)) s_next)
    (s_seq (s_drop (s_call (js := [none, none]) (ag_cons s_var (ag_cons s_var ag_nil))))
    (s_seq (s_ifS (s_tnot (s_tB (s_call (js := [none, none, none]) (ag_cons s_var (ag_cons s_int (ag_cons (s_op r_sub s_var s_int) ag_nil)))))) (s_raiseX (s_cons s_var s_nil)) s_next)
    (s_seq (s_setF k_Reducer n_Reducer_letters s_var)
    (s_seq (s_setF k_Reducer n_Reducer_begin s_var)
    (s_seq (s_setF k_Reducer n_Reducer_size s_var)
    (s_seq (s_setF k_Reducer n_Reducer_step_rows (s_fz (n_lc (i_val s_var) g_name s_yes (s_cb1 r_tupOf (SndE.w s_var)))))
    (s_seq (s_setF k_Reducer n_Reducer_join_rows (s_fz (n_lc (i_val s_var) g_name s_yes (s_cb1 r_tupOf (SndE.w s_var)))))
    (s_setF k_Reducer n_Reducer_answer_names (s_fz (n_listOf (SndE.w s_var)))))))))))))))))))
/-! ### Reducer_counter -/
abbrev st_Reducer_counter : Stmt := inClass (topS 27) 3
abbrev N_Reducer_counter : List Str := ["letters", "many", "steps", "joins", "state", "one", "letter", "other"]
theorem sc_Reducer_counter : FnScope N_Reducer_counter ["letters", "many"] (defScope st_Reducer_counter) := ⟨rfl, rfl, rfl, by decide +kernel, rfl, by decide +kernel, by decide +kernel⟩
theorem ok_Reducer_counter (S : StoodT K mg "Reducer" "counter" "Reducer.counter" st_Reducer_counter) (G_are_letters : HasF PP w K mg base "are_letters" st_are_letters 2 ["value"] (liftF K 1 f_are_letters)) (H_InvalidLetters : HasX PP w K mg base "InvalidLetters" 2 [73, 110, 118, 97, 108, 105, 100, 76, 101, 116, 116, 101, 114, 115] ["given"]) (G_is_between : HasF PP w K mg base "is_between" st_is_between 2 ["value", "low", "high"] (liftF K 3 f_is_between)) (g_STATES_AT_MOST : ∃ u, mg "STATES_AT_MOST" = some u ∧ RelV (.int 16) u) (H_InvalidSize : HasX PP w K mg base "InvalidSize" 2 [73, 110, 118, 97, 108, 105, 100, 83, 105, 122, 101] ["given"]) (z_range : mg "range" = none) (I_Reducer : HasI PP w K mg base "Reducer" st_Reducer_init [] 5 ["self", "letters", "begin", "steps", "joins", "answers"] (liftF K 6 f_Reducer_init)) (g_ALPHABET : ∃ u, mg "ALPHABET" = some u ∧ RelV (.str "abcdefghijklmnopqrstuvwxyz") u) : SmF PP w K mg base 7 "Reducer" "counter" "Reducer.counter" st_Reducer_counter ["letters", "many"] (liftF K 2 f_Reducer_counter) := by
  rw [f_Reducer_counter_eq]
  exact S.okF sc_Reducer_counter 6 rfl b_Reducer_counter (fun _ _ _ _ _ _ us hl => match us, hl with | [_, _], _ => rfl) (fun fa cdv A outer sh H E hr oo => (pss_cons (ps_if (pt_not (k_truth K (pe_hasF G_are_letters (hr.mono (by decide)) oo.px (by rfl) (pa_cons (pv 0) pa_nil)) (by intro _; rfl))) (pss_one (ps_raiseX K H_InvalidLetters (hr.mono (by decide)) rfl oo (by rfl) (pa_cons (pv 0) pa_nil))) pss_nil)
    (pss_cons (ps_if (pt_not (pt_val (pe_hasF G_is_between (hr.mono (by decide)) oo.px (by rfl) (pa_cons (pv 1) (pa_cons pe_int (pa_cons (pe_gc (by rfl) g_STATES_AT_MOST) pa_nil)))))) (pss_one (ps_raiseX K H_InvalidSize (hr.mono (by decide)) rfl oo (by rfl) (pa_cons (pv 1) pa_nil))) pss_nil)
    (pss_cons (ps_setLc (i := 2) (own := [("state", 4)]) rfl sc_Reducer_counter.nd rfl rfl (sw_true rfl rfl rfl (by decide +kernel)) (pi_range1 (by rfl) z_range (pa_cons (pv 1) pa_nil)) (blkOk_by (N := N_Reducer_counter) (sc := defScope st_Reducer_counter) (by decide +kernel)) (fun _ _ _ _ _ => (pg_name (i := 4) sc_Reducer_counter.nd rfl (Or.inr rfl))) (fun _ _ _ _ _ => pts_nil) (fun _ _ _ _ _ => (pe_lc (own := [("letter", 6)]) rfl sc_Reducer_counter.nd (pi_dyn K (pv 0)) (show L2.BlkOk N_Reducer_counter _ _ _ from blkOk_by (by kernel_rfl)) (fun _ _ _ _ _ => (pg_name (i := 6) sc_Reducer_counter.nd rfl (Or.inl rfl))) (fun _ _ _ _ _ => pts_nil) (fun _ _ _ _ _ => (pe_op o_mod (pe_op (o_add K) (pv 4) pe_int) (pv 1))))))
    (pss_cons (ps_setLc (i := 3) (own := [("one", 5)]) rfl sc_Reducer_counter.nd rfl rfl (sw_true rfl rfl rfl (by decide +kernel)) (pi_range1 (by rfl) z_range (pa_cons (pv 1) pa_nil)) (blkOk_by (N := N_Reducer_counter) (sc := defScope st_Reducer_counter) (by decide +kernel)) (fun _ _ _ _ _ => (pg_name (i := 5) sc_Reducer_counter.nd rfl (Or.inr rfl))) (fun _ _ _ _ _ => pts_nil) (fun _ _ _ _ _ => (pe_lc (own := [("other", 7)]) rfl sc_Reducer_counter.nd (pi_range1 (by rfl) z_range (pa_cons (pv 1) pa_nil)) (show L2.BlkOk N_Reducer_counter _ _ _ from blkOk_by (by kernel_rfl)) (fun _ _ _ _ _ => (pg_name (i := 7) sc_Reducer_counter.nd rfl (Or.inl rfl))) (fun _ _ _ _ _ => pts_nil) (fun _ _ _ _ _ => (pe_op o_mod (pe_op (o_add K) (pv 5) (pv 7)) (pv 1))))))
    (pss_one (ps_ret (pe_mkF K I_Reducer (hr.mono (by decide)) oo.px (by rfl) (pa_cons (pv 0) (pa_cons pe_int (pa_cons (pv 2) (pa_cons (pv 3) (pa_cons (pe_lc (own := [("state", 4)]) rfl sc_Reducer_counter.nd (pi_range1 (by rfl) z_range (pa_cons (pv 1) pa_nil)) (blkOk_by (N := N_Reducer_counter) (sc := defScope st_Reducer_counter) (by decide +kernel)) (fun _ _ _ _ _ => (pg_name (i := 4) sc_Reducer_counter.nd rfl (Or.inl rfl))) (fun _ _ _ _ _ => pts_nil) (fun _ _ _ _ _ => (pe_ix (k_ix K) (pe_gc (by rfl) g_ALPHABET) (pv 4) (fun _ _ => rfl)))) pa_nil))))) (fun _ _ _ _ _ _ us hl => match us, hl with | [_, _, _, _, _, _], _ => rfl))))))))) (fun io F0 H0 E tb => show SndS _ _ (b_Reducer_counter) from (s_seq (s_ifS (s_tnot (s_tru (SndE.w (s_call (js := [none]) (ag_cons s_var ag_nil))))) (s_raiseX (s_cons s_var s_nil)) s_next)
    (s_seq (s_ifS (s_tnot (s_tB (s_call (js := [none, none, none]) (ag_cons s_var (ag_cons s_int (ag_cons s_int ag_nil)))))) (s_raiseX (s_cons s_var s_nil)) s_next)
    (s_seq (s_set (s_fz (n_lc (i_rg1 s_var) g_name s_yes (s_fz (n_lc (i_val s_var) g_name s_yes (s_op r_mod (s_op r_add s_var s_int) s_var))))))
    (s_seq (s_set (s_fz (n_lc (i_rg1 s_var) g_name s_yes (s_fz (n_lc (i_rg1 s_var) g_name s_yes (s_op r_mod (s_op r_add s_var s_var) s_var))))))
    (s_retF (n_mk (js := [none, none, none, none, none]) (ag_cons s_var (ag_cons s_int (ag_cons s_var (ag_cons s_var (ag_cons (s_fz (n_lc (i_rg1 s_var) g_name s_yes (s_op r_ix (s_str [97, 98, 99, 100, 101, 102, 103, 104, 105, 106, 107, 108, 109, 110, 111, 112, 113, 114, 115, 116, 117, 118, 119, 120, 121, 122]) s_var))) ag_nil))))))))))))
/-! ### Reducer_steps -/
abbrev st_Reducer_steps : Stmt := inClass (topS 27) 4
abbrev N_Reducer_steps : List Str := ["self", "row"]
theorem sc_Reducer_steps : FnScope N_Reducer_steps ["self"] (defScope st_Reducer_steps) := ⟨rfl, rfl, rfl, by decide +kernel, rfl, by decide +kernel, by decide +kernel⟩
theorem ok_Reducer_steps (S : StoodM K "Reducer" "steps" "Reducer.steps" st_Reducer_steps) (k_Reducer : Cls K (He.ga K "Reducer")) (n_Reducer_step_rows : NoAttr K (He.ga K "Reducer") "step_rows") (z_list : mg "list" = none) : MetF PP w K mg base 1 "Reducer" "steps" "Reducer.steps" st_Reducer_steps ["self"] (liftF K 1 f_Reducer_steps) := by
  rw [f_Reducer_steps_eq]
  exact S.okF sc_Reducer_steps 1 rfl b_Reducer_steps (fun _ _ _ _ _ _ us hl => match us, hl with | [_], _ => rfl) (fun fa cdv A outer sh H E hr oo => (pss_one (ps_ret (pe_lc (own := [("row", 1)]) rfl sc_Reducer_steps.nd (pi_dyn K (k_fld K (pv 0))) (blkOk_by (N := N_Reducer_steps) (sc := defScope st_Reducer_steps) (by decide +kernel)) (fun _ _ _ _ _ => (pg_name (i := 1) sc_Reducer_steps.nd rfl (Or.inl rfl))) (fun _ _ _ _ _ => pts_nil) (fun _ _ _ _ _ => (pe_callTy (k_list K) (by rfl) z_list (by decide +kernel) (pa_cons (pv 1) pa_nil))))))) (fun io F0 H0 E tb => show SndS _ _ (b_Reducer_steps) from (s_retF (n_lc (i_val (s_fld k_Reducer n_Reducer_step_rows (SndE.w s_var))) g_name s_yes (s_fz (n_listOf (SndE.w s_var))))))
/-! ### Reducer_joins -/
abbrev st_Reducer_joins : Stmt := inClass (topS 27) 5
abbrev N_Reducer_joins : List Str := ["self", "row"]
theorem sc_Reducer_joins : FnScope N_Reducer_joins ["self"] (defScope st_Reducer_joins) := ⟨rfl, rfl, rfl, by decide +kernel, rfl, by decide +kernel, by decide +kernel⟩
theorem ok_Reducer_joins (S : StoodM K "Reducer" "joins" "Reducer.joins" st_Reducer_joins) (k_Reducer : Cls K (He.ga K "Reducer")) (n_Reducer_join_rows : NoAttr K (He.ga K "Reducer") "join_rows") (z_list : mg "list" = none) : MetF PP w K mg base 1 "Reducer" "joins" "Reducer.joins" st_Reducer_joins ["self"] (liftF K 1 f_Reducer_joins) := by
  rw [f_Reducer_joins_eq]
  exact S.okF sc_Reducer_joins 1 rfl b_Reducer_joins (fun _ _ _ _ _ _ us hl => match us, hl with | [_], _ => rfl) (fun fa cdv A outer sh H E hr oo => (pss_one (ps_ret (pe_lc (own := [("row", 1)]) rfl sc_Reducer_joins.nd (pi_dyn K (k_fld K (pv 0))) (blkOk_by (N := N_Reducer_joins) (sc := defScope st_Reducer_joins) (by decide +kernel)) (fun _ _ _ _ _ => (pg_name (i := 1) sc_Reducer_joins.nd rfl (Or.inl rfl))) (fun _ _ _ _ _ => pts_nil) (fun _ _ _ _ _ => (pe_callTy (k_list K) (by rfl) z_list (by decide +kernel) (pa_cons (pv 1) pa_nil))))))) (fun io F0 H0 E tb => show SndS _ _ (b_Reducer_joins) from (s_retF (n_lc (i_val (s_fld k_Reducer n_Reducer_join_rows (SndE.w s_var))) g_name s_yes (s_fz (n_listOf (SndE.w s_var))))))
/-! ### Reducer_answers -/
abbrev st_Reducer_answers : Stmt := inClass (topS 27) 6
abbrev N_Reducer_answers : List Str := ["self"]
theorem sc_Reducer_answers : FnScope N_Reducer_answers ["self"] (defScope st_Reducer_answers) := ⟨rfl, rfl, rfl, by decide +kernel, rfl, by decide +kernel, by decide +kernel⟩
theorem ok_Reducer_answers (S : StoodM K "Reducer" "answers" "Reducer.answers" st_Reducer_answers) (z_list : mg "list" = none) (k_Reducer : Cls K (He.ga K "Reducer")) (n_Reducer_answer_names : NoAttr K (He.ga K "Reducer") "answer_names") : MetF PP w K mg base 1 "Reducer" "answers" "Reducer.answers" st_Reducer_answers ["self"] (liftF K 1 f_Reducer_answers) := by
  rw [f_Reducer_answers_eq]
  exact S.okF sc_Reducer_answers 0 rfl b_Reducer_answers (fun _ _ _ _ _ _ us hl => match us, hl with | [_], _ => rfl) (fun fa cdv A outer sh H E hr oo => (pss_one (ps_ret (pe_callTy (k_list K) (by rfl) z_list (by decide +kernel) (pa_cons (k_fld K (pv 0)) pa_nil))))) (fun io F0 H0 E tb => show SndS _ _ (b_Reducer_answers) from (s_retF (n_listOf (SndE.w (s_fld k_Reducer n_Reducer_answer_names (SndE.w s_var))))))
/-! ### Reducer_walked -/
abbrev st_Reducer_walked : Stmt := inClass (topS 27) 12
abbrev N_Reducer_walked : List Str := ["self", "state", "word", "letter"]
theorem sc_Reducer_walked : FnScope N_Reducer_walked ["self", "state", "word"] (defScope st_Reducer_walked) := ⟨rfl, rfl, rfl, by decide +kernel, rfl, by decide +kernel, by decide +kernel⟩
theorem ok_Reducer_walked (S : StoodM K "Reducer" "walked" "Reducer.walked" st_Reducer_walked) (k_Reducer : Cls K (He.ga K "Reducer")) (n_Reducer_step_rows : NoAttr K (He.ga K "Reducer") "step_rows") (n_Reducer_letters : NoAttr K (He.ga K "Reducer") "letters") : MetF PP w K mg base 1 "Reducer" "walked" "Reducer.walked" st_Reducer_walked ["self", "state", "word"] (liftF K 3 f_Reducer_walked) := by
  rw [f_Reducer_walked_eq]
  exact S.okF sc_Reducer_walked 1 rfl b_Reducer_walked (fun _ _ _ _ _ _ us hl => match us, hl with | [_, _, _], _ => rfl) (fun fa cdv A outer sh H E hr oo => (pss_cons (ps_for oo.po rfl (pi_dyn K (pv 2)) (pg_name (i := 3) sc_Reducer_walked.nd rfl (Or.inl rfl)) (pss_one (ps_set (i := 1) sc_Reducer_walked.nd rfl (.inl rfl) (pe_ix (k_ix K) (pe_ix (k_ix K) (k_fld K (pv 0)) (pv 1) (fun _ _ => rfl)) (k_sindex (k_fld K (pv 0)) (pv 3)) (fun _ _ => rfl)))))
    (pss_one (ps_ret (pv 1))))) (fun io F0 H0 E tb => show SndS _ _ (b_Reducer_walked) from (s_seq (s_for (i_val s_var) h_name (s_set (s_op r_ix (s_op r_ix (s_fld k_Reducer n_Reducer_step_rows (SndE.w s_var)) s_var) (s_sidx (s_fld k_Reducer n_Reducer_letters (SndE.w s_var)) s_var))))
    (s_ret s_var)))
/-! ### InvalidWord_init -/
abbrev st_InvalidWord_init : Stmt := inClass (topS 11) 0
abbrev N_InvalidWord_init : List Str := ["self", "given"]
theorem sc_InvalidWord_init : FnScope N_InvalidWord_init ["self", "given"] (defScope st_InvalidWord_init) := ⟨rfl, rfl, rfl, by decide +kernel, rfl, by decide +kernel, by decide +kernel⟩
theorem ok_InvalidWord_init (S : StoodX K mg PP "JoinError" "InvalidWord" st_InvalidWord_init ["given"]) : HasX PP w K mg base "InvalidWord" 2 [73, 110, 118, 97, 108, 105, 100, 87, 111, 114, 100] ["given"] :=
  S.ok1 sc_InvalidWord_init (fun _ _ _ _ _ _ us hl => match us, hl with | [_, _], _ => rfl) (fun fa cdv A outer sh H E hr => (pss_cons (ps_expr (pe_xi S hr (by rfl) rfl (pv 0))) (pss_one (ps_ost (pv 0) (pv 1)))))
/-! ### Reducer_check_word -/
abbrev st_Reducer_check_word : Stmt := inClass (topS 27) 8
abbrev N_Reducer_check_word : List Str := ["self", "word", "letter"]
theorem sc_Reducer_check_word : FnScope N_Reducer_check_word ["self", "word"] (defScope st_Reducer_check_word) := ⟨rfl, rfl, rfl, by decide +kernel, rfl, by decide +kernel, by decide +kernel⟩
theorem ok_Reducer_check_word (S : StoodM K "Reducer" "check_word" "Reducer.check_word" st_Reducer_check_word) (G_is_word : HasF PP w K mg base "is_word" st_is_word 1 ["value"] (liftF K 1 f_is_word)) (z_all : mg "all" = none) (k_Reducer : Cls K (He.ga K "Reducer")) (n_Reducer_letters : NoAttr K (He.ga K "Reducer") "letters") (H_InvalidWord : HasX PP w K mg base "InvalidWord" 2 [73, 110, 118, 97, 108, 105, 100, 87, 111, 114, 100] ["given"]) : MetF PP w K mg base 4 "Reducer" "check_word" "Reducer.check_word" st_Reducer_check_word ["self", "word"] (liftF K 2 f_Reducer_check_word) := by
  rw [f_Reducer_check_word_eq]
  exact S.okF sc_Reducer_check_word 1 rfl b_Reducer_check_word (fun _ _ _ _ _ _ us hl => match us, hl with | [_, _], _ => rfl) (fun fa cdv A outer sh H E hr oo => (pss_one (ps_if (PW.pt (pw_or (pt_not (pt_val (pe_hasF G_is_word (hr.mono (by decide)) oo.px (by rfl) (pa_cons (pv 1) pa_nil)))) (pw_or1 (pt_not (pt_val (pe_callB (k_all K rfl) (by rfl) z_all (by decide +kernel) (pa_cons (pe_lc (own := [("letter", 2)]) rfl sc_Reducer_check_word.nd (pi_dyn K (pv 1)) (blkOk_by (N := N_Reducer_check_word) (sc := defScope st_Reducer_check_word) (by decide +kernel)) (fun _ _ _ _ _ => (pg_name (i := 2) sc_Reducer_check_word.nd rfl (Or.inl rfl))) (fun _ _ _ _ _ => pts_nil) (fun _ _ _ _ _ => (pe_cmpR (o_in K) (pv 2) (k_fld K (pv 0)) (by rfl)))) pa_nil))))))) (pss_one (ps_raiseX K H_InvalidWord (hr.mono (by decide)) rfl oo (by rfl) (pa_cons (pv 1) pa_nil))) pss_nil))) (fun io F0 H0 E tb => show SndS _ _ (b_Reducer_check_word) from (s_ifS (s_tor (s_tnot (s_tB (s_call (js := [none]) (ag_cons s_var ag_nil)))) (s_tnot (s_tB (s_cb1 r_all (SndE.w (s_fz (n_lc (i_val s_var) g_name s_yes (s_op r_in s_var (s_fld k_Reducer n_Reducer_letters (SndE.w s_var)))))))))) (s_raiseX (s_cons s_var s_nil)) s_next))
/-! ### InvalidState_init -/
abbrev st_InvalidState_init : Stmt := inClass (topS 10) 0
abbrev N_InvalidState_init : List Str := ["self", "given"]
theorem sc_InvalidState_init : FnScope N_InvalidState_init ["self", "given"] (defScope st_InvalidState_init) := ⟨rfl, rfl, rfl, by decide +kernel, rfl, by decide +kernel, by decide +kernel⟩
theorem ok_InvalidState_init (S : StoodX K mg PP "JoinError" "InvalidState" st_InvalidState_init ["given"]) : HasX PP w K mg base "InvalidState" 2 [73, 110, 118, 97, 108, 105, 100, 83, 116, 97, 116, 101] ["given"] :=
  S.ok1 sc_InvalidState_init (fun _ _ _ _ _ _ us hl => match us, hl with | [_, _], _ => rfl) (fun fa cdv A outer sh H E hr => (pss_cons (ps_expr (pe_xi S hr (by rfl) rfl (pv 0))) (pss_one (ps_ost (pv 0) (pv 1)))))
/-! ### Reducer_check_state -/
abbrev st_Reducer_check_state : Stmt := inClass (topS 27) 7
abbrev N_Reducer_check_state : List Str := ["self", "state"]
theorem sc_Reducer_check_state : FnScope N_Reducer_check_state ["self", "state"] (defScope st_Reducer_check_state) := ⟨rfl, rfl, rfl, by decide +kernel, rfl, by decide +kernel, by decide +kernel⟩
theorem ok_Reducer_check_state (S : StoodM K "Reducer" "check_state" "Reducer.check_state" st_Reducer_check_state) (G_is_between : HasF PP w K mg base "is_between" st_is_between 2 ["value", "low", "high"] (liftF K 3 f_is_between)) (k_Reducer : Cls K (He.ga K "Reducer")) (n_Reducer_size : NoAttr K (He.ga K "Reducer") "size") (H_InvalidState : HasX PP w K mg base "InvalidState" 2 [73, 110, 118, 97, 108, 105, 100, 83, 116, 97, 116, 101] ["given"]) : MetF PP w K mg base 4 "Reducer" "check_state" "Reducer.check_state" st_Reducer_check_state ["self", "state"] (liftF K 2 f_Reducer_check_state) := by
  rw [f_Reducer_check_state_eq]
  exact S.okF sc_Reducer_check_state 0 rfl b_Reducer_check_state (fun _ _ _ _ _ _ us hl => match us, hl with | [_, _], _ => rfl) (fun fa cdv A outer sh H E hr oo => (pss_one (ps_if (pt_not (pt_val (pe_hasF G_is_between (hr.mono (by decide)) oo.px (by rfl) (pa_cons (pv 1) (pa_cons pe_int (pa_cons (pe_op o_sub (k_fld K (pv 0)) pe_int) pa_nil)))))) (pss_one (ps_raiseX K H_InvalidState (hr.mono (by decide)) rfl oo (by rfl) (pa_cons (pv 1) pa_nil))) pss_nil))) (fun io F0 H0 E tb => show SndS _ _ (b_Reducer_check_state) from (s_ifS (s_tnot (s_tB (s_call (js := [none, none, none]) (ag_cons s_var (ag_cons s_int (ag_cons (s_op r_sub (s_fld k_Reducer n_Reducer_size (SndE.w s_var)) s_int) ag_nil)))))) (s_raiseX (s_cons s_var s_nil)) s_next))
/-! ### Reducer_fold -/
abbrev st_Reducer_fold : Stmt := inClass (topS 27) 13
abbrev N_Reducer_fold : List Str := ["self", "word", "state"]
theorem sc_Reducer_fold : FnScope N_Reducer_fold ["self", "word", "state"] (defScope st_Reducer_fold) := ⟨rfl, rfl, rfl, by decide +kernel, rfl, by decide +kernel, by decide +kernel⟩
def kw_Reducer_fold (K : PySem.W.Frag) : List (Str × V) := [("state", .non)]
theorem ok_Reducer_fold (S : StoodMK K "Reducer" "fold" "Reducer.fold" st_Reducer_fold (kw_Reducer_fold K)) (M_Reducer_check_word : MetF PP w K mg base 4 "Reducer" "check_word" "Reducer.check_word" st_Reducer_check_word ["self", "word"] (liftF K 2 f_Reducer_check_word)) (M_Reducer_walked : MetF PP w K mg base 1 "Reducer" "walked" "Reducer.walked" st_Reducer_walked ["self", "state", "word"] (liftF K 3 f_Reducer_walked)) (k_Reducer : Cls K (He.ga K "Reducer")) (n_Reducer_begin : NoAttr K (He.ga K "Reducer") "begin") (M_Reducer_check_state : MetF PP w K mg base 4 "Reducer" "check_state" "Reducer.check_state" st_Reducer_check_state ["self", "state"] (liftF K 2 f_Reducer_check_state)) : MetK PP w K mg base 5 "Reducer" "fold" "Reducer.fold" st_Reducer_fold (kw_Reducer_fold K) ["self", "word", "state"] (liftF K 3 f_Reducer_fold) := by
  rw [f_Reducer_fold_eq]
  exact S.okF sc_Reducer_fold 0 rfl b_Reducer_fold (fun fa cdv A outer sh H E hr oo => (pss_cons (ps_expr (pe_metF K M_Reducer_check_word hr (by decide) oo.px (pv 0) (pa_cons (pv 1) pa_nil)))
    (pss_cons (ps_if (pt_cmpR op_isN1 (pv 2) pe_non (nomark _)) (pss_one (ps_ret (pe_metF K M_Reducer_walked hr (by decide) oo.px (pv 0) (pa_cons (k_fld K (pv 0)) (pa_cons (pv 1) pa_nil))))) pss_nil)
    (pss_cons (ps_expr (pe_metF K M_Reducer_check_state hr (by decide) oo.px (pv 0) (pa_cons (pv 2) pa_nil)))
    (pss_one (ps_ret (pe_metF K M_Reducer_walked hr (by decide) oo.px (pv 0) (pa_cons (pv 2) (pa_cons (pv 1) pa_nil))))))))) (fun io F0 H0 E tb => show SndS _ _ (b_Reducer_fold) from (s_seq (s_drop (s_meth (js := [none]) s_var (ag_cons s_var ag_nil)))
    (s_seq (s_ifS (s_test (s_op r_is s_var s_non)) (s_ret (s_meth (js := [none, none]) s_var (ag_cons (s_fld k_Reducer n_Reducer_begin (SndE.w s_var)) (ag_cons s_var ag_nil)))) s_next)
    (s_seq (s_drop (s_meth (js := [none]) s_var (ag_cons s_var ag_nil)))
    (s_ret (s_meth (js := [none, none]) s_var (ag_cons s_var (ag_cons s_var ag_nil))))))))
/-! ### Reducer_told -/
abbrev st_Reducer_told : Stmt := inClass (topS 27) 14
abbrev N_Reducer_told : List Str := ["self", "word"]
theorem sc_Reducer_told : FnScope N_Reducer_told ["self", "word"] (defScope st_Reducer_told) := ⟨rfl, rfl, rfl, by decide +kernel, rfl, by decide +kernel, by decide +kernel⟩
theorem ok_Reducer_told (S : StoodM K "Reducer" "told" "Reducer.told" st_Reducer_told) (k_Reducer : Cls K (He.ga K "Reducer")) (n_Reducer_answer_names : NoAttr K (He.ga K "Reducer") "answer_names") (M_Reducer_fold : MetK PP w K mg base 5 "Reducer" "fold" "Reducer.fold" st_Reducer_fold (kw_Reducer_fold K) ["self", "word", "state"] (liftF K 3 f_Reducer_fold)) : MetF PP w K mg base 6 "Reducer" "told" "Reducer.told" st_Reducer_told ["self", "word"] (liftF K 2 f_Reducer_told) := by
  rw [f_Reducer_told_eq]
  exact S.okF sc_Reducer_told 0 rfl b_Reducer_told (fun _ _ _ _ _ _ us hl => match us, hl with | [_, _], _ => rfl) (fun fa cdv A outer sh H E hr oo => (pss_one (ps_ret (pe_ix (k_ix K) (k_fld K (pv 0)) (pe_metN1 K M_Reducer_fold hr (by decide) oo.px (pv 0) (pa_cons (pv 1) pa_nil) 1 [("state", .non)] (fun {α} (us mv ws : List α) => (us ++ (pick 0 mv))) (by unfold kw_Reducer_fold; simp) (by unfold kw_Reducer_fold; simp) (fun r1 r2 r3 => (Vals.append r1 (pick_vals 0 r2))) (fun D doc pm an cdv ct us mv ws h1 h2 h3 => match us, mv, ws, h1, h2, h3 with | [_, _], [_], [], _, _, _ => ⟨_, _, _, _, _, _, rfl, rfl, rfl⟩)) (fun _ _ => rfl))))) (fun io F0 H0 E tb => show SndS _ _ (b_Reducer_told) from (s_ret (s_op r_ix (s_fld k_Reducer n_Reducer_answer_names (SndE.w s_var)) (s_methN (gP := (fun us ws => (us ++ (pick 0 ([.non] : List P))))) (fun _ _ r1 r2 => (reps_app r1 (pick_reps 0 (show Reps _ ([.non] : List P) _ _ from ⟨_, _, rfl, rfl, rfl⟩)))) s_var (s_cons s_var s_nil) s_nil))))
/-! ### Reducer_call -/
abbrev st_Reducer_call : Stmt := inClass (topS 27) 18
abbrev N_Reducer_call : List Str := ["self", "word"]
theorem sc_Reducer_call : FnScope N_Reducer_call ["self", "word"] (defScope st_Reducer_call) := ⟨rfl, rfl, rfl, by decide +kernel, rfl, by decide +kernel, by decide +kernel⟩
theorem ok_Reducer_call (S : StoodM K "Reducer" "__call__" "Reducer.__call__" st_Reducer_call) (M_Reducer_told : MetF PP w K mg base 6 "Reducer" "told" "Reducer.told" st_Reducer_told ["self", "word"] (liftF K 2 f_Reducer_told)) : MetF PP w K mg base 7 "Reducer" "__call__" "Reducer.__call__" st_Reducer_call ["self", "word"] (liftF K 2 f_Reducer_call) := by
  rw [f_Reducer_call_eq]
  exact S.okF sc_Reducer_call 0 rfl b_Reducer_call (fun _ _ _ _ _ _ us hl => match us, hl with | [_, _], _ => rfl) (fun fa cdv A outer sh H E hr oo => (pss_one (ps_ret (pe_metF K M_Reducer_told hr (by decide) oo.px (pv 0) (pa_cons (pv 1) pa_nil))))) (fun io F0 H0 E tb => show SndS _ _ (b_Reducer_call) from (s_ret (s_meth (js := [none]) s_var (ag_cons s_var ag_nil))))
/-! ### Reducer_content -/
abbrev st_Reducer_content : Stmt := inClass (topS 27) 17
abbrev N_Reducer_content : List Str := ["self"]
theorem sc_Reducer_content : FnScope N_Reducer_content ["self"] (defScope st_Reducer_content) := ⟨rfl, rfl, rfl, by decide +kernel, rfl, by decide +kernel, by decide +kernel⟩
theorem ok_Reducer_content (S : StoodM K "Reducer" "content" "Reducer.content" st_Reducer_content) (k_Reducer : Cls K (He.ga K "Reducer")) (n_Reducer_letters : NoAttr K (He.ga K "Reducer") "letters") (n_Reducer_begin : NoAttr K (He.ga K "Reducer") "begin") (n_Reducer_step_rows : NoAttr K (He.ga K "Reducer") "step_rows") (n_Reducer_join_rows : NoAttr K (He.ga K "Reducer") "join_rows") (n_Reducer_answer_names : NoAttr K (He.ga K "Reducer") "answer_names") : MetF PP w K mg base 1 "Reducer" "content" "Reducer.content" st_Reducer_content ["self"] (liftF K 1 f_Reducer_content) := by
  rw [f_Reducer_content_eq]
  exact S.okF sc_Reducer_content 0 rfl b_Reducer_content (fun _ _ _ _ _ _ us hl => match us, hl with | [_], _ => rfl) (fun fa cdv A outer sh H E hr oo => (pss_one (ps_ret (pe_tup (pa_cons (k_fld K (pv 0)) (pa_cons (k_fld K (pv 0)) (pa_cons (k_fld K (pv 0)) (pa_cons (k_fld K (pv 0)) (pa_cons (k_fld K (pv 0)) pa_nil))))))))) (fun io F0 H0 E tb => show SndS _ _ (b_Reducer_content) from (s_ret (s_tup (s_cons (s_fld k_Reducer n_Reducer_letters (SndE.w s_var)) (s_cons (s_fld k_Reducer n_Reducer_begin (SndE.w s_var)) (s_cons (s_fld k_Reducer n_Reducer_step_rows (SndE.w s_var)) (s_cons (s_fld k_Reducer n_Reducer_join_rows (SndE.w s_var)) (s_cons (s_fld k_Reducer n_Reducer_answer_names (SndE.w s_var)) s_nil))))))))
/-! ### Reducer_eq -/
abbrev st_Reducer_eq : Stmt := inClass (topS 27) 19
abbrev N_Reducer_eq : List Str := ["self", "other"]
theorem sc_Reducer_eq : FnScope N_Reducer_eq ["self", "other"] (defScope st_Reducer_eq) := ⟨rfl, rfl, rfl, by decide +kernel, rfl, by decide +kernel, by decide +kernel⟩
theorem ok_Reducer_eq (S : StoodM K "Reducer" "__eq__" "Reducer.__eq__" st_Reducer_eq) (z_isinstance : mg "isinstance" = none) (ic_Reducer : C8.InsC K (He.ga K "Reducer")) (gr_Reducer : mg "Reducer" = some (.ref (He.ga K "Reducer"))) (M_Reducer_content : MetF PP w K mg base 1 "Reducer" "content" "Reducer.content" st_Reducer_content ["self"] (liftF K 1 f_Reducer_content)) : MetF PP w K mg base 2 "Reducer" "__eq__" "Reducer.__eq__" st_Reducer_eq ["self", "other"] (liftF K 2 f_Reducer_eq) := by
  rw [f_Reducer_eq_eq]
  exact S.okF sc_Reducer_eq 0 rfl b_Reducer_eq (fun _ _ _ _ _ _ us hl => match us, hl with | [_, _], _ => rfl) (fun fa cdv A outer sh H E hr oo => (pss_one (ps_ret (pe_and (pe_callB (k_isC K ic_Reducer) (by rfl) z_isinstance (by decide +kernel) (pa_cons (pv 1) (pa_cons (pe_clsN (by rfl) gr_Reducer) pa_nil))) (pe_one (pe_cmpR (o_eq K hr.units) (pe_metF0 K M_Reducer_content hr (by decide) oo.px (pv 0)) (pe_metF0 K M_Reducer_content hr (by decide) oo.px (pv 1)) (nomark _))))))) (fun io F0 H0 E tb => show SndS _ _ (b_Reducer_eq) from (s_ret (s_and (s_isC s_var) (s_op r_eq (s_meth (js := []) s_var ag_nil) (s_meth (js := []) s_var ag_nil)))))
/-! ### law_pull -/
abbrev st_law_pull : Stmt := topS 31
abbrev N_law_pull : List Str := ["_law_bag", "_law_sides", "_law_seed", "_law_cell", "_law_digit"]
theorem sc_law_pull : FnScope N_law_pull ["_law_bag", "_law_sides"] (defScope st_law_pull) := ⟨rfl, rfl, rfl, by decide +kernel, rfl, by decide +kernel, by decide +kernel⟩
theorem ok_law_pull (S : Stood K mg "_law_pull" st_law_pull) (z_len : mg "len" = none) (z_int : mg "int" = none) : HasF PP w K mg base "_law_pull" st_law_pull 1 ["_law_bag", "_law_sides"] (liftF K 2 f_law_pull) := by
  rw [f_law_pull_eq]
  exact FX.Stood.okF S sc_law_pull 3 rfl b_law_pull (fun _ _ _ _ _ _ us hl => match us, hl with | [_, _], _ => rfl) (fun fa cdv A outer sh H E hr oo => (pss_cons (ps_asg (pe_op (o_add K) (pe_ix (k_ix K) (pv 0) pe_int (fun _ _ => rfl)) pe_int) (pg_sub (pv 0) pe_int set_list))
    (pss_cons (ps_if (PW.pt (pw_and (pt_cmpR (o_eq K hr.units) (pe_ix (k_ix K) (pv 0) pe_int (fun _ _ => rfl)) pe_int (nomark _)) (pw_and1 (pt_cmpR o_lt (pe_ix (k_ix K) (pv 0) pe_int (fun _ _ => rfl)) (pe_callB (k_len K) (by rfl) z_len (by decide +kernel) (pa_cons (pe_ix (k_ix K) (pv 0) pe_int (fun _ _ => rfl)) pa_nil)) (nomark _))))) (pss_cons (ps_asg (pe_tup (pa_cons (pe_ix (k_ix K) (pe_ix (k_ix K) (pv 0) pe_int (fun _ _ => rfl)) (pe_ix (k_ix K) (pv 0) pe_int (fun _ _ => rfl)) (fun _ _ => rfl)) (pa_cons (pe_op (o_add K) (pe_ix (k_ix K) (pv 0) pe_int (fun _ _ => rfl)) pe_int) pa_nil))) (k_tup K (n := 2) rfl (pgs_cons (pg_name (i := 3) sc_law_pull.nd rfl (Or.inl rfl)) (pgs_cons (pg_sub (pv 0) pe_int set_list) pgs_nil))))
    (pss_cons (ps_if (pt_cmpR o_ge (pv 3) (pe_op o_pow pe_int pe_int) (nomark _)) (pss_one (ps_asg (pv 3) (pg_sub (pv 0) pe_int set_list))) pss_nil)
    (pss_one (ps_asg (pe_op o_mod (pe_callTy k_int (by rfl) z_int (by decide +kernel) (pa_cons (pe_op (o_add K) (pe_op (o_add K) (pe_op o_mul (pe_ix (k_ix K) (pv 0) pe_int (fun _ _ => rfl)) pe_int) (pe_op o_mul (pe_op o_mod (pe_callTy k_int (by rfl) z_int (by decide +kernel) (pa_cons (pv 3) pa_nil)) pe_int) pe_int)) pe_int) pa_nil)) pe_int) (pg_sub (pv 0) pe_int set_list))))) pss_nil)
    (pss_cons (ps_if (pt_cmpR o_gt (pe_ix (k_ix K) (pv 0) pe_int (fun _ _ => rfl)) pe_int (nomark _)) (pss_cons (ps_asg (pe_tup (pa_cons (pe_op o_mod (pe_callTy k_int (by rfl) z_int (by decide +kernel) (pa_cons (pe_ix (k_ix K) (pv 0) pe_int (fun _ _ => rfl)) pa_nil)) (pv 1)) (pa_cons (pe_op o_fdiv (pe_ix (k_ix K) (pv 0) pe_int (fun _ _ => rfl)) (pv 1)) pa_nil))) (k_tup K (n := 2) rfl (pgs_cons (pg_name (i := 4) sc_law_pull.nd rfl (Or.inl rfl)) (pgs_cons (pg_sub (pv 0) pe_int set_list) pgs_nil))))
    (pss_one (ps_ret (pv 4)))) pss_nil)
    (pss_cons (ps_set (i := 2) sc_law_pull.nd rfl (.inl rfl) (pe_ix (k_ix K) (pv 0) pe_int (fun _ _ => rfl)))
    (pss_cons (ps_asg (pe_op o_mod (pe_callTy k_int (by rfl) z_int (by decide +kernel) (pa_cons (pe_op (o_add K) (pe_op (o_add K) (pe_op (o_add K) (pe_op o_pow (pv 2) pe_int) (pe_op o_mul (pv 2) pe_int)) (pe_op o_mul (pe_ix (k_ix K) (pv 0) pe_int (fun _ _ => rfl)) pe_int)) pe_int) pa_nil)) pe_int) (pg_sub (pv 0) pe_int set_list))
    (pss_one (ps_ret (pe_op o_mod (pe_callTy k_int (by rfl) z_int (by decide +kernel) (pa_cons (pe_op (o_add K) (pe_op o_fdiv (pe_ix (k_ix K) (pv 0) pe_int (fun _ _ => rfl)) pe_int) (pe_op o_mul (pe_op o_mod (pe_callTy k_int (by rfl) z_int (by decide +kernel) (pa_cons (pe_ix (k_ix K) (pv 0) pe_int (fun _ _ => rfl)) pa_nil)) pe_int) pe_int)) pa_nil)) (pv 1)))))))))) (fun io F0 H0 E tb => show SndS _ _ (b_law_pull) from (s_seq (s_asg (s_op r_add (s_opL r_ix s_int) s_int) (h_ix s_int))
    (s_seq (s_ifS (s_tand (s_test (s_op r_eq (s_opL r_ix s_int) s_int)) (s_test (s_op r_lt (s_opL r_ix s_int) (s_cb1 r_len (SndE.w (s_opL r_ix s_int)))))) (s_seq (s_asg (s_tup (s_cons (s_op r_ix (s_opL r_ix s_int) (s_opL r_ix s_int)) (s_cons (s_op r_add (s_opL r_ix s_int) s_int) s_nil))) (h_tup (hs_cons h_name (hs_cons (h_ix s_int) hs_nil))))
    (s_seq (s_ifS (s_test (s_op r_ge s_var (s_op r_pow s_int s_int))) (s_asg s_var (h_ix s_int)) s_next)
    (s_asg (s_op r_mod (s_cb1 r_intOf (SndE.w (s_op r_add (s_op r_add (s_op r_mul (s_opL r_ix s_int) s_int) (s_op r_mul (s_op r_mod (s_cb1 r_intOf (SndE.w s_var)) s_int) s_int)) s_int))) s_int) (h_ix s_int)))) s_next)
    (s_seq (s_ifS (s_test (s_op r_gt (s_opL r_ix s_int) s_int)) (s_seq (s_asg (s_tup (s_cons (s_op r_mod (s_cb1 r_intOf (SndE.w (s_opL r_ix s_int))) s_var) (s_cons (s_op r_fdiv (s_opL r_ix s_int) s_var) s_nil))) (h_tup (hs_cons h_name (hs_cons (h_ix s_int) hs_nil))))
    (s_ret s_var)) s_next)
    (s_seq (s_set (s_opL r_ix s_int))
    (s_seq (s_asg (s_op r_mod (s_cb1 r_intOf (SndE.w (s_op r_add (s_op r_add (s_op r_add (s_op r_pow s_var s_int) (s_op r_mul s_var s_int)) (s_op r_mul (s_opL r_ix s_int) s_int)) s_int))) s_int) (h_ix s_int))
    (s_ret (s_op r_mod (s_cb1 r_intOf (SndE.w (s_op r_add (s_op r_fdiv (s_opL r_ix s_int) s_int) (s_op r_mul (s_op r_mod (s_cb1 r_intOf (SndE.w (s_opL r_ix s_int))) s_int) s_int)))) s_var))))))))
/-! ### law_letters -/
abbrev st_law_letters : Stmt := topS 36
abbrev N_law_letters : List Str := ["_law_bag", "_law_many_z", "_law_k", "_law_left", "_law_found"]
theorem sc_law_letters : FnScope N_law_letters ["_law_bag", "_law_many_z"] (defScope st_law_letters) := ⟨rfl, rfl, rfl, by decide +kernel, rfl, by decide +kernel, by decide +kernel⟩
theorem ok_law_letters (S : Stood K mg "_law_letters" st_law_letters) (z_list : mg "list" = none) (z_range : mg "range" = none) (G_law_pull : HasF PP w K mg base "_law_pull" st_law_pull 1 ["_law_bag", "_law_sides"] (liftF K 2 f_law_pull)) (z_len : mg "len" = none) : HasF PP w K mg base "_law_letters" st_law_letters 2 ["_law_bag", "_law_many_z"] (liftF K 2 f_law_letters) := by
  rw [f_law_letters_eq]
  exact FX.Stood.okF S sc_law_letters 3 rfl b_law_letters (fun _ _ _ _ _ _ us hl => match us, hl with | [_, _], _ => rfl) (fun fa cdv A outer sh H E hr oo => (pss_cons (ps_par (i := 3) (j := 4) rfl sc_law_letters.nd rfl rfl (by decide) rfl rfl (pa_cons (pe_callTy (cr_listStr rfl) (by rfl) z_list (by decide +kernel) (pa_cons pe_str pa_nil)) (pa_cons pe_str pa_nil)) (by rfl))
    (pss_cons (ps_for oo.po rfl (pi_range1 (by rfl) z_range (pa_cons (pv 1) pa_nil)) (pg_name (i := 2) sc_law_letters.nd rfl (Or.inl rfl)) (pss_one (ps_set (i := 4) sc_law_letters.nd rfl (.inl rfl) (pe_op (o_add K) (pv 4) (k_popAt K (pv 3) (pa_cons (pe_hasF G_law_pull (hr.mono (by decide)) oo.px (by rfl) (pa_cons (pv 0) (pa_cons (pe_callB (k_len K) (by rfl) z_len (by decide +kernel) (pa_cons (pv 3) pa_nil)) pa_nil))) pa_nil))))))
    (pss_one (ps_ret (pv 4)))))) (fun io F0 H0 E tb => show SndS _ _ (b_law_letters) from (s_seq (s_parOwn (n_listStr (s_str [97, 98, 99, 100, 101, 102, 103, 104, 105, 106, 107, 108, 109, 110, 111, 112, 113, 114, 115, 116, 117, 118, 119, 120, 121, 122])) (s_str []))
    (s_seq (s_for (i_rg1 s_var) h_name (s_set (s_op r_add s_var (s_popAt (s_call (js := [some 0, none]) (ag_ref (ag_cons (s_cb1 r_len w_var) ag_nil)))))))
    (s_ret s_var))))
/-! ### law_draws -/
abbrev st_law_draws : Stmt := topS 30
abbrev N_law_draws : List Str := ["_law_script", "_law_seed", "_law_cell"]
theorem sc_law_draws : FnScope N_law_draws ["_law_script"] (defScope st_law_draws) := ⟨rfl, rfl, rfl, by decide +kernel, rfl, by decide +kernel, by decide +kernel⟩
theorem ok_law_draws (S : Stood K mg "_law_draws" st_law_draws) (z_int : mg "int" = none) (z_list : mg "list" = none) : HasF PP w K mg base "_law_draws" st_law_draws 1 ["_law_script"] (liftN K 1 f_law_draws) := by
  rw [f_law_draws_eq]
  exact FX.Stood.okN S sc_law_draws 2 rfl b_law_draws (fun _ _ _ _ _ _ us hl => match us, hl with | [_], _ => rfl) (fun fa cdv A outer sh H E hr oo => (pss_cons (ps_set (i := 1) sc_law_draws.nd rfl (.inl rfl) pe_int)
    (pss_cons (ps_for oo.po rfl (pi_dyn K (pe_slice (o_slice K) (pv 0) po_none (po_some pe_int))) (pg_name (i := 2) sc_law_draws.nd rfl (Or.inl rfl)) (pss_one (ps_set (i := 1) sc_law_draws.nd rfl (.inl rfl) (pe_op o_mod (pe_callTy k_int (by rfl) z_int (by decide +kernel) (pa_cons (pe_op (o_add K) (pe_op (o_add K) (pe_op o_mul (pv 1) pe_int) (pe_op o_mod (pe_callTy k_int (by rfl) z_int (by decide +kernel) (pa_cons (pv 2) pa_nil)) pe_int)) pe_int) pa_nil)) pe_int))))
    (pss_one (ps_ret (pe_lst (pa_cons (pe_callTy (k_list K) (by rfl) z_list (by decide +kernel) (pa_cons (pe_slice (o_slice K) (pv 0) po_none (po_some pe_int)) pa_nil)) (pa_cons pe_int (pa_cons pe_int (pa_cons (pv 1) (pa_cons pe_int pa_nil))))))))))) (fun io F0 H0 E tb => show SndS _ _ (b_law_draws) from (s_seq (s_set s_int)
    (s_seq (s_for (i_val (s_slice r_cut s_var s_no (s_part s_int))) h_name (s_set (s_op r_mod (s_cb1 r_intOf (SndE.w (s_op r_add (s_op r_add (s_op r_mul s_var s_int) (s_op r_mod (s_cb1 r_intOf (SndE.w s_var)) s_int)) s_int))) s_int)))
    (s_retF (n_lst (s_cons (s_fz (n_listOf (SndE.w (s_slice r_cut s_var s_no (s_part s_int))))) (s_cons s_int (s_cons s_int (s_cons s_var (s_cons s_int s_nil))))))))))
/-! ### law_like -/
abbrev st_law_like : Stmt := topS 33
abbrev N_law_like : List Str := ["_law_a", "_law_b", "_law_same", "_law_c", "_law_d"]
theorem sc_law_like : FnScope N_law_like ["_law_a", "_law_b"] (defScope st_law_like) := ⟨rfl, rfl, rfl, by decide +kernel, rfl, by decide +kernel, by decide +kernel⟩
theorem okr_law_like (S : Stood K mg "_law_like" st_law_like) (z_isinstance : mg "isinstance" = none) (z_list : mg "list" = none) (z_tuple : mg "tuple" = none) (z_len : mg "len" = none) (z_all : mg "all" = none) (z_zip : mg "zip" = none) (z_bool : mg "bool" = none) (z_int : mg "int" = none) (z_str : mg "str" = none) : ∀ d : Nat, HasF PP w K mg base "_law_like" st_law_like (d + 1) ["_law_a", "_law_b"] (liftF K 2 (f_law_like d))
  | 0 => by rw [f_law_like_0]; exact FX.Stood.okBad S (fun _ _ _ _ _ _ us hl => match us, hl with | [_, _], _ => rfl)
  | d + 1 => by
    have ih := okr_law_like S z_isinstance z_list z_tuple z_len z_all z_zip z_bool z_int z_str d
    rw [f_law_like_s]
    exact (FX.Stood.okF S (k := d + 1) sc_law_like 3 rfl (b_law_like (f_law_like d)) (fun _ _ _ _ _ _ us hl => match us, hl with | [_, _], _ => rfl) (fun fa cdv A outer sh H E hr oo => (pss_cons (ps_if (pt_val (pe_callB (k_isiT K) (by rfl) z_isinstance (by decide +kernel) (pa_cons (pv 1) (pa_cons (pe_tup (pa_cons (pe_bltn (v := .ty "list") (by rfl) z_list (by decide +kernel) rfl) (pa_cons (pe_bltn (v := .ty "tuple") (by rfl) z_tuple (by decide +kernel) rfl) pa_nil))) pa_nil)))) (pss_cons (ps_set (i := 2) sc_law_like.nd rfl (.inl rfl) (pe_and (pe_cmpR (o_eq K hr.units) (pe_callB (k_isi K) (by rfl) z_isinstance (by decide +kernel) (pa_cons (pv 0) (pa_cons (pe_bltn (v := .ty "list") (by rfl) z_list (by decide +kernel) rfl) pa_nil))) (pe_callB (k_isi K) (by rfl) z_isinstance (by decide +kernel) (pa_cons (pv 1) (pa_cons (pe_bltn (v := .ty "list") (by rfl) z_list (by decide +kernel) rfl) pa_nil))) (nomark _)) (pe_one (pe_cmpR (o_eq K hr.units) (pe_callB (k_isi K) (by rfl) z_isinstance (by decide +kernel) (pa_cons (pv 0) (pa_cons (pe_bltn (v := .ty "tuple") (by rfl) z_tuple (by decide +kernel) rfl) pa_nil))) (pe_callB (k_isi K) (by rfl) z_isinstance (by decide +kernel) (pa_cons (pv 1) (pa_cons (pe_bltn (v := .ty "tuple") (by rfl) z_tuple (by decide +kernel) rfl) pa_nil))) (nomark _)))))
    (pss_one (ps_ret (k_andT K (pv 2) (k_andT K (pe_cmpR (o_eq K hr.units) (pe_callB (k_len K) (by rfl) z_len (by decide +kernel) (pa_cons (pv 0) pa_nil)) (pe_callB (k_len K) (by rfl) z_len (by decide +kernel) (pa_cons (pv 1) pa_nil)) (nomark _)) (pe_one (pe_callB (k_all K rfl) (by rfl) z_all (by decide +kernel) (pa_cons (pe_lc (own := [("_law_c", 3), ("_law_d", 4)]) rfl sc_law_like.nd (i_zip K (by rfl) z_zip (pa_cons (pv 0) (pa_cons (pv 1) pa_nil))) (blkOk_by (N := N_law_like) (sc := defScope st_law_like) (by decide +kernel)) (fun _ _ _ _ _ => (k_tup K (n := 2) rfl (pgs_cons (pg_name (i := 3) sc_law_like.nd rfl (Or.inl rfl)) (pgs_cons (pg_name (i := 4) sc_law_like.nd rfl (Or.inl rfl)) pgs_nil)))) (fun _ _ _ _ _ => pts_nil) (fun _ _ _ _ _ => (pe_hasF ih (hr.mono (by omega)) passE0 (by rfl) (pa_cons (pv 3) (pa_cons (pv 4) pa_nil))))) pa_nil)))))))) pss_nil)
    (pss_cons (ps_if (PW.pt (pw_or (pt_cmpR op_isN1 (pv 0) pe_non (nomark _)) (pw_or (pt_cmpR op_isN1 (pv 1) pe_non (nomark _)) (pw_or1 (pt_cmpR (o_ne K hr.units) (pe_callB (k_isi K) (by rfl) z_isinstance (by decide +kernel) (pa_cons (pv 0) (pa_cons (pe_bltn (v := .ty "bool") (by rfl) z_bool (by decide +kernel) rfl) pa_nil))) (pe_callB (k_isi K) (by rfl) z_isinstance (by decide +kernel) (pa_cons (pv 1) (pa_cons (pe_bltn (v := .ty "bool") (by rfl) z_bool (by decide +kernel) rfl) pa_nil))) (nomark _)))))) (pss_one (ps_ret (pe_and (pe_cmpR op_isN1 (pv 0) pe_non (nomark _)) (pe_one (pe_cmpR op_isN1 (pv 1) pe_non (nomark _)))))) pss_nil)
    (pss_one (ps_ret (pe_and (pe_cmpR (o_eq K hr.units) (pe_callB (k_isi K) (by rfl) z_isinstance (by decide +kernel) (pa_cons (pv 0) (pa_cons (pe_bltn (v := .ty "int") (by rfl) z_int (by decide +kernel) rfl) pa_nil))) (pe_callB (k_isi K) (by rfl) z_isinstance (by decide +kernel) (pa_cons (pv 1) (pa_cons (pe_bltn (v := .ty "int") (by rfl) z_int (by decide +kernel) rfl) pa_nil))) (nomark _)) (pe_and (pe_cmpR (o_eq K hr.units) (pe_callB (k_isi K) (by rfl) z_isinstance (by decide +kernel) (pa_cons (pv 0) (pa_cons (pe_bltn (v := .ty "str") (by rfl) z_str (by decide +kernel) rfl) pa_nil))) (pe_callB (k_isi K) (by rfl) z_isinstance (by decide +kernel) (pa_cons (pv 1) (pa_cons (pe_bltn (v := .ty "str") (by rfl) z_str (by decide +kernel) rfl) pa_nil))) (nomark _)) (pe_one (pe_cmpR (o_eq K hr.units) (pv 0) (pv 1) (nomark _)))))))))) (fun io F0 H0 E tb => show SndS _ _ (b_law_like (f_law_like d)) from (s_seq (s_ifS (s_tB (s_isi2 s_var)) (s_seq (s_set (s_and (s_op r_eq (s_cb r_isi (s_cons s_var (s_cons (s_c (.ty "list") fun _ => rfl) s_nil))) (s_cb r_isi (s_cons s_var (s_cons (s_c (.ty "list") fun _ => rfl) s_nil)))) (s_op r_eq (s_cb r_isi (s_cons s_var (s_cons (s_c (.ty "tuple") fun _ => rfl) s_nil))) (s_cb r_isi (s_cons s_var (s_cons (s_c (.ty "tuple") fun _ => rfl) s_nil))))))
    (s_ret (s_andT s_var (s_andT (s_op r_eq (s_cb1 r_len (SndE.w s_var)) (s_cb1 r_len (SndE.w s_var))) (s_cb1 r_all (SndE.w (s_fz (n_lc (i_zi s_var s_var) (g_tup (gs_cons g_name (gs_cons g_name gs_nil))) s_yes (s_call (js := [none, none]) (ag_cons s_var (ag_cons s_var ag_nil))))))))))) s_next)
    (s_seq (s_ifS (s_tor (s_test (s_op r_is s_var s_non)) (s_tor (s_test (s_op r_is s_var s_non)) (s_test (s_op r_ne (s_cb r_isi (s_cons s_var (s_cons (s_c (.ty "bool") fun _ => rfl) s_nil))) (s_cb r_isi (s_cons s_var (s_cons (s_c (.ty "bool") fun _ => rfl) s_nil))))))) (s_ret (s_and (s_op r_is s_var s_non) (s_op r_is s_var s_non))) s_next)
    (s_ret (s_and (s_op r_eq (s_cb r_isi (s_cons s_var (s_cons (s_c (.ty "int") fun _ => rfl) s_nil))) (s_cb r_isi (s_cons s_var (s_cons (s_c (.ty "int") fun _ => rfl) s_nil)))) (s_and (s_op r_eq (s_cb r_isi (s_cons s_var (s_cons (s_c (.ty "str") fun _ => rfl) s_nil))) (s_cb r_isi (s_cons s_var (s_cons (s_c (.ty "str") fun _ => rfl) s_nil)))) (s_op r_eq s_var s_var))))))))
theorem ok_law_like (S : Stood K mg "_law_like" st_law_like) (z_isinstance : mg "isinstance" = none) (z_list : mg "list" = none) (z_tuple : mg "tuple" = none) (z_len : mg "len" = none) (z_all : mg "all" = none) (z_zip : mg "zip" = none) (z_bool : mg "bool" = none) (z_int : mg "int" = none) (z_str : mg "str" = none) : HasF PP w K mg base "_law_like" st_law_like 7 ["_law_a", "_law_b"] (liftF K 2 (f_law_like 6)) := okr_law_like S z_isinstance z_list z_tuple z_len z_all z_zip z_bool z_int z_str 6
/-! ### law_any -/
abbrev st_law_any : Stmt := topS 32
abbrev N_law_any : List Str := ["_law_bag", "_law_rows"]
theorem sc_law_any : FnScope N_law_any ["_law_bag", "_law_rows"] (defScope st_law_any) := ⟨rfl, rfl, rfl, by decide +kernel, rfl, by decide +kernel, by decide +kernel⟩
theorem ok_law_any (S : Stood K mg "_law_any" st_law_any) (G_law_pull : HasF PP w K mg base "_law_pull" st_law_pull 1 ["_law_bag", "_law_sides"] (liftF K 2 f_law_pull)) (z_len : mg "len" = none) : HasF PP w K mg base "_law_any" st_law_any 2 ["_law_bag", "_law_rows"] (liftF K 2 f_law_any) := by
  rw [f_law_any_eq]
  exact FX.Stood.okF S sc_law_any 0 rfl b_law_any (fun _ _ _ _ _ _ us hl => match us, hl with | [_, _], _ => rfl) (fun fa cdv A outer sh H E hr oo => (pss_one (ps_ret (pe_ix (k_ix K) (pv 1) (pe_hasF G_law_pull (hr.mono (by decide)) oo.px (by rfl) (pa_cons (pv 0) (pa_cons (pe_callB (k_len K) (by rfl) z_len (by decide +kernel) (pa_cons (pv 1) pa_nil)) pa_nil))) (fun _ _ => rfl))))) (fun io F0 H0 E tb => show SndS _ _ (b_law_any) from (s_ret (s_op r_ix s_var (s_call (js := [some 0, none]) (ag_ref (ag_cons (s_cb1 r_len (SndE.w s_var)) ag_nil))))))
/-! ### law_word -/
abbrev st_law_word : Stmt := topS 37
abbrev N_law_word : List Str := ["_law_bag", "_law_letters_z", "_law_most", "_law_k"]
theorem sc_law_word : FnScope N_law_word ["_law_bag", "_law_letters_z", "_law_most"] (defScope st_law_word) := ⟨rfl, rfl, rfl, by decide +kernel, rfl, by decide +kernel, by decide +kernel⟩
theorem ok_law_word (S : Stood K mg "_law_word" st_law_word) (z_range : mg "range" = none) (G_law_pull : HasF PP w K mg base "_law_pull" st_law_pull 1 ["_law_bag", "_law_sides"] (liftF K 2 f_law_pull)) (G_law_any : HasF PP w K mg base "_law_any" st_law_any 2 ["_law_bag", "_law_rows"] (liftF K 2 f_law_any)) : HasF PP w K mg base "_law_word" st_law_word 3 ["_law_bag", "_law_letters_z", "_law_most"] (liftF K 3 f_law_word) := by
  rw [f_law_word_eq]
  exact FX.Stood.okF S sc_law_word 1 rfl b_law_word (fun _ _ _ _ _ _ us hl => match us, hl with | [_, _, _], _ => rfl) (fun fa cdv A outer sh H E hr oo => (pss_one (ps_ret (k_join1 K pe_str (pe_lc (own := [("_law_k", 3)]) rfl sc_law_word.nd (pi_range1 (by rfl) z_range (pa_cons (pe_hasF G_law_pull (hr.mono (by decide)) oo.px (by rfl) (pa_cons (pv 0) (pa_cons (pe_op (o_add K) (pv 2) pe_int) pa_nil))) pa_nil)) (blkOk_by (N := N_law_word) (sc := defScope st_law_word) (by decide +kernel)) (fun _ _ _ _ _ => (pg_name (i := 3) sc_law_word.nd rfl (Or.inl rfl))) (fun _ _ _ _ _ => pts_nil) (fun _ _ _ _ _ => (pe_hasF G_law_any (hr.mono (by decide)) passE0 (by rfl) (pa_cons (pv 0) (pa_cons (pv 1) pa_nil))))))))) (fun io F0 H0 E tb => show SndS _ _ (b_law_word) from (s_ret (s_join (s_str []) (SndE.w (s_fz (n_lc (i_rg1 (s_call (js := [some 0, none]) (ag_ref (ag_cons (s_op r_add s_var s_int) ag_nil)))) g_name s_yes (s_call (js := [some 0, none]) (ag_ref (ag_cons s_var ag_nil)))))) (fun _ _ _ h => by cases h; exact ⟨_, rfl⟩))))
/-! ### law_field -/
abbrev st_law_field : Stmt := topS 29
abbrev N_law_field : List Str := ["_law_e"]
theorem sc_law_field : FnScope N_law_field ["_law_e"] (defScope st_law_field) := ⟨rfl, rfl, rfl, by decide +kernel, rfl, by decide +kernel, by decide +kernel⟩
theorem ok_law_field (S : Stood K mg "_law_field" st_law_field) : HasFld PP w K mg base "_law_field" 1 "_law_e" (spFld K js_law rows_law cats_law) :=
  FX.Stood.okFld S sc_law_field (by decide +kernel) (fun _ _ _ _ _ _ us hl => match us, hl with | [_], _ => rfl) (fun g cdv A outer s H p cls d hr hz hf => (pss_cons (ps_if (pt_cmpR (o_in K) (pe_xfd (List.mem_singleton_self _) hz hf (pv 0)) (pe_tup (pa_cons pe_str (pa_cons pe_str pa_nil))) (by rfl)) (pss_one (ps_ret (pe_tup (pa_cons (pe_xfd (List.mem_singleton_self _) hz hf (pv 0)) pa_nil)))) pss_nil) (pss_one (ps_ret (pe_tup pa_nil)))))
/-! ### law_try -/
abbrev st_law_try : Stmt := topS 34
abbrev N_law_try : List Str := ["_law_ask", "_law_e"]
theorem sc_law_try : FnScope N_law_try ["_law_ask"] (defScope st_law_try) := ⟨rfl, rfl, rfl, by decide +kernel, rfl, by decide +kernel, by decide +kernel⟩
theorem ok_law_try (S : Stood K mg "_law_try" st_law_try) (FD : HasFld PP w K mg base "_law_field" 1 "_law_e" (spFld K js_law rows_law cats_law)) (g1 : mg "JoinError" = some (.ref (He.ga K "JoinError"))) (g2 : mg "Missing" = some (.ref (He.ga K "Missing"))) (g3 : mg "NothingLeft" = some (.ref (He.ga K "NothingLeft"))) (hc : ∀ c ∈ cats_law, CatX K js_law (attrsOf rows_law) c) : HasF PP w K mg base "_law_try" st_law_try 31 ["_law_ask"] (spTry PP w K mg base 30 rows_law cats_law) := by
  obtain ⟨g, fd, gl, hk, b, F⟩ := FD.ex
  exact FX.Stood.okTry S sc_law_try hc (fun _ _ _ _ _ _ us hl => match us, hl with | [_], _ => rfl) (fun fa cdv A outer sh H E hr => let XX : Cx := cxOf (L2N.CX PP w) PP w K mg base ["_law_ask", "_law_e"] "_law_try" (defScope st_law_try) fa cdv A outer sh H E; pss_one (ps_try_as3 (i := 1) rfl rfl sc_law_try.nd rfl rfl (by rfl) (by rfl) (by rfl) g1 g2 g3 (by decide) (by decide) (by decide) (fun W pn xe tk _ => pss_one (ps_ret (pe_tup (pa_cons pe_str (pa_cons (pe_ask hr tk rfl (.inl rfl)) pa_nil))))) (fun a oe cls d pn hz hf => (pss_one (ps_ret (pe_op (o_add K) (pe_tup (pa_cons (pe_xfd (X := XX.suite a ((a, oe) :: pn)) (List.mem_cons_self ..) hz.zc hf (pv 1)) pa_nil)) (pe_fld (X := XX) F (room_suite (X := XX) (hr.mono (by decide))) (hot_suite (X := XX) hz hf) hz hf (by rfl) gl hk b (pv 1))))))))
/-! ### law_tries -/
abbrev st_law_tries : Stmt := topS 35
abbrev N_law_tries : List Str := ["_law_asks", "_law_ask"]
theorem sc_law_tries : FnScope N_law_tries ["_law_asks"] (defScope st_law_tries) := ⟨rfl, rfl, rfl, by decide +kernel, rfl, by decide +kernel, by decide +kernel⟩
theorem ok_law_tries (S : Stood K mg "_law_tries" st_law_tries) (T_law_try : HasF PP w K mg base "_law_try" st_law_try 31 ["_law_ask"] (spTry PP w K mg base 30 rows_law cats_law)) : HasF PP w K mg base "_law_tries" st_law_tries 32 ["_law_asks"] (spTries PP w K mg base 30 rows_law cats_law) :=
  FX.Stood.okTries S sc_law_tries (fun _ _ _ _ _ _ us hl => match us, hl with | [_], _ => rfl) (fun fa cdv A outer sh H E hr => (pss_one (ps_ret (pe_lc (own := [("_law_ask", 1)]) rfl sc_law_tries.nd (pi_dyn K (pv 0)) (blkOk_by (N := N_law_tries) (sc := defScope st_law_tries) (by decide +kernel)) (fun _ _ _ _ _ => (pg_name (i := 1) sc_law_tries.nd rfl (Or.inl rfl))) (fun _ _ _ _ _ => pts_nil) (fun _ _ _ _ _ => (pe_hasF T_law_try (hr.mono (by decide)) passE0 (by rfl) (pa_cons (pv 1) pa_nil)))))))
/-! ### law -/
abbrev st_law : Stmt := topS 38
abbrev N_law : List Str := ["_law_script", "_law_bag", "_law_made", "_law_abc", "_law_joins", "_law_found", "_law_word_here", "_law_asks", "_law_letters_z", "_law_many_z", "_law_bad", "_law_odd", "_law_one", "_law_other"]
theorem sc_law : FnScope N_law ["_law_script"] (defScope st_law) := ⟨rfl, rfl, rfl, by decide +kernel, rfl, by decide +kernel, by decide +kernel⟩
def lams_law : List LamD := lamsD [(ec (sx (sb st_law 10)) 0), (ec (sx (sb st_law 10)) 1)]
theorem ok_law (S : Stood K mg "law" st_law) (G_law_draws : HasF PP w K mg base "_law_draws" st_law_draws 1 ["_law_script"] (liftN K 1 f_law_draws)) (G_law_letters : HasF PP w K mg base "_law_letters" st_law_letters 2 ["_law_bag", "_law_many_z"] (liftF K 2 f_law_letters)) (G_law_pull : HasF PP w K mg base "_law_pull" st_law_pull 1 ["_law_bag", "_law_sides"] (liftF K 2 f_law_pull)) (SM_Reducer_counter : SmF PP w K mg base 7 "Reducer" "counter" "Reducer.counter" st_Reducer_counter ["letters", "many"] (liftF K 2 f_Reducer_counter)) (z_range : mg "range" = none) (z_int : mg "int" = none) (k_Reducer : Cls K (He.ga K "Reducer")) (n_Reducer_letters : NoAttr K (He.ga K "Reducer") "letters") (n_Reducer_begin : NoAttr K (He.ga K "Reducer") "begin") (M_Reducer_steps : MetF PP w K mg base 1 "Reducer" "steps" "Reducer.steps" st_Reducer_steps ["self"] (liftF K 1 f_Reducer_steps)) (M_Reducer_joins : MetF PP w K mg base 1 "Reducer" "joins" "Reducer.joins" st_Reducer_joins ["self"] (liftF K 1 f_Reducer_joins)) (M_Reducer_answers : MetF PP w K mg base 1 "Reducer" "answers" "Reducer.answers" st_Reducer_answers ["self"] (liftF K 1 f_Reducer_answers)) (G_law_like : HasF PP w K mg base "_law_like" st_law_like 7 ["_law_a", "_law_b"] (liftF K 2 (f_law_like 6))) (z_len : mg "len" = none) (z_list : mg "list" = none) (G_law_word : HasF PP w K mg base "_law_word" st_law_word 3 ["_law_bag", "_law_letters_z", "_law_most"] (liftF K 3 f_law_word)) (M_Reducer_call : MetF PP w K mg base 7 "Reducer" "__call__" "Reducer.__call__" st_Reducer_call ["self", "word"] (liftF K 2 f_Reducer_call)) (M_Reducer_eq : MetF PP w K mg base 2 "Reducer" "__eq__" "Reducer.__eq__" st_Reducer_eq ["self", "other"] (liftF K 2 f_Reducer_eq)) (G_law_any : HasF PP w K mg base "_law_any" st_law_any 2 ["_law_bag", "_law_rows"] (liftF K 2 f_law_any)) {cLT pLT : Addr} (LT : LawTab K mg base "law" cLT pLT) (LD : LamsOk "law" st_law lams_law) (T_law_tries : HasF PP w K mg base "_law_tries" st_law_tries 32 ["_law_asks"] (spTries PP w K mg base 30 rows_law cats_law)) : HasF PP w K mg base "law" st_law 33 ["_law_script"] (liftFn K 1 f_law) := by
  rw [f_law_eq]
  exact FX.Stood.okFLn S LT sc_law 13 rfl b_law (fun _ _ _ _ _ _ us hl => match us, hl with | [_], _ => rfl) (fun fa A outer sh H E fid hfid hr oo => (pss_cons (ps_set (i := 1) sc_law.nd rfl (.inl rfl) (pe_hasF G_law_draws (hr.mono (by decide)) oo.px (by rfl) (pa_cons (pv 0) pa_nil)))
    (pss_cons (ps_asg (pe_tup (pa_cons (pe_hasF G_law_letters (hr.mono (by decide)) oo.px (by rfl) (pa_cons (pv 1) (pa_cons (pe_op (o_add K) pe_int (pe_hasF G_law_pull (hr.mono (by decide)) oo.px (by rfl) (pa_cons (pv 1) (pa_cons pe_int pa_nil)))) pa_nil))) (pa_cons (pe_op (o_add K) pe_int (pe_hasF G_law_pull (hr.mono (by decide)) oo.px (by rfl) (pa_cons (pv 1) (pa_cons pe_int pa_nil)))) pa_nil))) (k_tup K (n := 2) rfl (pgs_cons (pg_name (i := 8) sc_law.nd rfl (Or.inr rfl)) (pgs_cons (pg_name (i := 9) sc_law.nd rfl (Or.inr rfl)) pgs_nil))))
    (pss_cons (ps_set (i := 2) sc_law.nd rfl (.inl rfl) (pe_smF SM_Reducer_counter (hr.mono (by decide)) oo.px (by rfl) (pa_cons (pv 8) (pa_cons (pv 9) pa_nil))))
    (pss_cons (ps_set (i := 3) sc_law.nd rfl (.inl rfl) pe_str)
    (pss_cons (ps_setLc (i := 4) (own := [("_law_one", 12)]) rfl sc_law.nd rfl rfl (sw_true rfl rfl rfl (by decide +kernel)) (pi_range1 (by rfl) z_range (pa_cons (pv 9) pa_nil)) (blkOk_by (N := N_law) (sc := defScope st_law) (by decide +kernel)) (fun _ _ _ _ _ => (pg_name (i := 12) sc_law.nd rfl (Or.inr rfl))) (fun _ _ _ _ _ => pts_nil) (fun _ _ _ _ _ => (pe_lc (own := [("_law_other", 13)]) rfl sc_law.nd (pi_range1 (by rfl) z_range (pa_cons (pv 9) pa_nil)) (show L2.BlkOk N_law _ _ _ from blkOk_by (by kernel_rfl)) (fun _ _ _ _ _ => (pg_name (i := 13) sc_law.nd rfl (Or.inl rfl))) (fun _ _ _ _ _ => pts_nil) (fun _ _ _ _ _ => (pe_op o_mod (pe_callTy k_int (by rfl) z_int (by decide +kernel) (pa_cons (pe_op (o_add K) (pv 12) (pv 13)) pa_nil)) (pv 9))))))
    (pss_cons (ps_set (i := 5) sc_law.nd rfl (.inl rfl) (pe_lst (pa_cons (k_fld K (pv 2)) (pa_cons (k_fld K (pv 2)) (pa_cons (pe_metF0 K M_Reducer_steps hr (by decide) oo.px (pv 2)) (pa_cons (pe_metF0 K M_Reducer_joins hr (by decide) oo.px (pv 2)) (pa_cons (pe_metF0 K M_Reducer_answers hr (by decide) oo.px (pv 2)) pa_nil)))))))
    (pss_cons (ps_if (pt_not (k_truth K (pe_hasF G_law_like (hr.mono (by decide)) oo.px (by rfl) (pa_cons (pv 5) (pa_cons (pe_lst (pa_cons (pv 8) (pa_cons pe_int (pa_cons (pe_lc (own := [("_law_one", 12)]) rfl sc_law.nd (pi_range1 (by rfl) z_range (pa_cons (pv 9) pa_nil)) (blkOk_by (N := N_law) (sc := defScope st_law) (by decide +kernel)) (fun _ _ _ _ _ => (pg_name (i := 12) sc_law.nd rfl (Or.inl rfl))) (fun _ _ _ _ _ => pts_nil) (fun _ _ _ _ _ => (pe_op o_mul (pe_lst (pa_cons (pe_op o_mod (pe_callTy k_int (by rfl) z_int (by decide +kernel) (pa_cons (pe_op (o_add K) (pv 12) pe_int) pa_nil)) (pv 9)) pa_nil)) (pe_callB (k_len K) (by rfl) z_len (by decide +kernel) (pa_cons (pv 8) pa_nil))))) (pa_cons (pv 4) (pa_cons (pe_callTy (cr_listStr rfl) (by rfl) z_list (by decide +kernel) (pa_cons (pe_slice (o_slice K) (pv 3) po_none (po_some (pv 9))) pa_nil)) pa_nil)))))) pa_nil))) (by intro _; rfl))) (pss_one (ps_ret pe_bl)) pss_nil)
    (pss_cons (ps_set (i := 6) sc_law.nd rfl (.inl rfl) (pe_hasF G_law_word (hr.mono (by decide)) oo.px (by rfl) (pa_cons (pv 1) (pa_cons (pv 8) (pa_cons pe_int pa_nil)))))
    (pss_cons (ps_if (pt_not (k_truth K (pe_hasF G_law_like (hr.mono (by decide)) oo.px (by rfl) (pa_cons (pe_lst (pa_cons (pe_callI K M_Reducer_call hr (by decide) oo.px (pv 2) (pa_cons (pv 6) pa_nil)) (pa_cons (pe_cmpR (op_eqOwn K M_Reducer_eq hr (by decide) oo.px) (pe_smFK0 (ks := ["many", "letters"]) (g := fun {α} (us ws : List α) => pick 1 ws ++ (pick 0 ws)) SM_Reducer_counter (hr.mono (by decide)) oo.px (by rfl) (pk_cons (pv 9) (pk_cons (pv 8) pk_nil)) ⟨fun _ _ _ _ _ _ us ws hu hw => match us, ws, hu, hw with | [], [_, _], _, _ => rfl, fun r1 r2 => (Vals.append (pick_vals 1 r2) (pick_vals 0 r2))⟩) (pv 2) (nomark _)) pa_nil))) (pa_cons (pe_lst (pa_cons (pe_ix (k_ix K) (pv 3) (pe_op o_mod (pe_callTy k_int (by rfl) z_int (by decide +kernel) (pa_cons (pe_callB (k_len K) (by rfl) z_len (by decide +kernel) (pa_cons (pv 6) pa_nil)) pa_nil)) (pv 9)) (fun _ _ => rfl)) (pa_cons pe_bl pa_nil))) pa_nil))) (by intro _; rfl))) (pss_one (ps_ret pe_bl)) pss_nil)
    (pss_cons (ps_asg (pe_tup (pa_cons (pe_hasF G_law_any (hr.mono (by decide)) oo.px (by rfl) (pa_cons (pv 1) (pa_cons (pe_lst (pa_cons pe_int (pa_cons pe_int (pa_cons (pe_op o_sub pe_int pe_int) (pa_cons pe_bl (pa_cons pe_non (pa_cons pe_str pa_nil))))))) pa_nil))) (pa_cons (pe_hasF G_law_any (hr.mono (by decide)) oo.px (by rfl) (pa_cons (pv 1) (pa_cons (pe_lst (pa_cons pe_str (pa_cons pe_non (pa_cons pe_int (pa_cons (pe_op (o_add K) (pv 8) (pv 8)) (pa_cons pe_str (pa_cons pe_str pa_nil))))))) pa_nil))) pa_nil))) (k_tup K (n := 2) rfl (pgs_cons (pg_name (i := 10) sc_law.nd rfl (Or.inr rfl)) (pgs_cons (pg_name (i := 11) sc_law.nd rfl (Or.inr rfl)) pgs_nil))))
    (pss_cons (ps_set (i := 7) sc_law.nd rfl (.inl rfl) (pe_lst (pa_cons (pe_fn (n := fid) (k := 0) (N := N_law) LT LD rfl rfl rfl (congrArg (fun z => PySem.cellsFrom (z + 1) (defScope st_law).names []) hfid) (show LY.lamTB N_law (defScope st_law) _ = true by decide +kernel) rfl (.no rfl)) (pa_cons (pe_fn (n := fid) (k := 1) (N := N_law) LT LD rfl rfl rfl (congrArg (fun z => PySem.cellsFrom (z + 1) (defScope st_law).names []) hfid) (show LY.lamTB N_law (defScope st_law) _ = true by decide +kernel) rfl (.one _ 0 rfl pe_int)) pa_nil))))
    (pss_one (ps_ret (pe_hasF G_law_like (hr.mono (by decide)) oo.px (by rfl) (pa_cons (pe_tries PP w K mg base N_law (defScope st_law) T_law_tries LD (congrArg (fun z => PySem.cellsFrom (z + 1) (defScope st_law).names []) hfid) (hr.mono (by decide)) (fun _ => rfl) (by rfl) (LBs.cons (lb_of (k := 0) "law.<locals>." LD rfl rfl (show LY.lamTB N_law (defScope st_law) _ = true by decide +kernel) (fun _ => bindL0 rfl (fun _ _ _ _ _ => rfl)) (fun cl f c' A outer s H E hr oo => (pe_smF SM_Reducer_counter (hr.mono (by decide)) oo.px (by rfl) (pa_cons (pv 11) (pa_cons (pv 10) pa_nil))))) (LBs.cons (lb_of (k := 1) "law.<locals>." LD rfl rfl (show LY.lamTB N_law (defScope st_law) _ = true by decide +kernel) (fun _ => bindL1 (y := "_law_a") rfl rfl (fun _ _ _ _ _ _ => ⟨_, rfl, fun _ => rfl⟩)) (fun cl f c' A outer s H E hr oo => (pe_smF SM_Reducer_counter (hr.mono (by decide)) oo.px (by rfl) (pa_cons (pv 8) (pa_cons (pv 10) pa_nil))))) LBs.nil)) (pv 7)) (pa_cons (pe_lst (pa_cons (pe_tup (pa_cons pe_str (pa_cons (pv 11) pa_nil))) (pa_cons (pe_tup (pa_cons pe_str (pa_cons (pv 10) pa_nil))) pa_nil))) pa_nil))))))))))))))))) (fun fid io F0 H0 E tb => show SndS _ _ (b_law fid) from (s_seq (s_own (i := 1) (n_call (js := [none]) (ag_cons s_var ag_nil)))
    (s_seq (s_asg (s_tup (s_cons (s_call (js := [some 1, none]) (ag_ref (ag_cons (s_op r_add s_int (s_call (js := [some 1, none]) (ag_ref (ag_cons s_int ag_nil)))) ag_nil))) (s_cons (s_op r_add s_int (s_call (js := [some 1, none]) (ag_ref (ag_cons s_int ag_nil)))) s_nil))) (h_tup (hs_cons h_name (hs_cons h_name hs_nil))))
    (s_seq (s_set (s_call (js := [none, none]) (ag_cons s_var (ag_cons s_var ag_nil))))
    (s_seq (s_set (s_str [97, 98, 99, 100, 101, 102, 103, 104, 105, 106, 107, 108, 109, 110, 111, 112]))
    (s_seq (s_set (s_fz (n_lc (i_rg1 s_var) g_name s_yes (s_fz (n_lc (i_rg1 s_var) g_name s_yes (s_op r_mod (s_cb1 r_intOf (SndE.w (s_op r_add s_var s_var))) s_var))))))
    (s_seq (s_set (s_fz (n_lst (s_cons (s_fld k_Reducer n_Reducer_letters (SndE.w s_var)) (s_cons (s_fld k_Reducer n_Reducer_begin (SndE.w s_var)) (s_cons (s_meth (js := []) s_var ag_nil) (s_cons (s_meth (js := []) s_var ag_nil) (s_cons (s_meth (js := []) s_var ag_nil) s_nil))))))))
    (s_seq (s_ifS (s_tnot (s_tru (SndE.w (s_call (js := [none, none]) (ag_cons s_var (ag_cons (s_fz (n_lst (s_cons s_var (s_cons s_int (s_cons (s_fz (n_lc (i_rg1 s_var) g_name s_yes (s_op r_mul (s_fz (n_lst (s_cons (s_op r_mod (s_cb1 r_intOf (SndE.w (s_op r_add s_var s_int))) s_var) s_nil))) (s_cb1 r_len (SndE.w s_var))))) (s_cons s_var (s_cons (s_fz (n_listStr (s_slice r_cut s_var s_no (s_part s_var)))) s_nil))))))) ag_nil)))))) (s_ret s_bl) s_next)
    (s_seq (s_set (s_call (js := [some 1, none, none]) (ag_ref (ag_cons s_var (ag_cons s_int ag_nil)))))
    (s_seq (s_ifS (s_tnot (s_tru (SndE.w (s_call (js := [none, none]) (ag_cons (s_fz (n_lst (s_cons (s_callI (js := [none]) s_var (ag_cons s_var ag_nil)) (s_cons (s_own2 (s_callK (gP := (fun us ws => pick 1 ws ++ (pick 0 ws))) (fun _ _ r1 r2 => (reps_app (pick_reps 1 r2) (pick_reps 0 r2))) s_nil (s_cons s_var (s_cons s_var s_nil))) s_var) s_nil)))) (ag_cons (s_fz (n_lst (s_cons (s_op r_ix s_var (s_op r_mod (s_cb1 r_intOf (SndE.w (s_cb1 r_len (SndE.w s_var)))) s_var)) (s_cons s_bl s_nil)))) ag_nil)))))) (s_ret s_bl) s_next)
    (s_seq (s_asg (s_tup (s_cons (s_call (js := [some 1, none]) (ag_ref (ag_cons (s_fz (n_lst (s_cons s_int (s_cons s_int (s_cons (s_op r_sub s_int s_int) (s_cons s_bl (s_cons s_non (s_cons (s_str [51]) s_nil)))))))) ag_nil))) (s_cons (s_call (js := [some 1, none]) (ag_ref (ag_cons (s_fz (n_lst (s_cons (s_str []) (s_cons s_non (s_cons s_int (s_cons (s_op r_add s_var s_var) (s_cons (s_str [97, 98, 99, 100, 101, 102]) (s_cons (s_str [65]) s_nil)))))))) ag_nil))) s_nil))) (h_tup (hs_cons h_name (hs_cons h_name hs_nil))))
    (s_seq (s_set (s_fz (n_lst (s_cons s_fn (s_cons s_fn s_nil)))))
    (s_ret (s_call (js := [none, none]) (ag_cons (s_tries s_var (SBs.cons (fun W => (s_call (js := [none, none]) (ag_cons s_var (ag_cons s_var ag_nil)))) (SBs.cons (fun W => (s_call (js := [none, none]) (ag_cons s_var (ag_cons s_var ag_nil)))) SBs.nil))) (ag_cons (s_fz (n_lst (s_cons (s_tup (s_cons (s_str [73, 110, 118, 97, 108, 105, 100, 76, 101, 116, 116, 101, 114, 115]) (s_cons s_var s_nil))) (s_cons (s_tup (s_cons (s_str [73, 110, 118, 97, 108, 105, 100, 83, 105, 122, 101]) (s_cons s_var s_nil))) s_nil)))) ag_nil))))))))))))))))
end
abbrev sp_law [Tbs] (K : PySem.W.Frag) : Sp := FX.sp_lawG K
/-! ### the head -/
def d_is_word : He.DefD := ⟨("is_word", none), "is_word", "is_word", defArgs st_is_word, defBody st_is_word, defScope st_is_word, [], []⟩
def d_are_letters : He.DefD := ⟨("are_letters", none), "are_letters", "are_letters", defArgs st_are_letters, defBody st_are_letters, defScope st_are_letters, [], []⟩
def d_first_wrong : He.DefD := ⟨("first_wrong", none), "first_wrong", "first_wrong", defArgs st_first_wrong, defBody st_first_wrong, defScope st_first_wrong, [], []⟩
def d_is_number : He.DefD := ⟨("is_number", none), "is_number", "is_number", defArgs st_is_number, defBody st_is_number, defScope st_is_number, [], []⟩
def d_is_between : He.DefD := ⟨("is_between", none), "is_between", "is_between", defArgs st_is_between, defBody st_is_between, defScope st_is_between, [], []⟩
def d_is_row : He.DefD := ⟨("is_row", none), "is_row", "is_row", defArgs st_is_row, defBody st_is_row, defScope st_is_row, [], []⟩
def d_is_name : He.DefD := ⟨("is_name", none), "is_name", "is_name", defArgs st_is_name, defBody st_is_name, defScope st_is_name, [], []⟩
def d_InvalidAnswers_init : He.DefD := ⟨("InvalidAnswers", some "__init__"), "__init__", "InvalidAnswers.__init__", defArgs st_InvalidAnswers_init, defBody st_InvalidAnswers_init, defScope st_InvalidAnswers_init, [], []⟩
def d_check_answers : He.DefD := ⟨("check_answers", none), "check_answers", "check_answers", defArgs st_check_answers, defBody st_check_answers, defScope st_check_answers, [], []⟩
def d_InvalidLetters_init : He.DefD := ⟨("InvalidLetters", some "__init__"), "__init__", "InvalidLetters.__init__", defArgs st_InvalidLetters_init, defBody st_InvalidLetters_init, defScope st_InvalidLetters_init, [], []⟩
def d_InvalidSize_init : He.DefD := ⟨("InvalidSize", some "__init__"), "__init__", "InvalidSize.__init__", defArgs st_InvalidSize_init, defBody st_InvalidSize_init, defScope st_InvalidSize_init, [], []⟩
def d_InvalidSteps_init : He.DefD := ⟨("InvalidSteps", some "__init__"), "__init__", "InvalidSteps.__init__", defArgs st_InvalidSteps_init, defBody st_InvalidSteps_init, defScope st_InvalidSteps_init, [], []⟩
def d_InvalidJoins_init : He.DefD := ⟨("InvalidJoins", some "__init__"), "__init__", "InvalidJoins.__init__", defArgs st_InvalidJoins_init, defBody st_InvalidJoins_init, defScope st_InvalidJoins_init, [], []⟩
def d_InvalidBegin_init : He.DefD := ⟨("InvalidBegin", some "__init__"), "__init__", "InvalidBegin.__init__", defArgs st_InvalidBegin_init, defBody st_InvalidBegin_init, defScope st_InvalidBegin_init, [], []⟩
def d_Reducer_init : He.DefD := ⟨("Reducer", some "__init__"), "__init__", "Reducer" ++ ".__init__", defArgs st_Reducer_init, defBody st_Reducer_init, defScope st_Reducer_init, [], []⟩
def d_Reducer_counter : He.DefD := ⟨("Reducer", some "counter"), "counter", "Reducer.counter", defArgs st_Reducer_counter, defBody st_Reducer_counter, defScope st_Reducer_counter, [], []⟩
def d_Reducer_steps : He.DefD := ⟨("Reducer", some "steps"), "steps", "Reducer.steps", defArgs st_Reducer_steps, defBody st_Reducer_steps, defScope st_Reducer_steps, [], []⟩
def d_Reducer_joins : He.DefD := ⟨("Reducer", some "joins"), "joins", "Reducer.joins", defArgs st_Reducer_joins, defBody st_Reducer_joins, defScope st_Reducer_joins, [], []⟩
def d_Reducer_answers : He.DefD := ⟨("Reducer", some "answers"), "answers", "Reducer.answers", defArgs st_Reducer_answers, defBody st_Reducer_answers, defScope st_Reducer_answers, [], []⟩
def d_Reducer_walked : He.DefD := ⟨("Reducer", some "walked"), "walked", "Reducer.walked", defArgs st_Reducer_walked, defBody st_Reducer_walked, defScope st_Reducer_walked, [], []⟩
def d_InvalidWord_init : He.DefD := ⟨("InvalidWord", some "__init__"), "__init__", "InvalidWord.__init__", defArgs st_InvalidWord_init, defBody st_InvalidWord_init, defScope st_InvalidWord_init, [], []⟩
def d_Reducer_check_word : He.DefD := ⟨("Reducer", some "check_word"), "check_word", "Reducer.check_word", defArgs st_Reducer_check_word, defBody st_Reducer_check_word, defScope st_Reducer_check_word, [], []⟩
def d_InvalidState_init : He.DefD := ⟨("InvalidState", some "__init__"), "__init__", "InvalidState.__init__", defArgs st_InvalidState_init, defBody st_InvalidState_init, defScope st_InvalidState_init, [], []⟩
def d_Reducer_check_state : He.DefD := ⟨("Reducer", some "check_state"), "check_state", "Reducer.check_state", defArgs st_Reducer_check_state, defBody st_Reducer_check_state, defScope st_Reducer_check_state, [], []⟩
def d_Reducer_fold : He.DefD := ⟨("Reducer", some "fold"), "fold", "Reducer.fold", defArgs st_Reducer_fold, defBody st_Reducer_fold, defScope st_Reducer_fold, [], [("state", .non)]⟩
def d_Reducer_told : He.DefD := ⟨("Reducer", some "told"), "told", "Reducer.told", defArgs st_Reducer_told, defBody st_Reducer_told, defScope st_Reducer_told, [], []⟩
def d_Reducer_call : He.DefD := ⟨("Reducer", some "__call__"), "__call__", "Reducer.__call__", defArgs st_Reducer_call, defBody st_Reducer_call, defScope st_Reducer_call, [], []⟩
def d_Reducer_content : He.DefD := ⟨("Reducer", some "content"), "content", "Reducer.content", defArgs st_Reducer_content, defBody st_Reducer_content, defScope st_Reducer_content, [], []⟩
def d_Reducer_eq : He.DefD := ⟨("Reducer", some "__eq__"), "__eq__", "Reducer.__eq__", defArgs st_Reducer_eq, defBody st_Reducer_eq, defScope st_Reducer_eq, [], []⟩
def d_law_pull : He.DefD := ⟨("_law_pull", none), "_law_pull", "_law_pull", defArgs st_law_pull, defBody st_law_pull, defScope st_law_pull, [], []⟩
def d_law_letters : He.DefD := ⟨("_law_letters", none), "_law_letters", "_law_letters", defArgs st_law_letters, defBody st_law_letters, defScope st_law_letters, [], []⟩
def d_law_draws : He.DefD := ⟨("_law_draws", none), "_law_draws", "_law_draws", defArgs st_law_draws, defBody st_law_draws, defScope st_law_draws, [], []⟩
def d_law_like : He.DefD := ⟨("_law_like", none), "_law_like", "_law_like", defArgs st_law_like, defBody st_law_like, defScope st_law_like, [], []⟩
def d_law_any : He.DefD := ⟨("_law_any", none), "_law_any", "_law_any", defArgs st_law_any, defBody st_law_any, defScope st_law_any, [], []⟩
def d_law_word : He.DefD := ⟨("_law_word", none), "_law_word", "_law_word", defArgs st_law_word, defBody st_law_word, defScope st_law_word, [], []⟩
def d_law_field : He.DefD := ⟨("_law_field", none), "_law_field", "_law_field", defArgs st_law_field, defBody st_law_field, defScope st_law_field, [], []⟩
def d_law_try : He.DefD := ⟨("_law_try", none), "_law_try", "_law_try", defArgs st_law_try, defBody st_law_try, defScope st_law_try, [], []⟩
def d_law_tries : He.DefD := ⟨("_law_tries", none), "_law_tries", "_law_tries", defArgs st_law_tries, defBody st_law_tries, defScope st_law_tries, [], []⟩
def d_law : He.DefD := ⟨("law", none), "law", "law", defArgs st_law, defBody st_law, defScope st_law, [], []⟩
def fn : List He.DefD := [d_is_word, d_are_letters, d_first_wrong, d_is_number, d_is_between, d_is_row, d_is_name, d_InvalidAnswers_init, d_check_answers, d_InvalidLetters_init, d_InvalidSize_init, d_InvalidSteps_init, d_InvalidJoins_init, d_InvalidBegin_init, d_Reducer_init, d_Reducer_steps, d_Reducer_joins, d_Reducer_answers, d_Reducer_walked, d_InvalidWord_init, d_Reducer_check_word, d_InvalidState_init, d_Reducer_check_state, d_Reducer_fold, d_Reducer_told, d_Reducer_call, d_Reducer_content, d_Reducer_eq, d_law_pull, d_law_letters, d_law_draws, d_law_like, d_law_any, d_law_word, d_law_field, d_law_try, d_law_tries, d_law]
def fs : List He.DefD := [d_Reducer_counter]
def fa : List He.Fa := [.glo "is_word", .glo "are_letters", .glo "first_wrong", .glo "is_number", .glo "is_between", .glo "is_row", .glo "is_name", .glo "InvalidAnswers", .glo "JoinError", .free "super", .glo "check_answers", .glo "InvalidLetters", .glo "InvalidSize", .glo "InvalidSteps", .glo "InvalidJoins", .glo "InvalidBegin", .mkr "Reducer", .glo "Reducer", .cls "Reducer", .meth "Reducer" "steps", .meth "Reducer" "joins", .meth "Reducer" "answers", .meth "Reducer" "walked", .glo "InvalidWord", .meth "Reducer" "check_word", .glo "InvalidState", .meth "Reducer" "check_state", .meth "Reducer" "fold", .meth "Reducer" "told", .meth "Reducer" "__call__", .meth "Reducer" "content", .meth "Reducer" "__eq__", .glo "_law_pull", .glo "_law_letters", .glo "_law_draws", .glo "_law_like", .glo "_law_any", .glo "_law_word", .glo "_law_field", .glo "_law_try", .glo "_law_tries", .glo "law", .free "isinstance", .free "str", .free "all", .str "ALPHABET" "abcdefghijklmnopqrstuvwxyz", .free "len", .int "LETTERS_AT_MOST" 5, .free "set", .free "enumerate", .free "int", .free "bool", .free "list", .free "tuple", .int "MOST_NAME" 8, .int "STATES_AT_MOST" 16, .noat "Reducer" "letters", .noat "Reducer" "begin", .noat "Reducer" "size", .noat "Reducer" "step_rows", .noat "Reducer" "join_rows", .noat "Reducer" "answer_names", .free "range", .free "zip", .glo "Missing", .glo "NothingLeft"]
def loose0 : List PySem.Str := [PySem.Str.ofString "_wall", PySem.Str.ofString "JoinError", PySem.Str.ofString "Missing", PySem.Str.ofString "InvalidLetters", PySem.Str.ofString "InvalidSize", PySem.Str.ofString "InvalidSteps", PySem.Str.ofString "InvalidJoins", PySem.Str.ofString "InvalidAnswers", PySem.Str.ofString "InvalidBegin", PySem.Str.ofString "InvalidState", PySem.Str.ofString "InvalidWord", PySem.Str.ofString "UnknownLetter", PySem.Str.ofString "NothingLeft", PySem.Str.ofString "ALPHABET", PySem.Str.ofString "MOST_NAME", PySem.Str.ofString "LETTERS_AT_MOST", PySem.Str.ofString "STATES_AT_MOST", PySem.Str.ofString "is_word", PySem.Str.ofString "is_name", PySem.Str.ofString "is_number", PySem.Str.ofString "is_between", PySem.Str.ofString "are_letters", PySem.Str.ofString "is_row", PySem.Str.ofString "first_wrong", PySem.Str.ofString "check_answers", PySem.Str.ofString "Reducer", PySem.Str.ofString "_law_field", PySem.Str.ofString "_law_draws", PySem.Str.ofString "_law_pull", PySem.Str.ofString "_law_any", PySem.Str.ofString "_law_like", PySem.Str.ofString "_law_try", PySem.Str.ofString "_law_tries", PySem.Str.ofString "_law_letters", PySem.Str.ofString "_law_word"]
def loose : List PySem.Str := loose0
abbrev PP : Program := (PySem.W.OpenLaw.row PySem.Challenge.rw_partjoins_k06_counters).prog
def extra (K : PySem.W.Frag) : List Bool := [excB K PP "JoinError" "InvalidAnswers" ["at"], excB K PP "JoinError" "InvalidLetters" ["given"], excB K PP "JoinError" "InvalidSize" ["given"], excB K PP "JoinError" "InvalidSteps" ["at"], excB K PP "JoinError" "InvalidJoins" ["at"], excB K PP "JoinError" "InvalidBegin" ["given"], FX.okS K d_Reducer_counter, FX.smB K "Reducer" "counter", excB K PP "JoinError" "InvalidWord" ["given"], excB K PP "JoinError" "InvalidState" ["given"], insCB K "Reducer", cats_law.all fun c => catB K js_law (attrsOf rows_law) c, (tabOf K (He.ga K "law")).isSome]
abbrev R : PySem.W.OpenRow := PySem.W.OpenLaw.row PySem.Challenge.rw_partjoins_k06_counters
def exB (K : PySem.W.Frag) : Bool := (extra K).all id
abbrev hk : PySem.W.Hook := HeZ.hookZ 6 fa fn fs exB
def ob (s : PySem.W.SharedT) : HeZ.AlZ := HeZ.obsZ 6 fa fn fs exB (HandSHeadRun.getT s)
theorem ob_eq (s : PySem.W.SharedT) : ob s = hk.obs s.abs := HeZ.obsZ_eq (HandSHeadRun.getT_eq s)
set_option maxHeartbeats 0 in
theorem run (w : World) : HandSHeadRun.RunEq R (PySem.W.view R.prog [38]) hk ob 16000 loose w := by
  intro os
  kernel_rfl
theorem facts {w : World} {K : PySem.W.Frag} {h : Heap} {mg : Str → Option Value} {f : Addr} (X : K.In h) (G : h.Ns mainGlobals mg) (hfa : mg ("law" : Str) = some (.ref f)) (c : He.SaysD fa fn K) (hex : (extra K).all id = true) (c2 : fs.map (fun d => FX.fnWS K d) = fs.map He.DefD.val) :
    ∃ (fd : FuncData) (cL pL : Addr) (sp : Sp), tabOf K f = some (cL, pL) ∧ (∀ (s : Shared) (v : Value), BindsTo s fd ⟨[v], []⟩ [("_law_script", v)]) ∧ (∀ (H : Hp) (a : Addr) (ns : List Int), ns.length ≤ 63 → H pL = some (.tbl #[]) → SqL K H a (ns.map V.int) → sp [.ref a] H (fun v _ => v = .bl true) fun _ _ _ => False) ∧
      ∀ base : Heap, K.In base → base.Ns mainGlobals mg → LamX.TabB base mg cL pL → FnOk PP w K mg base CX0 33 f fd ["_law_script"] sp := by
  letI TE : Tbs := ⟨[], fun _ => lamNo, fun _ => [], ""⟩
  obtain ⟨f_is_word, F_is_word⟩ := c.def_ 0 (d := d_is_word) rfl
  have S_is_word : Stood K mg "is_word" st_is_word := ⟨_, f_is_word, F_is_word, He.glo_ok X G (c.fact 0 (f := .glo "is_word") rfl)⟩
  obtain ⟨f_are_letters, F_are_letters⟩ := c.def_ 1 (d := d_are_letters) rfl
  have S_are_letters : Stood K mg "are_letters" st_are_letters := ⟨_, f_are_letters, F_are_letters, He.glo_ok X G (c.fact 1 (f := .glo "are_letters") rfl)⟩
  obtain ⟨f_first_wrong, F_first_wrong⟩ := c.def_ 2 (d := d_first_wrong) rfl
  have S_first_wrong : Stood K mg "first_wrong" st_first_wrong := ⟨_, f_first_wrong, F_first_wrong, He.glo_ok X G (c.fact 2 (f := .glo "first_wrong") rfl)⟩
  obtain ⟨f_is_number, F_is_number⟩ := c.def_ 3 (d := d_is_number) rfl
  have S_is_number : Stood K mg "is_number" st_is_number := ⟨_, f_is_number, F_is_number, He.glo_ok X G (c.fact 3 (f := .glo "is_number") rfl)⟩
  obtain ⟨f_is_between, F_is_between⟩ := c.def_ 4 (d := d_is_between) rfl
  have S_is_between : Stood K mg "is_between" st_is_between := ⟨_, f_is_between, F_is_between, He.glo_ok X G (c.fact 4 (f := .glo "is_between") rfl)⟩
  obtain ⟨f_is_row, F_is_row⟩ := c.def_ 5 (d := d_is_row) rfl
  have S_is_row : Stood K mg "is_row" st_is_row := ⟨_, f_is_row, F_is_row, He.glo_ok X G (c.fact 5 (f := .glo "is_row") rfl)⟩
  obtain ⟨f_is_name, F_is_name⟩ := c.def_ 6 (d := d_is_name) rfl
  have S_is_name : Stood K mg "is_name" st_is_name := ⟨_, f_is_name, F_is_name, He.glo_ok X G (c.fact 6 (f := .glo "is_name") rfl)⟩
  obtain ⟨f_InvalidAnswers_init, F_InvalidAnswers_init⟩ := c.def_ 7 (d := d_InvalidAnswers_init) rfl
  have S_InvalidAnswers_init : StoodX K mg PP "JoinError" "InvalidAnswers" st_InvalidAnswers_init ["at"] := stoodX_of (List.all_eq_true.mp hex (excB K PP "JoinError" "InvalidAnswers" ["at"]) (by simp [extra])) ⟨f_InvalidAnswers_init, F_InvalidAnswers_init⟩ (He.glo_ok X G (c.fact 7 (f := .glo "InvalidAnswers") rfl)) (He.glo_ok X G (c.fact 8 (f := .glo "JoinError") rfl)) (He.free_ok X G (c.fact 9 (f := .free "super") rfl))
  obtain ⟨f_check_answers, F_check_answers⟩ := c.def_ 8 (d := d_check_answers) rfl
  have S_check_answers : Stood K mg "check_answers" st_check_answers := ⟨_, f_check_answers, F_check_answers, He.glo_ok X G (c.fact 10 (f := .glo "check_answers") rfl)⟩
  obtain ⟨f_InvalidLetters_init, F_InvalidLetters_init⟩ := c.def_ 9 (d := d_InvalidLetters_init) rfl
  have S_InvalidLetters_init : StoodX K mg PP "JoinError" "InvalidLetters" st_InvalidLetters_init ["given"] := stoodX_of (List.all_eq_true.mp hex (excB K PP "JoinError" "InvalidLetters" ["given"]) (by simp [extra])) ⟨f_InvalidLetters_init, F_InvalidLetters_init⟩ (He.glo_ok X G (c.fact 11 (f := .glo "InvalidLetters") rfl)) (He.glo_ok X G (c.fact 8 (f := .glo "JoinError") rfl)) (He.free_ok X G (c.fact 9 (f := .free "super") rfl))
  obtain ⟨f_InvalidSize_init, F_InvalidSize_init⟩ := c.def_ 10 (d := d_InvalidSize_init) rfl
  have S_InvalidSize_init : StoodX K mg PP "JoinError" "InvalidSize" st_InvalidSize_init ["given"] := stoodX_of (List.all_eq_true.mp hex (excB K PP "JoinError" "InvalidSize" ["given"]) (by simp [extra])) ⟨f_InvalidSize_init, F_InvalidSize_init⟩ (He.glo_ok X G (c.fact 12 (f := .glo "InvalidSize") rfl)) (He.glo_ok X G (c.fact 8 (f := .glo "JoinError") rfl)) (He.free_ok X G (c.fact 9 (f := .free "super") rfl))
  obtain ⟨f_InvalidSteps_init, F_InvalidSteps_init⟩ := c.def_ 11 (d := d_InvalidSteps_init) rfl
  have S_InvalidSteps_init : StoodX K mg PP "JoinError" "InvalidSteps" st_InvalidSteps_init ["at"] := stoodX_of (List.all_eq_true.mp hex (excB K PP "JoinError" "InvalidSteps" ["at"]) (by simp [extra])) ⟨f_InvalidSteps_init, F_InvalidSteps_init⟩ (He.glo_ok X G (c.fact 13 (f := .glo "InvalidSteps") rfl)) (He.glo_ok X G (c.fact 8 (f := .glo "JoinError") rfl)) (He.free_ok X G (c.fact 9 (f := .free "super") rfl))
  obtain ⟨f_InvalidJoins_init, F_InvalidJoins_init⟩ := c.def_ 12 (d := d_InvalidJoins_init) rfl
  have S_InvalidJoins_init : StoodX K mg PP "JoinError" "InvalidJoins" st_InvalidJoins_init ["at"] := stoodX_of (List.all_eq_true.mp hex (excB K PP "JoinError" "InvalidJoins" ["at"]) (by simp [extra])) ⟨f_InvalidJoins_init, F_InvalidJoins_init⟩ (He.glo_ok X G (c.fact 14 (f := .glo "InvalidJoins") rfl)) (He.glo_ok X G (c.fact 8 (f := .glo "JoinError") rfl)) (He.free_ok X G (c.fact 9 (f := .free "super") rfl))
  obtain ⟨f_InvalidBegin_init, F_InvalidBegin_init⟩ := c.def_ 13 (d := d_InvalidBegin_init) rfl
  have S_InvalidBegin_init : StoodX K mg PP "JoinError" "InvalidBegin" st_InvalidBegin_init ["given"] := stoodX_of (List.all_eq_true.mp hex (excB K PP "JoinError" "InvalidBegin" ["given"]) (by simp [extra])) ⟨f_InvalidBegin_init, F_InvalidBegin_init⟩ (He.glo_ok X G (c.fact 15 (f := .glo "InvalidBegin") rfl)) (He.glo_ok X G (c.fact 8 (f := .glo "JoinError") rfl)) (He.free_ok X G (c.fact 9 (f := .free "super") rfl))
  obtain ⟨f_Reducer_init, F_Reducer_init⟩ := c.def_ 14 (d := d_Reducer_init) rfl
  have S_Reducer_init : StoodI K mg "Reducer" st_Reducer_init [] := ⟨f_Reducer_init, F_Reducer_init, He.mkr_ok (c.fact 16 (f := .mkr "Reducer") rfl), He.glo_ok X G (c.fact 17 (f := .glo "Reducer") rfl)⟩
  obtain ⟨f_Reducer_counter, F_Reducer_counter⟩ := HeZ.def_s c2 0 (d := d_Reducer_counter) (List.all_eq_true.mp hex (FX.okS K d_Reducer_counter) (by simp [extra])) rfl
  have S_Reducer_counter : StoodT K mg "Reducer" "counter" "Reducer.counter" st_Reducer_counter := ⟨f_Reducer_counter, F_Reducer_counter, smB_ok (List.all_eq_true.mp hex (FX.smB K "Reducer" "counter") (by simp [extra])), He.glo_ok X G (c.fact 17 (f := .glo "Reducer") rfl)⟩
  obtain ⟨f_Reducer_steps, F_Reducer_steps⟩ := c.def_ 15 (d := d_Reducer_steps) rfl
  have S_Reducer_steps : StoodM K "Reducer" "steps" "Reducer.steps" st_Reducer_steps := ⟨f_Reducer_steps, F_Reducer_steps, He.cls_ok (c.fact 18 (f := .cls "Reducer") rfl), He.meth_ok (c.fact 19 (f := .meth "Reducer" "steps") rfl)⟩
  obtain ⟨f_Reducer_joins, F_Reducer_joins⟩ := c.def_ 16 (d := d_Reducer_joins) rfl
  have S_Reducer_joins : StoodM K "Reducer" "joins" "Reducer.joins" st_Reducer_joins := ⟨f_Reducer_joins, F_Reducer_joins, He.cls_ok (c.fact 18 (f := .cls "Reducer") rfl), He.meth_ok (c.fact 20 (f := .meth "Reducer" "joins") rfl)⟩
  obtain ⟨f_Reducer_answers, F_Reducer_answers⟩ := c.def_ 17 (d := d_Reducer_answers) rfl
  have S_Reducer_answers : StoodM K "Reducer" "answers" "Reducer.answers" st_Reducer_answers := ⟨f_Reducer_answers, F_Reducer_answers, He.cls_ok (c.fact 18 (f := .cls "Reducer") rfl), He.meth_ok (c.fact 21 (f := .meth "Reducer" "answers") rfl)⟩
  obtain ⟨f_Reducer_walked, F_Reducer_walked⟩ := c.def_ 18 (d := d_Reducer_walked) rfl
  have S_Reducer_walked : StoodM K "Reducer" "walked" "Reducer.walked" st_Reducer_walked := ⟨f_Reducer_walked, F_Reducer_walked, He.cls_ok (c.fact 18 (f := .cls "Reducer") rfl), He.meth_ok (c.fact 22 (f := .meth "Reducer" "walked") rfl)⟩
  obtain ⟨f_InvalidWord_init, F_InvalidWord_init⟩ := c.def_ 19 (d := d_InvalidWord_init) rfl
  have S_InvalidWord_init : StoodX K mg PP "JoinError" "InvalidWord" st_InvalidWord_init ["given"] := stoodX_of (List.all_eq_true.mp hex (excB K PP "JoinError" "InvalidWord" ["given"]) (by simp [extra])) ⟨f_InvalidWord_init, F_InvalidWord_init⟩ (He.glo_ok X G (c.fact 23 (f := .glo "InvalidWord") rfl)) (He.glo_ok X G (c.fact 8 (f := .glo "JoinError") rfl)) (He.free_ok X G (c.fact 9 (f := .free "super") rfl))
  obtain ⟨f_Reducer_check_word, F_Reducer_check_word⟩ := c.def_ 20 (d := d_Reducer_check_word) rfl
  have S_Reducer_check_word : StoodM K "Reducer" "check_word" "Reducer.check_word" st_Reducer_check_word := ⟨f_Reducer_check_word, F_Reducer_check_word, He.cls_ok (c.fact 18 (f := .cls "Reducer") rfl), He.meth_ok (c.fact 24 (f := .meth "Reducer" "check_word") rfl)⟩
  obtain ⟨f_InvalidState_init, F_InvalidState_init⟩ := c.def_ 21 (d := d_InvalidState_init) rfl
  have S_InvalidState_init : StoodX K mg PP "JoinError" "InvalidState" st_InvalidState_init ["given"] := stoodX_of (List.all_eq_true.mp hex (excB K PP "JoinError" "InvalidState" ["given"]) (by simp [extra])) ⟨f_InvalidState_init, F_InvalidState_init⟩ (He.glo_ok X G (c.fact 25 (f := .glo "InvalidState") rfl)) (He.glo_ok X G (c.fact 8 (f := .glo "JoinError") rfl)) (He.free_ok X G (c.fact 9 (f := .free "super") rfl))
  obtain ⟨f_Reducer_check_state, F_Reducer_check_state⟩ := c.def_ 22 (d := d_Reducer_check_state) rfl
  have S_Reducer_check_state : StoodM K "Reducer" "check_state" "Reducer.check_state" st_Reducer_check_state := ⟨f_Reducer_check_state, F_Reducer_check_state, He.cls_ok (c.fact 18 (f := .cls "Reducer") rfl), He.meth_ok (c.fact 26 (f := .meth "Reducer" "check_state") rfl)⟩
  obtain ⟨f_Reducer_fold, F_Reducer_fold⟩ := c.def_ 23 (d := d_Reducer_fold) rfl
  have S_Reducer_fold : StoodMK K "Reducer" "fold" "Reducer.fold" st_Reducer_fold (kw_Reducer_fold K) := ⟨f_Reducer_fold, F_Reducer_fold, He.cls_ok (c.fact 18 (f := .cls "Reducer") rfl), He.meth_ok (c.fact 27 (f := .meth "Reducer" "fold") rfl)⟩
  obtain ⟨f_Reducer_told, F_Reducer_told⟩ := c.def_ 24 (d := d_Reducer_told) rfl
  have S_Reducer_told : StoodM K "Reducer" "told" "Reducer.told" st_Reducer_told := ⟨f_Reducer_told, F_Reducer_told, He.cls_ok (c.fact 18 (f := .cls "Reducer") rfl), He.meth_ok (c.fact 28 (f := .meth "Reducer" "told") rfl)⟩
  obtain ⟨f_Reducer_call, F_Reducer_call⟩ := c.def_ 25 (d := d_Reducer_call) rfl
  have S_Reducer_call : StoodM K "Reducer" "__call__" "Reducer.__call__" st_Reducer_call := ⟨f_Reducer_call, F_Reducer_call, He.cls_ok (c.fact 18 (f := .cls "Reducer") rfl), He.meth_ok (c.fact 29 (f := .meth "Reducer" "__call__") rfl)⟩
  obtain ⟨f_Reducer_content, F_Reducer_content⟩ := c.def_ 26 (d := d_Reducer_content) rfl
  have S_Reducer_content : StoodM K "Reducer" "content" "Reducer.content" st_Reducer_content := ⟨f_Reducer_content, F_Reducer_content, He.cls_ok (c.fact 18 (f := .cls "Reducer") rfl), He.meth_ok (c.fact 30 (f := .meth "Reducer" "content") rfl)⟩
  obtain ⟨f_Reducer_eq, F_Reducer_eq⟩ := c.def_ 27 (d := d_Reducer_eq) rfl
  have S_Reducer_eq : StoodM K "Reducer" "__eq__" "Reducer.__eq__" st_Reducer_eq := ⟨f_Reducer_eq, F_Reducer_eq, He.cls_ok (c.fact 18 (f := .cls "Reducer") rfl), He.meth_ok (c.fact 31 (f := .meth "Reducer" "__eq__") rfl)⟩
  obtain ⟨f_law_pull, F_law_pull⟩ := c.def_ 28 (d := d_law_pull) rfl
  have S_law_pull : Stood K mg "_law_pull" st_law_pull := ⟨_, f_law_pull, F_law_pull, He.glo_ok X G (c.fact 32 (f := .glo "_law_pull") rfl)⟩
  obtain ⟨f_law_letters, F_law_letters⟩ := c.def_ 29 (d := d_law_letters) rfl
  have S_law_letters : Stood K mg "_law_letters" st_law_letters := ⟨_, f_law_letters, F_law_letters, He.glo_ok X G (c.fact 33 (f := .glo "_law_letters") rfl)⟩
  obtain ⟨f_law_draws, F_law_draws⟩ := c.def_ 30 (d := d_law_draws) rfl
  have S_law_draws : Stood K mg "_law_draws" st_law_draws := ⟨_, f_law_draws, F_law_draws, He.glo_ok X G (c.fact 34 (f := .glo "_law_draws") rfl)⟩
  obtain ⟨f_law_like, F_law_like⟩ := c.def_ 31 (d := d_law_like) rfl
  have S_law_like : Stood K mg "_law_like" st_law_like := ⟨_, f_law_like, F_law_like, He.glo_ok X G (c.fact 35 (f := .glo "_law_like") rfl)⟩
  obtain ⟨f_law_any, F_law_any⟩ := c.def_ 32 (d := d_law_any) rfl
  have S_law_any : Stood K mg "_law_any" st_law_any := ⟨_, f_law_any, F_law_any, He.glo_ok X G (c.fact 36 (f := .glo "_law_any") rfl)⟩
  obtain ⟨f_law_word, F_law_word⟩ := c.def_ 33 (d := d_law_word) rfl
  have S_law_word : Stood K mg "_law_word" st_law_word := ⟨_, f_law_word, F_law_word, He.glo_ok X G (c.fact 37 (f := .glo "_law_word") rfl)⟩
  obtain ⟨f_law_field, F_law_field⟩ := c.def_ 34 (d := d_law_field) rfl
  have S_law_field : Stood K mg "_law_field" st_law_field := ⟨_, f_law_field, F_law_field, He.glo_ok X G (c.fact 38 (f := .glo "_law_field") rfl)⟩
  obtain ⟨f_law_try, F_law_try⟩ := c.def_ 35 (d := d_law_try) rfl
  have S_law_try : Stood K mg "_law_try" st_law_try := ⟨_, f_law_try, F_law_try, He.glo_ok X G (c.fact 39 (f := .glo "_law_try") rfl)⟩
  obtain ⟨f_law_tries, F_law_tries⟩ := c.def_ 36 (d := d_law_tries) rfl
  have S_law_tries : Stood K mg "_law_tries" st_law_tries := ⟨_, f_law_tries, F_law_tries, He.glo_ok X G (c.fact 40 (f := .glo "_law_tries") rfl)⟩
  obtain ⟨f_law, F_law⟩ := c.def_ 37 (d := d_law) rfl
  have S_law : Stood K mg "law" st_law := ⟨_, f_law, F_law, He.glo_ok X G (c.fact 41 (f := .glo "law") rfl)⟩
  have z_isinstance := He.free_ok X G (c.fact 42 (f := .free "isinstance") rfl)
  have z_str := He.free_ok X G (c.fact 43 (f := .free "str") rfl)
  have z_all := He.free_ok X G (c.fact 44 (f := .free "all") rfl)
  have g_ALPHABET : ∃ u, mg "ALPHABET" = some u ∧ RelV (.str "abcdefghijklmnopqrstuvwxyz") u := by
    obtain ⟨t, e⟩ := He.str_ok X G (c.fact 45 (f := .str "ALPHABET" "abcdefghijklmnopqrstuvwxyz") rfl)
    exact ⟨_, e, t, rfl⟩
  have z_len := He.free_ok X G (c.fact 46 (f := .free "len") rfl)
  have g_LETTERS_AT_MOST : ∃ u, mg "LETTERS_AT_MOST" = some u ∧ RelV (.int 5) u := by
    obtain ⟨t, e⟩ := He.int_ok X G (c.fact 47 (f := .int "LETTERS_AT_MOST" 5) rfl)
    exact ⟨_, e, t, rfl⟩
  have z_set := He.free_ok X G (c.fact 48 (f := .free "set") rfl)
  have z_enumerate := He.free_ok X G (c.fact 49 (f := .free "enumerate") rfl)
  have z_int := He.free_ok X G (c.fact 50 (f := .free "int") rfl)
  have z_bool := He.free_ok X G (c.fact 51 (f := .free "bool") rfl)
  have z_list := He.free_ok X G (c.fact 52 (f := .free "list") rfl)
  have z_tuple := He.free_ok X G (c.fact 53 (f := .free "tuple") rfl)
  have g_MOST_NAME : ∃ u, mg "MOST_NAME" = some u ∧ RelV (.int 8) u := by
    obtain ⟨t, e⟩ := He.int_ok X G (c.fact 54 (f := .int "MOST_NAME" 8) rfl)
    exact ⟨_, e, t, rfl⟩
  have g_STATES_AT_MOST : ∃ u, mg "STATES_AT_MOST" = some u ∧ RelV (.int 16) u := by
    obtain ⟨t, e⟩ := He.int_ok X G (c.fact 55 (f := .int "STATES_AT_MOST" 16) rfl)
    exact ⟨_, e, t, rfl⟩
  have k_Reducer : Cls K (He.ga K "Reducer") := He.cls_ok (c.fact 18 (f := .cls "Reducer") rfl)
  have n_Reducer_letters : NoAttr K (He.ga K "Reducer") "letters" := He.noat_ok (c.fact 56 (f := .noat "Reducer" "letters") rfl)
  have n_Reducer_begin : NoAttr K (He.ga K "Reducer") "begin" := He.noat_ok (c.fact 57 (f := .noat "Reducer" "begin") rfl)
  have n_Reducer_size : NoAttr K (He.ga K "Reducer") "size" := He.noat_ok (c.fact 58 (f := .noat "Reducer" "size") rfl)
  have n_Reducer_step_rows : NoAttr K (He.ga K "Reducer") "step_rows" := He.noat_ok (c.fact 59 (f := .noat "Reducer" "step_rows") rfl)
  have n_Reducer_join_rows : NoAttr K (He.ga K "Reducer") "join_rows" := He.noat_ok (c.fact 60 (f := .noat "Reducer" "join_rows") rfl)
  have n_Reducer_answer_names : NoAttr K (He.ga K "Reducer") "answer_names" := He.noat_ok (c.fact 61 (f := .noat "Reducer" "answer_names") rfl)
  have z_range := He.free_ok X G (c.fact 62 (f := .free "range") rfl)
  have ic_Reducer : C8.InsC K (He.ga K "Reducer") := insCB_ok (He.cls_ok (c.fact 18 (f := .cls "Reducer") rfl)) (List.all_eq_true.mp hex (insCB K "Reducer") (by simp [extra]))
  have gr_Reducer : mg "Reducer" = some (.ref (He.ga K "Reducer")) := He.glo_ok X G (c.fact 17 (f := .glo "Reducer") rfl)
  have z_zip := He.free_ok X G (c.fact 63 (f := .free "zip") rfl)
  obtain ⟨fl, fdl, FL, gl⟩ := S_law.ex
  have e := hfa.symm.trans gl
  cases e
  have b := FunD.bindsA (ps := ["_law_script"]) FL fun _ _ _ _ _ _ us hl => match us, hl with | [_], _ => rfl
  have tl : (tabOf K (He.ga K "law")).isSome = true := List.all_eq_true.mp hex ((tabOf K (He.ga K "law")).isSome) (by simp [extra])
  have ef : He.ga K "law" = f := V.ref.inj (by have := (He.glo_ok X G (c.fact 41 (f := .glo "law") rfl)).symm.trans hfa; cases this; rfl)
  rw [ef] at tl
  obtain ⟨⟨cL, pL⟩, tb⟩ := Option.isSome_iff_exists.mp tl
  letI TT : Tbs := ⟨[(pL, ("law" : Str) ++ ".<locals>." ++ "<lambda>")], fun k => ((lams_law)[k]?).getD lamNo, fun n => PySem.cellsFrom (n + 1) (defScope st_law).names [], ("law" : Str) ++ ".<locals>." ++ "<lambda>"⟩
  have LD : LamsOk "law" st_law lams_law := ⟨rfl, fun k d h => by show ((lams_law)[k]?).getD lamNo = d; rw [h]; rfl, fun _ => rfl⟩
  refine ⟨fdl, cL, pL, sp_law K, tb, fun s v => b s [v] rfl, fun H a ns hl hP hS => FX.sp_law_tab (P := pL) rfl hl hP hS, fun base _ _ tB => ?_⟩
  have LT : LawTab K mg base "law" cL pL := FX.law_tab tb hfa rfl tB
  have G0 : Has PP w K mg base "law" st_law 33 ["_law_script"] (sp_law K) := by
    have G_is_word := ok_is_word (PP := PP) (w := w) (mg := mg) (base := base) S_is_word z_isinstance z_str z_all g_ALPHABET
    have G_are_letters := ok_are_letters (PP := PP) (w := w) (mg := mg) (base := base) S_are_letters G_is_word z_len g_LETTERS_AT_MOST z_set
    have G_first_wrong := ok_first_wrong (PP := PP) (w := w) (mg := mg) (base := base) S_first_wrong z_enumerate z_len
    have G_is_number := ok_is_number (PP := PP) (w := w) (mg := mg) (base := base) S_is_number z_isinstance z_int z_bool
    have G_is_between := ok_is_between (PP := PP) (w := w) (mg := mg) (base := base) S_is_between G_is_number
    have G_is_row := ok_is_row (PP := PP) (w := w) (mg := mg) (base := base) S_is_row z_isinstance z_list z_tuple z_len z_all G_is_between
    have G_is_name := ok_is_name (PP := PP) (w := w) (mg := mg) (base := base) S_is_name G_is_word z_len g_MOST_NAME
    have H_InvalidAnswers := ok_InvalidAnswers_init (w := w) (base := base) S_InvalidAnswers_init
    have G_check_answers := ok_check_answers (PP := PP) (w := w) (mg := mg) (base := base) S_check_answers G_first_wrong G_is_name H_InvalidAnswers
    have H_InvalidLetters := ok_InvalidLetters_init (w := w) (base := base) S_InvalidLetters_init
    have H_InvalidSize := ok_InvalidSize_init (w := w) (base := base) S_InvalidSize_init
    have H_InvalidSteps := ok_InvalidSteps_init (w := w) (base := base) S_InvalidSteps_init
    have H_InvalidJoins := ok_InvalidJoins_init (w := w) (base := base) S_InvalidJoins_init
    have H_InvalidBegin := ok_InvalidBegin_init (w := w) (base := base) S_InvalidBegin_init
    have I_Reducer := ok_Reducer_init (PP := PP) (w := w) (mg := mg) (base := base) S_Reducer_init G_are_letters H_InvalidLetters z_len g_STATES_AT_MOST H_InvalidSize G_first_wrong G_is_row H_InvalidSteps H_InvalidJoins G_check_answers G_is_between H_InvalidBegin k_Reducer n_Reducer_letters n_Reducer_begin n_Reducer_size n_Reducer_step_rows z_tuple n_Reducer_join_rows n_Reducer_answer_names z_list
    have SM_Reducer_counter := ok_Reducer_counter (PP := PP) (w := w) (mg := mg) (base := base) S_Reducer_counter G_are_letters H_InvalidLetters G_is_between g_STATES_AT_MOST H_InvalidSize z_range I_Reducer g_ALPHABET
    have M_Reducer_steps := ok_Reducer_steps (PP := PP) (w := w) (mg := mg) (base := base) S_Reducer_steps k_Reducer n_Reducer_step_rows z_list
    have M_Reducer_joins := ok_Reducer_joins (PP := PP) (w := w) (mg := mg) (base := base) S_Reducer_joins k_Reducer n_Reducer_join_rows z_list
    have M_Reducer_answers := ok_Reducer_answers (PP := PP) (w := w) (mg := mg) (base := base) S_Reducer_answers z_list k_Reducer n_Reducer_answer_names
    have M_Reducer_walked := ok_Reducer_walked (PP := PP) (w := w) (mg := mg) (base := base) S_Reducer_walked k_Reducer n_Reducer_step_rows n_Reducer_letters
    have H_InvalidWord := ok_InvalidWord_init (w := w) (base := base) S_InvalidWord_init
    have M_Reducer_check_word := ok_Reducer_check_word (PP := PP) (w := w) (mg := mg) (base := base) S_Reducer_check_word G_is_word z_all k_Reducer n_Reducer_letters H_InvalidWord
    have H_InvalidState := ok_InvalidState_init (w := w) (base := base) S_InvalidState_init
    have M_Reducer_check_state := ok_Reducer_check_state (PP := PP) (w := w) (mg := mg) (base := base) S_Reducer_check_state G_is_between k_Reducer n_Reducer_size H_InvalidState
    have M_Reducer_fold := ok_Reducer_fold (PP := PP) (w := w) (mg := mg) (base := base) S_Reducer_fold M_Reducer_check_word M_Reducer_walked k_Reducer n_Reducer_begin M_Reducer_check_state
    have M_Reducer_told := ok_Reducer_told (PP := PP) (w := w) (mg := mg) (base := base) S_Reducer_told k_Reducer n_Reducer_answer_names M_Reducer_fold
    have M_Reducer_call := ok_Reducer_call (PP := PP) (w := w) (mg := mg) (base := base) S_Reducer_call M_Reducer_told
    have M_Reducer_content := ok_Reducer_content (PP := PP) (w := w) (mg := mg) (base := base) S_Reducer_content k_Reducer n_Reducer_letters n_Reducer_begin n_Reducer_step_rows n_Reducer_join_rows n_Reducer_answer_names
    have M_Reducer_eq := ok_Reducer_eq (PP := PP) (w := w) (mg := mg) (base := base) S_Reducer_eq z_isinstance ic_Reducer gr_Reducer M_Reducer_content
    have G_law_pull := ok_law_pull (PP := PP) (w := w) (mg := mg) (base := base) S_law_pull z_len z_int
    have G_law_letters := ok_law_letters (PP := PP) (w := w) (mg := mg) (base := base) S_law_letters z_list z_range G_law_pull z_len
    have G_law_draws := ok_law_draws (PP := PP) (w := w) (mg := mg) (base := base) S_law_draws z_int z_list
    have G_law_like := ok_law_like (PP := PP) (w := w) (mg := mg) (base := base) S_law_like z_isinstance z_list z_tuple z_len z_all z_zip z_bool z_int z_str
    have G_law_any := ok_law_any (PP := PP) (w := w) (mg := mg) (base := base) S_law_any G_law_pull z_len
    have G_law_word := ok_law_word (PP := PP) (w := w) (mg := mg) (base := base) S_law_word z_range G_law_pull G_law_any
    have FD := ok_law_field (PP := PP) (w := w) (mg := mg) (base := base) S_law_field
    have T_law_try := ok_law_try (w := w) (base := base) S_law_try FD (He.glo_ok X G (c.fact 8 (f := .glo "JoinError") rfl)) (He.glo_ok X G (c.fact 64 (f := .glo "Missing") rfl)) (He.glo_ok X G (c.fact 65 (f := .glo "NothingLeft") rfl)) (fun c hc => cat_ok (List.all_eq_true.mp (List.all_eq_true.mp hex (cats_law.all fun c => catB K js_law (attrsOf rows_law) c) (by simp [extra])) c hc))
    have T_law_tries := ok_law_tries (PP := PP) (w := w) (mg := mg) (base := base) S_law_tries T_law_try
    have G_law := ok_law (PP := PP) (w := w) (mg := mg) (base := base) S_law G_law_draws G_law_letters G_law_pull SM_Reducer_counter z_range z_int k_Reducer n_Reducer_letters n_Reducer_begin M_Reducer_steps M_Reducer_joins M_Reducer_answers G_law_like z_len z_list G_law_word M_Reducer_call M_Reducer_eq G_law_any LT LD T_law_tries
    exact FX.HasF.lawN G_law law_w
  exact G0.fnOk FL gl

end K06
open PySem PySem.W PySem.Calls PyProof.Rows
set_option maxHeartbeats 0 in
theorem PySem.Challenge.cw_partjoins_k06_counters_holds : PySem.Challenge.rw_partjoins_k06_counters.Holds := by
  w_on; o_law
  refine HandSHeadRun.head_any (r := OpenLaw.row PySem.Challenge.rw_partjoins_k06_counters) (q := view (OpenLaw.row PySem.Challenge.rw_partjoins_k06_counters).prog [38]) (H := K06.hk) (ob := K06.ob) (M := 16000) (loose := K06.loose) (d := HandSHeadRun.topDef (OpenLaw.row PySem.Challenge.rw_partjoins_k06_counters).prog 38) (kwd := []) K06.ob_eq
    (by kernel_rfl) (fun s => by kernel_rfl) K06.run (by kernel_rfl) (by kernel_rfl) (by kernel_rfl) (by rfl) (by first | assumption | decide +kernel) (by decide +kernel) ⟨rfl, rfl, rfl, rfl, rfl, by decide +kernel⟩ ?hw ?hc
  case hw => w_witness2
  case hc =>
    refine LY.walk_law (l := PySem.Challenge.rw_partjoins_k06_counters) (n := 63) (k := 33) (x := "_law_script") (CX := L2.CX0) rfl (by decide) (by kernel_rfl) ⟨rfl, by decide, by decide⟩ (by kernel_rfl) ?F (fun _ _ _ _ z => z)
    intro w mg fa h Y G hmg0
    obtain ⟨K, KX, c, c2⟩ := Y
    have hmg : mg ("law" : PySem.Str) = some (.ref fa) := by
      have e : (HandSHeadRun.topDef (OpenLaw.row PySem.Challenge.rw_partjoins_k06_counters).prog 38).name = ("law" : PySem.Str) := by kernel_rfl
      rw [← e]
      exact hmg0
    obtain ⟨fd, cL, pL, sp, t, hb, hsp, hF⟩ := K06.facts (w := w) KX G hmg (congrArg (fun z : He.AlT => z.1) c.t) c.more c2
    exact ⟨K, fd, cL, pL, sp, KX, t, hb, hsp, hF⟩

