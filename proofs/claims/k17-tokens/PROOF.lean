import PyProof.Rows.All
import Wide.All
import OpenK.AllK
import Wide.FinOn
import HandS.ForExc
import HandS.Dict
import HandS.Comp
import HandS.Iter
import HandS.Text
import HandS.CallSlots
import HandS.ExcInit
import HandS.Deep
import HandS.Flow
import HandS.TupAny
import KE.KExcSuper
import HandS.ExcField
import HandS.Ends
import HandS.More
import HandS.Words
import HandS.WordsExc
import HandS.Defaults
import HandS.Head0
import HandS.Head1
import HandS.Head2
import HandS.HeadEnd
import HandS.HeadHook1
import HandS.HeadHook2
import PySem.Challenge.RW_someoneleft_k17_whole_tokens_of_books
set_option Elab.async false
set_option linter.all false
set_option maxRecDepth 100000
set_option maxHeartbeats 4000000
/-! The mirror layer, part 1: data, frozen heap, judgements. -/
namespace M
open PySem L2
abbrev D := PyData
abbrev Rho := List (Option D)
/-! ### heaps that grow -/
def Ex (H H' : Hp) : Prop := ∀ a o, H a = some o → H' a = some o
theorem Ex.refl (H : Hp) : Ex H H := fun _ _ h => h
theorem Ex.trans {H H1 H2 : Hp} (a : Ex H H1) (b : Ex H1 H2) : Ex H H2 := fun x o h => b x o (a x o h)
theorem Ex.new {H : Hp} {p : Addr} {o : HO} (h : H p = none) : Ex H (upd H p o) := fun a u e => by
  rw [upd_ne (ne_of_none e h)]; exact e
theorem Ex.none {H H' : Hp} (e : Ex H H') {p : Addr} (h : H' p = none) : H p = none := by
  cases q : H p with
  | none => rfl
  | some o => rw [e p o q] at h; cases h
theorem Ex.upd2 {F H : Hp} (e : Ex F H) (p : Addr) (o : HO) : Ex (upd F p o) (upd H p o) := fun a u h => by
  by_cases ha : a = p
  · subst ha; rw [upd_same] at h ⊢; exact h
  · rw [upd_ne ha] at h ⊢; exact e a u h
theorem ex_rd {H H' : Hp} {a : Addr} {u : HO} (e : Ex H H') (h : Rd H a u) : Rd H' a u := by
  rcases h with h | ⟨o, h⟩
  · exact Or.inl (e a _ h)
  · exact Or.inr ⟨o, e a _ h⟩
theorem ex_t {K : PySem.W.Frag} {H H' : Hp} {a : Addr} {xs : List V} (e : Ex H H') (h : SqT K H a xs) : SqT K H' a xs := by
  rcases h with h | h
  · exact Or.inl (ex_rd e h)
  · exact Or.inr h
/-! ### data in a frozen heap -/
mutual
inductive Rp (K : PySem.W.Frag) (F : Hp) : V → D → Prop
  | non : Rp K F .non .none
  | bl (b : Bool) : Rp K F (.bl b) (.bool b)
  | int (i : Int) : Rp K F (.int i) (.int i)
  | str (x : Str) : Rp K F (.str x) (.str x)
  | lst {a : Addr} {xs : List V} {ds : List D} : F a = some (.lst xs) → RpA K F xs ds → Rp K F (.ref a) (.list ds)
  | tup {a : Addr} {xs : List V} {ds : List D} : SqT K F a xs → RpA K F xs ds → Rp K F (.ref a) (.tuple ds)
inductive RpA (K : PySem.W.Frag) (F : Hp) : List V → List D → Prop
  | nil : RpA K F [] []
  | cons {v : V} {vs : List V} {d : D} {ds : List D} : Rp K F v d → RpA K F vs ds → RpA K F (v :: vs) (d :: ds)
end
section
variable {K : PySem.W.Frag} {F F' : Hp}
mutual
theorem Rp.mono (e : Ex F F') : ∀ {v : V} {d : D}, Rp K F v d → Rp K F' v d
  | _, _, .non => .non
  | _, _, .bl b => .bl b
  | _, _, .int b => .int b
  | _, _, .str b => .str b
  | _, _, .lst h t => .lst (e _ _ h) (RpA.mono e t)
  | _, _, .tup h t => .tup (ex_t e h) (RpA.mono e t)
theorem RpA.mono (e : Ex F F') : ∀ {v : List V} {d : List D}, RpA K F v d → RpA K F' v d
  | _, _, .nil => .nil
  | _, _, .cons h t => .cons (Rp.mono e h) (RpA.mono e t)
end
mutual
theorem Rp.dp : ∀ {v : V} {d : D}, Rp K F v d → Dp K F v d
  | _, _, .non => .non
  | _, _, .bl b => .bl b
  | _, _, .int b => .int b
  | _, _, .str b => .str b
  | _, _, .lst h t => .lst (SqL.of h) (RpA.dp t)
  | _, _, .tup h t => .tup h (RpA.dp t)
theorem RpA.dp : ∀ {v : List V} {d : List D}, RpA K F v d → DpAll K F v d
  | _, _, .nil => .nil
  | _, _, .cons h t => .cons (Rp.dp h) (RpA.dp t)
end
theorem RpA.length : ∀ {v : List V} {d : List D}, RpA K F v d → v.length = d.length
  | _, _, .nil => rfl
  | _, _, .cons _ t => congrArg (· + 1) (RpA.length t)
theorem RpA.app : ∀ {v w : List V} {d e : List D}, RpA K F v d → RpA K F w e → RpA K F (v ++ w) (d ++ e)
  | _, _, _, _, .nil, h => h
  | _, _, _, _, .cons a t, h => .cons a (RpA.app t h)
theorem RpA.one {v : V} {d : D} (h : Rp K F v d) : RpA K F [v] [d] := .cons h .nil
theorem RpA.get : ∀ {v : List V} {d : List D} {i : Nat} {x : D}, RpA K F v d → d[i]? = some x → ∃ y, v[i]? = some y ∧ Rp K F y x
  | _, _, _, _, .nil, e => by simp at e
  | _, _, 0, _, .cons r _, e => by simp at e; subst e; exact ⟨_, rfl, r⟩
  | _, _, i + 1, x, .cons _ t, e => by
    obtain ⟨y, h1, h2⟩ := RpA.get (i := i) (x := x) t (by simpa using e)
    exact ⟨y, by simpa using h1, h2⟩
theorem RpA.set {x : D} {y : V} (r : Rp K F y x) : ∀ {v : List V} {d : List D} (i : Nat), RpA K F v d → RpA K F (v.set i y) (d.set i x)
  | _, _, _, .nil => .nil
  | _, _, 0, .cons _ t => .cons r t
  | _, _, i + 1, .cons q t => .cons q (RpA.set r i t)
theorem RpA.take : ∀ {v : List V} {d : List D} (n : Nat), RpA K F v d → RpA K F (v.take n) (d.take n)
  | _, _, 0, _ => .nil
  | _, _, _ + 1, .nil => .nil
  | _, _, n + 1, .cons r t => .cons r (RpA.take n t)
theorem RpA.drop : ∀ {v : List V} {d : List D} (n : Nat), RpA K F v d → RpA K F (v.drop n) (d.drop n)
  | _, _, 0, r => r
  | _, _, _ + 1, .nil => .nil
  | _, _, n + 1, .cons _ t => RpA.drop n t
theorem Rp.none_inv {v : V} (h : Rp K F v .none) : v = .non := by cases h; rfl
theorem Rp.bool_inv {v : V} {b : Bool} (h : Rp K F v (.bool b)) : v = .bl b := by cases h; rfl
theorem Rp.int_inv {v : V} {b : Int} (h : Rp K F v (.int b)) : v = .int b := by cases h; rfl
theorem Rp.str_inv {v : V} {b : Str} (h : Rp K F v (.str b)) : v = .str b := by cases h; rfl
theorem Rp.list_inv {v : V} {ds : List D} (h : Rp K F v (.list ds)) : ∃ a xs, v = .ref a ∧ F a = some (.lst xs) ∧ RpA K F xs ds := by
  cases h with
  | lst h t => exact ⟨_, _, rfl, h, t⟩
theorem Rp.tuple_inv {v : V} {ds : List D} (h : Rp K F v (.tuple ds)) : ∃ a xs, v = .ref a ∧ SqT K F a xs ∧ RpA K F xs ds := by
  cases h with
  | tup h t => exact ⟨_, _, rfl, h, t⟩
theorem RpA.strs : ∀ {v : List V} {xs : List Str}, RpA K F v (xs.map PyData.str) → v = xs.map V.str
  | _, [], .nil => rfl
  | _, x :: xs, .cons h t => by rw [Rp.str_inv h, RpA.strs (xs := xs) t]; rfl
theorem RpA.ints : ∀ {v : List V} {xs : List Int}, RpA K F v (xs.map PyData.int) → v = xs.map V.int
  | _, [], .nil => rfl
  | _, x :: xs, .cons h t => by rw [Rp.int_inv h, RpA.ints (xs := xs) t]; rfl
theorem RpA.bools : ∀ {v : List V} {xs : List Bool}, RpA K F v (xs.map PyData.bool) → v = xs.map V.bl
  | _, [], .nil => rfl
  | _, x :: xs, .cons h t => by rw [Rp.bool_inv h, RpA.bools (xs := xs) t]; rfl
end
/-! ### the draws' state -/
structure DS where
  cells : List Int
  pos : Int
  cur : Int
  left : Int
  big : Bool
def DS.d0 : DS := ⟨[], 0, 0, 0, false⟩
def Cell (K : PySem.W.Frag) (c : Option Addr) (s : DS) (F H : Hp) : Prop := match c with
  | none => True
  | some p => F p = none ∧ ∃ v, H p = some (.lst [v, .int s.pos, .int s.cur, .int s.left, .bl s.big, .int 500]) ∧ Rp K F v (.list (s.cells.map PyData.int))
/-- the frozen part grows, the rest stays but for the cell -/
structure Ext (c : Option Addr) (F H F' H' : Hp) : Prop where
  ff : Ex F F'
  fh : Ex F' H'
  hh : ∀ a o, c ≠ some a → H a = some o → H' a = some o
  nw : ∀ a, F' a ≠ none → F a ≠ none ∨ H a = none
theorem Ext.refl {c : Option Addr} {F H : Hp} (h : Ex F H) : Ext c F H F H := ⟨Ex.refl F, h, fun _ _ _ e => e, fun _ h => .inl h⟩
theorem Ext.trans {c : Option Addr} {F H F1 H1 F2 H2 : Hp} (a : Ext c F H F1 H1) (b : Ext c F1 H1 F2 H2) (hc : ∀ p, c = some p → F1 p = none ∧ H1 p ≠ none) : Ext c F H F2 H2 where
  ff := a.ff.trans b.ff
  fh := b.fh
  hh := fun x o n e => b.hh x o n (a.hh x o n e)
  nw := fun x n => by
    rcases b.nw x n with z | z
    · exact a.nw x z
    · by_cases q : c = some x
      · exact absurd z (hc x q).2
      · right
        cases r : H x with
        | none => rfl
        | some o => rw [a.hh x o q r] at z; cases z
theorem Ext.of0 {c : Option Addr} {F H F' H' : Hp} (a : Ext none F H F' H') : Ext c F H F' H' := ⟨a.ff, a.fh, fun x o _ e => a.hh x o (by simp) e, a.nw⟩
theorem Cell.at {K : PySem.W.Frag} {c : Option Addr} {s : DS} {F H : Hp} (h : Cell K c s F H) : ∀ p, c = some p → F p = none ∧ H p ≠ none := fun p e => by
  subst e
  obtain ⟨h1, v, h2, _⟩ := h
  exact ⟨h1, by rw [h2]; simp⟩
theorem Cell.keep {K : PySem.W.Frag} {c : Option Addr} {s : DS} {F H F' H' : Hp} (h : Cell K c s F H) (e : Ext none F H F' H') : Cell K c s F' H' := by
  cases c with
  | none => trivial
  | some p =>
    obtain ⟨h1, v, h2, h3⟩ := h
    refine ⟨?_, v, e.hh p _ (by simp) h2, h3.mono e.ff⟩
    cases q : F' p with
    | none => rfl
    | some o =>
      rcases e.nw p (by rw [q]; simp) with z | z
      · exact absurd h1 z
      · rw [h2] at z; cases z
/-- a new frozen object -/
theorem Ext.made {c : Option Addr} {F H : Hp} {p : Addr} {o : HO} (h : Ex F H) (hp : H p = none) : Ext c F H (upd F p o) (upd H p o) where
  ff := Ex.new (h.none hp)
  fh := h.upd2 p o
  hh := fun a u _ e => Ex.new hp a u e
  nw := fun a n => by
    by_cases ha : a = p
    · subst ha; exact .inr hp
    · rw [upd_ne ha] at n; exact .inl n
/-- a new object, not frozen -/
theorem Ext.loose {c : Option Addr} {F H : Hp} {p : Addr} {o : HO} (h : Ex F H) (hp : H p = none) : Ext c F H F (upd H p o) :=
  ⟨Ex.refl F, h.trans (Ex.new hp), fun a u _ e => Ex.new hp a u e, fun a n => .inl n⟩
/-! ### results -/
structure Err where
  cls : Str
  fs : List (Str × D)
inductive Res (α : Type) where
  | ok (a : α) (s : DS)
  | er (e : Err) (s : DS)
  | bad
def Res.bind {α β : Type} (r : Res α) (f : α → DS → Res β) : Res β := match r with
  | .ok a s => f a s
  | .er e s => .er e s
  | .bad => .bad
abbrev Mr (α : Type) := Rho → DS → Res α
inductive Out where
  | nx (ρ : Rho) (s : DS)
  | rt (d : D) (s : DS)
  | bk (ρ : Rho) (s : DS)
  | ct (ρ : Rho) (s : DS)
  | er (e : Err) (s : DS)
  | bad
abbrev Ms := Rho → DS → Out
/-- an exception that flies: its class, its own dict -/
def Raised (K : PySem.W.Frag) (mg : Str → Option Value) (F H : Hp) (e : Err) (cls : Value) (dd : Option Addr) : Prop :=
  ∃ C, mg e.cls = some (.ref C) ∧ cls = .ref C ∧ ((e.fs = [] ∧ dd = none) ∨ ∃ d fs, dd = some d ∧ H d = some (.xd fs) ∧ ∀ f x, e.fs.lookup f = some x → ∃ v, fs.lookup f = some v ∧ Rp K F v x)
/-! ### the context -/
structure Gb where
  P : Program
  w : World
  K : PySem.W.Frag
  mg : Str → Option Value
  base : Heap
structure Ga extends Gb where
  N : List Str
  sc : Scope
  k : Nat
  W : WX
  st : Option Nat
  fc : Str → Bool
structure Fm (Γ : Ga) (X : Cx) : Prop where
  prog : X.prog = Γ.P
  w : X.w = Γ.w
  K : X.K = Γ.K
  mg : X.mg = Γ.mg
  base : X.base = Γ.base
  N : X.N = Γ.N
  sc : X.env.scope = Γ.sc
  nd : X.N.Nodup
  calm : X.calm = true
  fn : ∀ x, Γ.fc x = true → X.fn x = true
  room : Room Γ.k X.A
  tk : Takes X Γ.W
structure Fs (Γ : Ga) (X : Cx) : Prop extends Fm Γ X where
  stk : X.stack = X.env :: X.outer
  fr : X.env.frame = some X.env.locals
  own : PassesOwn (model X.prog X.w) X.A X.env X.xe
/-- the names' values: own ones are lists of the def's own, the others are frozen -/
structure Good (Γ : Ga) (c : Option Addr) (F0 H0 : Hp) (own : List Nat) (F H : Hp) (σ : St) (ρ : Rho) (s : DS) : Prop where
  ext : Ext c F0 H0 F H
  cell : Cell Γ.K c s F H
  len : σ.length = ρ.length
  val : ∀ (i : Nat) (d : D), ρ[i]? = some (some d) → i ∉ own → ∃ v, σ[i]? = some (some v) ∧ Rp Γ.K F v d
  mine : ∀ (i : Nat) (d : D), ρ[i]? = some (some d) → i ∈ own → ∃ p vs ds, σ[i]? = some (some (.ref p)) ∧ d = .list ds ∧ F p = none ∧ H p = some (.lst vs) ∧ c ≠ some p ∧ H0 p = none ∧ RpA Γ.K F vs ds
  dist : ∀ (i j : Nat) (d e : D) (p : Addr), i ∈ own → j ∈ own → ρ[i]? = some (some d) → ρ[j]? = some (some e) → σ[i]? = some (some (.ref p)) → σ[j]? = some (some (.ref p)) → i = j
  hdl : ∀ i, Γ.st = some i → ∃ p, c = some p ∧ σ[i]? = some (some (.ref p))
theorem Good.sub {Γ : Ga} {c : Option Addr} {F0 H0 F H : Hp} {own : List Nat} {σ : St} {ρ : Rho} {s : DS} (g : Good Γ c F0 H0 own F H σ ρ s) : Ex F H := g.ext.fh
theorem Good.go {Γ : Ga} {c : Option Addr} {F0 H0 F H F' H' : Hp} {own : List Nat} {σ : St} {ρ : Rho} {s s' : DS} (g : Good Γ c F0 H0 own F H σ ρ s) (e : Ext c F H F' H') (cl : Cell Γ.K c s' F' H') : Good Γ c F0 H0 own F' H' σ ρ s' where
  ext := g.ext.trans e g.cell.at
  cell := cl
  len := g.len
  val := fun i d h n => by
    obtain ⟨v, h1, h2⟩ := g.val i d h n
    exact ⟨v, h1, h2.mono e.ff⟩
  mine := fun i d h n => by
    obtain ⟨p, vs, ds, h1, h2, h3, h4, h5, h6, h7⟩ := g.mine i d h n
    refine ⟨p, vs, ds, h1, h2, ?_, e.hh p _ h5 h4, h5, h6, h7.mono e.ff⟩
    cases q : F' p with
    | none => rfl
    | some o =>
      rcases e.nw p (by rw [q]; simp) with z | z
      · exact absurd h3 z
      · rw [h4] at z; cases z
  dist := g.dist
  hdl := g.hdl
/-! ### what is shown of a reading -/
section
variable {α β : Type}
def Post (Γ : Ga) (c : Option Addr) (F H : Hp) (σ : St) (R : Hp → Hp → β → α → Prop) (r : Res α) (Q : β → Hp → Prop) : Prop := match r with
  | .ok d s' => ∀ v F' H', Ext c F H F' H' → Cell Γ.K c s' F' H' → R F' H' v d → Q v H'
  | .er e s' => ∀ cls dd F' H', Ext c F H F' H' → Cell Γ.K c s' F' H' → Raised Γ.K Γ.mg F' H' e cls dd → Γ.W cls dd σ H'
  | .bad => False
def Snd (Γ : Ga) (own : List Nat) (R : Option Addr → Hp → Hp → β → α → Prop) (t : St → Hp → (β → Hp → Prop) → Prop) (m : Mr α) : Prop :=
  ∀ c F0 H0 F H σ ρ s Q, Good Γ c F0 H0 own F H σ ρ s → Post Γ c F H σ (R c) (m ρ s) Q → t σ H Q
variable {Γ : Ga} {c : Option Addr} {F H F1 H1 : Hp} {σ : St} {R : Hp → Hp → β → α → Prop} {r : Res α} {Q : β → Hp → Prop}
theorem Post.from (h : Post Γ c F H σ R r Q) (e : Ext c F H F1 H1) (hc : ∀ p, c = some p → F1 p = none ∧ H1 p ≠ none) : Post Γ c F1 H1 σ R r Q := by
  cases r with
  | ok d s => exact fun v F' H' e' c' r' => h v F' H' (e.trans e' hc) c' r'
  | er x s => exact fun cls dd F' H' e' c' r' => h cls dd F' H' (e.trans e' hc) c' r'
  | bad => exact h
theorem Post.step {α₁ β₁ : Type} {r₁ : Res α₁} {f : α₁ → DS → Res α} {R₁ : Hp → Hp → β₁ → α₁ → Prop} {Q₁ : β₁ → Hp → Prop} (h : Post Γ c F H σ R (r₁.bind f) Q)
    (k : ∀ d s v F1 H1, Ext c F H F1 H1 → Cell Γ.K c s F1 H1 → R₁ F1 H1 v d → Post Γ c F1 H1 σ R (f d s) Q → Q₁ v H1) : Post Γ c F H σ R₁ r₁ Q₁ := by
  cases r₁ with
  | ok d s => exact fun v F' H' e' c' r' => k d s v F' H' e' c' r' (Post.from h e' c'.at)
  | er x s => exact h
  | bad => exact h
end
/-- a list that is the def's own, or frozen data -/
def RB (K : PySem.W.Frag) (c : Option Addr) (F H : Hp) (v : V) (d : D) : Prop :=
  Rp K F v d ∨ ∃ a xs ds, v = .ref a ∧ d = .list ds ∧ H a = some (.lst xs) ∧ c ≠ some a ∧ RpA K F xs ds
theorem RB.go {K : PySem.W.Frag} {c : Option Addr} {F H F' H' : Hp} {v : V} {d : D} (h : RB K c F H v d) (e : Ext c F H F' H') : RB K c F' H' v d := by
  rcases h with h | ⟨a, xs, ds, h1, h2, h3, h4, h5⟩
  · exact .inl (h.mono e.ff)
  · exact .inr ⟨a, xs, ds, h1, h2, e.hh a _ h4 h3, h4, h5.mono e.ff⟩
theorem RB.dp {K : PySem.W.Frag} {c : Option Addr} {F H : Hp} {v : V} {d : D} (h : RB K c F H v d) (e : Ex F H) : Dp K H v d := by
  rcases h with h | ⟨a, xs, ds, h1, h2, h3, h4, h5⟩
  · exact (h.mono e).dp
  · subst h1 h2; exact .lst (SqL.of h3) (h5.mono e).dp
theorem RB.list_inv {K : PySem.W.Frag} {c : Option Addr} {F H : Hp} {v : V} {ds : List D} (h : RB K c F H v (.list ds)) (e : Ex F H) : ∃ a xs, v = .ref a ∧ H a = some (.lst xs) ∧ RpA K F xs ds := by
  rcases h with h | ⟨a, xs, ds', h1, h2, h3, h4, h5⟩
  · obtain ⟨a, xs, h1, h2, h3⟩ := h.list_inv
    exact ⟨a, xs, h1, e _ _ h2, h3⟩
  · cases h2; exact ⟨a, xs, h1, h3, h5⟩
theorem RB.tuple_inv {K : PySem.W.Frag} {c : Option Addr} {F H : Hp} {v : V} {ds : List D} (h : RB K c F H v (.tuple ds)) : ∃ a xs, v = .ref a ∧ SqT K F a xs ∧ RpA K F xs ds := by
  rcases h with h | ⟨a, xs, ds', h1, h2, h3, h4, h5⟩
  · exact h.tuple_inv
  · cases h2
theorem RB.int_inv {K : PySem.W.Frag} {c : Option Addr} {F H : Hp} {v : V} {i : Int} (h : RB K c F H v (.int i)) : v = .int i := by
  rcases h with h | ⟨a, xs, ds', h1, h2, h3, h4, h5⟩
  · exact h.int_inv
  · cases h2
theorem RB.bool_inv {K : PySem.W.Frag} {c : Option Addr} {F H : Hp} {v : V} {i : Bool} (h : RB K c F H v (.bool i)) : v = .bl i := by
  rcases h with h | ⟨a, xs, ds', h1, h2, h3, h4, h5⟩
  · exact h.bool_inv
  · cases h2
theorem RB.str_inv {K : PySem.W.Frag} {c : Option Addr} {F H : Hp} {v : V} {i : Str} (h : RB K c F H v (.str i)) : v = .str i := by
  rcases h with h | ⟨a, xs, ds', h1, h2, h3, h4, h5⟩
  · exact h.str_inv
  · cases h2
theorem RB.none_inv {K : PySem.W.Frag} {c : Option Addr} {F H : Hp} {v : V} (h : RB K c F H v .none) : v = .non := by
  rcases h with h | ⟨a, xs, ds', h1, h2, h3, h4, h5⟩
  · exact h.none_inv
  · cases h2
/-- e gives frozen data | a list that may be the def's own | a truth value | arguments -/
def ME (Γ : Ga) (own : List Nat) (e : Expr) (m : Mr D) : Prop := ∃ t : TE, (∀ X, Fm Γ X → PE X e t) ∧ Snd Γ own (fun _ F _ v d => Rp Γ.K F v d) t m
def MB (Γ : Ga) (own : List Nat) (e : Expr) (m : Mr D) : Prop := ∃ t : TE, (∀ X, Fm Γ X → PE X e t) ∧ Snd Γ own (fun c F H v d => RB Γ.K c F H v d) t m
def MT (Γ : Ga) (own : List Nat) (e : Expr) (m : Mr Bool) : Prop := ∃ t : TT, (∀ X, Fm Γ X → PT X e t) ∧ Snd Γ own (fun _ _ _ v d => v = d) t m
def MW (Γ : Ga) (own : List Nat) (e : Expr) (m : Mr Bool) : Prop := ∃ t : TT, (∀ X, Fm Γ X → PW X e t) ∧ Snd Γ own (fun _ _ _ v d => v = d) t m
def MA (Γ : Ga) (own : List Nat) (es : List Expr) (m : Mr (List D)) : Prop := ∃ t : TA, (∀ X, Fm Γ X → PA X es t) ∧ Snd Γ own (fun _ F _ v d => RpA Γ.K F v d) t m
section
variable {Γ : Ga} {own : List Nat} {e : Expr} {es : List Expr} {m ma mb : Mr D}
theorem Post.weak {α β : Type} {Γ : Ga} {c : Option Addr} {F H : Hp} {σ : St} {R R' : Hp → Hp → β → α → Prop} {r : Res α} {Q : β → Hp → Prop} (h : Post Γ c F H σ R' r Q) (k : ∀ F' H' v d, R F' H' v d → R' F' H' v d) : Post Γ c F H σ R r Q := by
  cases r with
  | ok d s => exact fun v F' H' e' c' r' => h v F' H' e' c' (k _ _ _ _ r')
  | er x s => exact h
  | bad => exact h
theorem ME.b (h : ME Γ own e m) : MB Γ own e m := by
  obtain ⟨t, h1, h2⟩ := h
  exact ⟨t, h1, fun c F0 H0 F H σ ρ s Q g p => h2 c F0 H0 F H σ ρ s Q g (p.weak fun _ _ _ _ r => .inl r)⟩
/-! ### names and constants -/
def mName (i : Nat) : Mr D := fun ρ s => match ρ[i]? with
  | some (some d) => .ok d s
  | _ => .bad
def mC (d : D) : Mr D := fun _ s => .ok d s
theorem ME.name (i : Nat) {x : Str} {pos : Pos} (hN : Γ.N[i]? = some x) (hv : Vis Γ.sc x) (ho : i ∉ own) (hd : (x == ("__debug__" : Str)) = false) (hcd : (x == ("__classdict__" : Str)) = false) : ME Γ own (.Name x pos) (mName i) := by
  refine ⟨tVar i, fun X hX => pe_var (by rw [hX.N]; exact hN) (by rw [hX.sc]; exact hv) hd hcd, fun c F0 H0 F H σ ρ s Q g p => ?_⟩
  unfold mName at p
  cases q : ρ[i]? with
  | none => rw [q] at p; exact p.elim
  | some o =>
    cases o with
    | none => rw [q] at p; exact p.elim
    | some d =>
      rw [q] at p
      obtain ⟨v, h1, h2⟩ := g.val i d q ho
      exact ⟨v, h1, p v F H (Ext.refl g.sub) g.cell h2⟩
theorem MB.mine (i : Nat) {x : Str} {pos : Pos} (hN : Γ.N[i]? = some x) (hv : Vis Γ.sc x) (ho : i ∈ own) (hd : (x == ("__debug__" : Str)) = false) (hcd : (x == ("__classdict__" : Str)) = false) : MB Γ own (.Name x pos) (mName i) := by
  refine ⟨tVar i, fun X hX => pe_var (by rw [hX.N]; exact hN) (by rw [hX.sc]; exact hv) hd hcd, fun c F0 H0 F H σ ρ s Q g p => ?_⟩
  unfold mName at p
  cases q : ρ[i]? with
  | none => rw [q] at p; exact p.elim
  | some o =>
    cases o with
    | none => rw [q] at p; exact p.elim
    | some d =>
      rw [q] at p
      obtain ⟨a, vs, ds, h1, h2, h3, h4, h5, h6, h7⟩ := g.mine i d q ho
      exact ⟨_, h1, p _ F H (Ext.refl g.sub) g.cell (.inr ⟨a, vs, ds, rfl, h2, h4, h5, h7⟩)⟩
theorem ME.const {d : D} {v : V} (hp : ∀ X : Cx, PE X e (tC v)) (hr : ∀ K F, Rp K F v d) : ME Γ own e (mC d) :=
  ⟨tC v, fun X _ => hp X, fun c F0 H0 F H σ ρ s Q g p => p v F H (Ext.refl g.sub) g.cell (hr _ _)⟩
end
end M
set_option maxRecDepth 100000
set_option maxHeartbeats 4000000
/-! The mirror layer, part 2: expressions. -/
namespace M
open PySem L2
section
variable {Γ : Ga} {own : List Nat} {e a b c₁ : Expr} {es rest : List Expr} {m ma mb mc : Mr D} {mt mu mv : Mr Bool} {pos p1 p2 : Pos}
theorem ME.cint {i : Int} {j} : ME Γ own (.Constant (.int i) j pos) (mC (.int i)) := ME.const (v := .int i) (fun _ => pe_int) fun _ _ => .int i
theorem ME.cstr {i : Str} {j} : ME Γ own (.Constant (.str i) j pos) (mC (.str i)) := ME.const (v := .str i) (fun _ => pe_str) fun _ _ => .str i
theorem ME.cbool {i : Bool} {j} : ME Γ own (.Constant (.bool i) j pos) (mC (.bool i)) := ME.const (v := .bl i) (fun _ => pe_bl) fun _ _ => .bl i
theorem ME.cnone {j} : ME Γ own (.Constant .none j pos) (mC .none) := ME.const (v := .non) (fun _ => pe_non) fun _ _ => .non
/-! ### arguments, displays -/
def mNil : Mr (List D) := fun _ s => .ok [] s
def mCons (m : Mr D) (r : Mr (List D)) : Mr (List D) := fun ρ s => (m ρ s).bind fun x s => (r ρ s).bind fun xs s => .ok (x :: xs) s
theorem MA.nil : MA Γ own [] mNil := ⟨tNil, fun _ _ => pa_nil, fun c F0 H0 F H σ ρ s Q g p => p [] F H (Ext.refl g.sub) g.cell .nil⟩
theorem MA.cons {r : Mr (List D)} (h : ME Γ own e m) (hr : MA Γ own es r) (hs : ∀ env, starEach (e :: es) env = (false, eval e env) :: starEach es env) : MA Γ own (e :: es) (mCons m r) := by
  obtain ⟨t, h1, h2⟩ := h
  obtain ⟨u, r1, r2⟩ := hr
  refine ⟨tCons t u, fun X hX => pa_cons (h1 X hX) (r1 X hX) (hs _), fun c F0 H0 F H σ ρ s Q g p => ?_⟩
  refine h2 c F0 H0 F H σ ρ s _ g (Post.step p fun d s1 v F1 H1 e1 c1 r' p1 => ?_)
  have g1 := g.go e1 c1
  refine r2 c F0 H0 F1 H1 σ ρ s1 _ g1 (Post.step p1 fun ds s2 vs F2 H2 e2 c2 r2' p2 => ?_)
  exact p2 (v :: vs) F2 H2 (Ext.refl e2.fh) c2 (.cons (r'.mono e2.ff) r2')
def sz : Nat → Bool := fun n => decide (n ≤ sizeLine)
theorem sz_ok {n : Nat} (h : sz n = true) : n ≤ sizeLine := of_decide_eq_true h
def mTup (r : Mr (List D)) : Mr D := fun ρ s => (r ρ s).bind fun xs s => bif sz xs.length then .ok (.tuple xs) s else .bad
def mLst (r : Mr (List D)) : Mr D := fun ρ s => (r ρ s).bind fun xs s => bif sz xs.length then .ok (.list xs) s else .bad
theorem ME.tup {x1} {r : Mr (List D)} (h : MA Γ own es r) : ME Γ own (.Tuple es x1 pos) (mTup r) := by
  obtain ⟨t, h1, h2⟩ := h
  refine ⟨tTup t, fun X hX => pe_tup (h1 X hX), fun c F0 H0 F H σ ρ s Q g p => ?_⟩
  refine h2 c F0 H0 F H σ ρ s _ g (Post.step p fun ds s1 vs F1 H1 e1 c1 r' p1 => ?_)
  cases hz : sz ds.length with
  | false => rw [hz] at p1; exact p1.elim
  | true =>
    rw [hz] at p1
    refine ⟨by rw [r'.length]; exact sz_ok hz, fun q hq => ?_⟩
    have ex : Ext c F1 H1 (upd F1 q (.tup vs)) (upd H1 q (.tup vs)) := Ext.made e1.fh hq
    refine p1 _ _ _ ex (c1.keep (Ext.made e1.fh hq)) (.tup (SqT.of upd_same) (r'.mono ex.ff))
theorem ME.lst {r : Mr (List D)} (h : MA Γ own es r) : ME Γ own (.List es pos) (mLst r) := by
  obtain ⟨t, h1, h2⟩ := h
  refine ⟨tLst t, fun X hX => pe_lst (h1 X hX), fun c F0 H0 F H σ ρ s Q g p => ?_⟩
  refine h2 c F0 H0 F H σ ρ s _ g (Post.step p fun ds s1 vs F1 H1 e1 c1 r' p1 => ?_)
  cases hz : sz ds.length with
  | false => rw [hz] at p1; exact p1.elim
  | true =>
    rw [hz] at p1
    refine ⟨by rw [r'.length]; exact sz_ok hz, fun q hq => ?_⟩
    have ex : Ext c F1 H1 (upd F1 q (.lst vs)) (upd H1 q (.lst vs)) := Ext.made e1.fh hq
    refine p1 _ _ _ ex (c1.keep (Ext.made e1.fh hq)) (.lst upd_same (r'.mono ex.ff))
/-! ### operations by values -/
def PoD (K : PySem.W.Frag) (F H : Hp) (o : Option D) (Q : VK) : Prop := match o with
  | some d => ∀ v F' H', Ext none F H F' H' → Rp K F' v d → Q v H'
  | none => False
def ofO (o : Option D) (s : DS) : Res D := match o with
  | some d => .ok d s
  | none => .bad
theorem PoD.of {c : Option Addr} {F1 H1 : Hp} {σ : L2.St} {s : DS} {Q : VK} {o : Option D} (p : Post Γ c F1 H1 σ (fun F' _ v d => Rp Γ.K F' v d) (ofO o s) Q) (cl : Cell Γ.K c s F1 H1) : PoD Γ.K F1 H1 o Q := by
  cases o with
  | none => exact p
  | some d => exact fun v F' H' e r => p v F' H' e.of0 (cl.keep e) r
def OpS (K : PySem.W.Frag) (r : R2) (f : D → D → Option D) : Prop :=
  ∀ c F H x y dx dy Q, Ex F H → RB K c F H x dx → RB K c F H y dy → PoD K F H (f dx dy) Q → r x y H Q
def mOp2 (f : D → D → Option D) (ma mb : Mr D) : Mr D := fun ρ s => (ma ρ s).bind fun x s => (mb ρ s).bind fun y s => ofO (f x y) s
theorem snd_op2 {ta tb : TE} {r : R2} {f : D → D → Option D} (hs : OpS Γ.K r f) (ha : Snd Γ own (fun c F H v d => RB Γ.K c F H v d) ta ma) (hb : Snd Γ own (fun c F H v d => RB Γ.K c F H v d) tb mb) :
    Snd Γ own (fun _ F _ v d => Rp Γ.K F v d) (tOp r ta tb) (mOp2 f ma mb) := fun c F0 H0 F H σ ρ s Q g p => by
  refine ha c F0 H0 F H σ ρ s _ g (Post.step p fun d s1 v F1 H1 e1 c1 r' p1 => ?_)
  refine hb c F0 H0 F1 H1 σ ρ s1 _ (g.go e1 c1) (Post.step p1 fun d2 s2 v2 F2 H2 e2 c2 r2' p2 => ?_)
  exact hs c F2 H2 v v2 d d2 Q e2.fh (r'.go e2) r2' (PoD.of p2 c2)
theorem ME.op2 {op : Operator} {r : R2} {f : D → D → Option D} (ho : ∀ X, Fm Γ X → OpR X (binaryOp op) r) (hs : OpS Γ.K r f) (ha : MB Γ own a ma) (hb : MB Γ own b mb) : ME Γ own (.BinOp a op b pos) (mOp2 f ma mb) := by
  obtain ⟨ta, a1, a2⟩ := ha
  obtain ⟨tb, b1, b2⟩ := hb
  exact ⟨tOp r ta tb, fun X hX => pe_op (ho X hX) (a1 X hX) (b1 X hX), snd_op2 hs a2 b2⟩
theorem ME.cmp {op : CmpOp} {r : R2} {f : D → D → Option D} (ho : ∀ X, Fm Γ X → OpR X (compareOp op) r) (hs : OpS Γ.K r f) (ha : MB Γ own a ma) (hb : MB Γ own b mb) (hm : behindInMarks op b = false) : ME Γ own (.Compare a [op] [b] pos) (mOp2 f ma mb) := by
  obtain ⟨ta, a1, a2⟩ := ha
  obtain ⟨tb, b1, b2⟩ := hb
  exact ⟨tOp r ta tb, fun X hX => pe_cmpR (ho X hX) (a1 X hX) (b1 X hX) hm, snd_op2 hs a2 b2⟩
def mTest (m : Mr D) : Mr Bool := fun ρ s => (m ρ s).bind fun d s => match d with
  | .bool b => .ok b s
  | _ => .bad
theorem snd_test {t : TE} (h : Snd Γ own (fun _ F _ v d => Rp Γ.K F v d) t m) : Snd Γ own (fun _ _ _ v d => v = d) (tTest t) (mTest m) := fun c F0 H0 F H σ ρ s Q g p => by
  refine h c F0 H0 F H σ ρ s _ g (Post.step p fun d s1 v F1 H1 e1 c1 r' p1 => ?_)
  cases d with
  | bool k => exact ⟨k, Rp.bool_inv r', p1 k F1 H1 (Ext.refl e1.fh) c1 rfl⟩
  | _ => exact p1.elim
theorem MT.cmp {op : CmpOp} {r : R2} {f : D → D → Option D} (ho : ∀ X, Fm Γ X → OpR X (compareOp op) r) (hs : OpS Γ.K r f) (ha : MB Γ own a ma) (hb : MB Γ own b mb) (hm : behindInMarks op b = false) : MT Γ own (.Compare a [op] [b] pos) (mTest (mOp2 f ma mb)) := by
  obtain ⟨ta, a1, a2⟩ := ha
  obtain ⟨tb, b1, b2⟩ := hb
  exact ⟨tTest (tOp r ta tb), fun X hX => pt_cmpR (ho X hX) (a1 X hX) (b1 X hX) hm, snd_test (snd_op2 hs a2 b2)⟩
theorem MT.val (h : ME Γ own e m) (he : ∀ env whole, isTrue e env whole = (do let v ← whole; standAt e.pos; holding [v] (truthy v))) : MT Γ own e (mTest m) := by
  obtain ⟨t, h1, h2⟩ := h
  exact ⟨tTest t, fun X hX => pt_val (h1 X hX) (he _), snd_test h2⟩
/-! ### and, or, not, if -/
def mAnd (a b : Mr Bool) : Mr Bool := fun ρ s => (a ρ s).bind fun x s => bif x then b ρ s else .ok false s
def mOr (a b : Mr Bool) : Mr Bool := fun ρ s => (a ρ s).bind fun x s => bif x then .ok true s else b ρ s
def mNot (a : Mr Bool) : Mr Bool := fun ρ s => (a ρ s).bind fun x s => .ok (!x) s
theorem MW.and1 (h : MT Γ own a mt) : MW Γ own (.BoolOp .And [a] pos) mt := by
  obtain ⟨t, h1, h2⟩ := h
  exact ⟨t, fun X hX => pw_and1 (h1 X hX), h2⟩
theorem MW.or1 (h : MT Γ own a mt) : MW Γ own (.BoolOp .Or [a] pos) mt := by
  obtain ⟨t, h1, h2⟩ := h
  exact ⟨t, fun X hX => pw_or1 (h1 X hX), h2⟩
theorem MW.and (ha : MT Γ own a mt) (hb : MW Γ own (.BoolOp .And (b :: rest) pos) mu) : MW Γ own (.BoolOp .And (a :: b :: rest) pos) (mAnd mt mu) := by
  obtain ⟨t, h1, h2⟩ := ha
  obtain ⟨u, u1, u2⟩ := hb
  refine ⟨tAnd t u, fun X hX => pw_and (h1 X hX) (u1 X hX), fun c F0 H0 F H σ ρ s Q g p => ?_⟩
  refine h2 c F0 H0 F H σ ρ s _ g (Post.step p fun d s1 v F1 H1 e1 c1 r' p1 => ?_)
  subst r'
  cases v with
  | true => exact u2 c F0 H0 F1 H1 σ ρ s1 Q (g.go e1 c1) p1
  | false => exact p1 false F1 H1 (Ext.refl e1.fh) c1 rfl
theorem MW.or (ha : MT Γ own a mt) (hb : MW Γ own (.BoolOp .Or (b :: rest) pos) mu) : MW Γ own (.BoolOp .Or (a :: b :: rest) pos) (mOr mt mu) := by
  obtain ⟨t, h1, h2⟩ := ha
  obtain ⟨u, u1, u2⟩ := hb
  refine ⟨tOr t u, fun X hX => pw_or (h1 X hX) (u1 X hX), fun c F0 H0 F H σ ρ s Q g p => ?_⟩
  refine h2 c F0 H0 F H σ ρ s _ g (Post.step p fun d s1 v F1 H1 e1 c1 r' p1 => ?_)
  subst r'
  cases v with
  | true => exact p1 true F1 H1 (Ext.refl e1.fh) c1 rfl
  | false => exact u2 c F0 H0 F1 H1 σ ρ s1 Q (g.go e1 c1) p1
theorem MW.t (h : MW Γ own e mt) : MT Γ own e mt := by
  obtain ⟨t, h1, h2⟩ := h
  exact ⟨t, fun X hX => (h1 X hX).pt, h2⟩
theorem MT.not (h : MT Γ own a mt) : MT Γ own (.UnaryOp .Not a pos) (mNot mt) := by
  obtain ⟨t, h1, h2⟩ := h
  refine ⟨tNot t, fun X hX => pt_not (h1 X hX), fun c F0 H0 F H σ ρ s Q g p => ?_⟩
  refine h2 c F0 H0 F H σ ρ s _ g (Post.step p fun d s1 v F1 H1 e1 c1 r' p1 => ?_)
  subst r'
  exact p1 (!v) F1 H1 (Ext.refl e1.fh) c1 rfl
def mIf (t : Mr Bool) (a b : Mr D) : Mr D := fun ρ s => (t ρ s).bind fun x s => bif x then a ρ s else b ρ s
theorem ME.ife {c : Expr} (hc : MT Γ own c mt) (ha : ME Γ own a ma) (hb : ME Γ own b mb) : ME Γ own (.IfExp c a b pos) (mIf mt ma mb) := by
  obtain ⟨t, h1, h2⟩ := hc
  obtain ⟨ta, a1, a2⟩ := ha
  obtain ⟨tb, b1, b2⟩ := hb
  refine ⟨tIf t ta tb, fun X hX => pe_ifExp (h1 X hX) (a1 X hX) (b1 X hX), fun c F0 H0 F H σ ρ s Q g p => ?_⟩
  refine h2 c F0 H0 F H σ ρ s _ g (Post.step p fun d s1 v F1 H1 e1 c1 r' p1 => ?_)
  subst r'
  cases v with
  | true => exact a2 c F0 H0 F1 H1 σ ρ s1 Q (g.go e1 c1) p1
  | false => exact b2 c F0 H0 F1 H1 σ ρ s1 Q (g.go e1 c1) p1
/-- and, or, not as values: truth values all (the last any) -/
def mAndV (ma mb : Mr D) : Mr D := fun ρ s => (ma ρ s).bind fun d s => match d with
  | .bool true => mb ρ s
  | .bool false => .ok (.bool false) s
  | _ => .bad
def mOrV (ma mb : Mr D) : Mr D := fun ρ s => (ma ρ s).bind fun d s => match d with
  | .bool true => .ok (.bool true) s
  | .bool false => mb ρ s
  | _ => .bad
def mNotV (ma : Mr D) : Mr D := fun ρ s => (ma ρ s).bind fun d s => match d with
  | .bool b => .ok (.bool (!b)) s
  | _ => .bad
theorem ME.one {op} (h : ME Γ own a m) : ME Γ own (.BoolOp op [a] pos) m := by
  obtain ⟨t, h1, h2⟩ := h
  exact ⟨t, fun X hX => pe_one (h1 X hX), h2⟩
theorem ME.andV (ha : ME Γ own a ma) (hb : ME Γ own (.BoolOp .And (b :: rest) pos) mb) : ME Γ own (.BoolOp .And (a :: b :: rest) pos) (mAndV ma mb) := by
  obtain ⟨t, h1, h2⟩ := ha
  obtain ⟨u, u1, u2⟩ := hb
  refine ⟨tAndV t u, fun X hX => pe_and (h1 X hX) (u1 X hX), fun c F0 H0 F H σ ρ s Q g p => ?_⟩
  refine h2 c F0 H0 F H σ ρ s _ g (Post.step p fun d s1 v F1 H1 e1 c1 r' p1 => ?_)
  cases d with
  | bool k =>
    refine ⟨k, Rp.bool_inv r', ?_⟩
    cases k with
    | true => exact u2 c F0 H0 F1 H1 σ ρ s1 Q (g.go e1 c1) p1
    | false => exact p1 _ F1 H1 (Ext.refl e1.fh) c1 (.bl false)
  | _ => exact p1.elim
theorem ME.orV (ha : ME Γ own a ma) (hb : ME Γ own (.BoolOp .Or (b :: rest) pos) mb) : ME Γ own (.BoolOp .Or (a :: b :: rest) pos) (mOrV ma mb) := by
  obtain ⟨t, h1, h2⟩ := ha
  obtain ⟨u, u1, u2⟩ := hb
  refine ⟨tOrV t u, fun X hX => pe_or (h1 X hX) (u1 X hX), fun c F0 H0 F H σ ρ s Q g p => ?_⟩
  refine h2 c F0 H0 F H σ ρ s _ g (Post.step p fun d s1 v F1 H1 e1 c1 r' p1 => ?_)
  cases d with
  | bool k =>
    refine ⟨k, Rp.bool_inv r', ?_⟩
    cases k with
    | false => exact u2 c F0 H0 F1 H1 σ ρ s1 Q (g.go e1 c1) p1
    | true => exact p1 _ F1 H1 (Ext.refl e1.fh) c1 (.bl true)
  | _ => exact p1.elim
theorem ME.notV (ha : ME Γ own a ma) : ME Γ own (.UnaryOp .Not a pos) (mNotV ma) := by
  obtain ⟨t, h1, h2⟩ := ha
  refine ⟨tNotV t, fun X hX => pe_not (h1 X hX), fun c F0 H0 F H σ ρ s Q g p => ?_⟩
  refine h2 c F0 H0 F H σ ρ s _ g (Post.step p fun d s1 v F1 H1 e1 c1 r' p1 => ?_)
  cases d with
  | bool k => exact ⟨k, Rp.bool_inv r', p1 _ F1 H1 (Ext.refl e1.fh) c1 (.bl _)⟩
  | _ => exact p1.elim
/-! ### subscripts, slices -/
def fIx (x y : D) : Option D := match x, y with
  | .list ds, .int i => atI ds i
  | .tuple ds, .int i => atI ds i
  | .str z, .int i => bif sz z.length then (atI z.cps.toList i).map fun c => .str ⟨#[c]⟩ else none
  | _, _ => none
theorem atI_rp {K : PySem.W.Frag} {F : Hp} {xs : List V} {ds : List D} {i : Int} {d : D} (h : RpA K F xs ds) (e : atI ds i = some d) : ∃ v, atI xs i = some v ∧ Rp K F v d := by
  unfold atI at e ⊢
  rw [h.length]
  cases q : ixN ds.length i with
  | none => rw [q] at e; cases e
  | some j =>
    rw [q] at e
    obtain ⟨v, h1, h2⟩ := h.get (i := j) e
    exact ⟨v, h1, h2⟩
theorem ops_ix (K : PySem.W.Frag) : OpS K (rIx K) fIx := by
  intro c F H x y dx dy Q hF hx hy p
  unfold fIx at p
  split at p
  · rename_i ds i
    obtain ⟨a, xs, h1, h2, h3⟩ := hx.list_inv hF
    have hy := hy.int_inv
    cases q : atI ds i with
    | none => rw [q] at p; exact p.elim
    | some d =>
      rw [q] at p
      obtain ⟨v, v1, v2⟩ := atI_rp h3 q
      exact .inl ⟨a, xs, i, v, h1, hy, SqL.of h2, v1, p v F H (Ext.refl hF) v2⟩
  · rename_i ds i
    obtain ⟨a, xs, h1, h2, h3⟩ := hx.tuple_inv
    have hy := hy.int_inv
    cases q : atI ds i with
    | none => rw [q] at p; exact p.elim
    | some d =>
      rw [q] at p
      obtain ⟨v, v1, v2⟩ := atI_rp h3 q
      exact .inr (.inl ⟨a, xs, i, v, h1, hy, ex_t hF h2, v1, p v F H (Ext.refl hF) v2⟩)
  · rename_i z i
    have hx := hx.str_inv
    have hy := hy.int_inv
    cases hz : sz z.length with
    | false => rw [hz] at p; exact p.elim
    | true =>
      rw [hz] at p
      cases q : atI z.cps.toList i with
      | none => rw [q] at p; exact p.elim
      | some k =>
        rw [q] at p
        exact .inr (.inr ⟨z, i, k, hx, hy, sz_ok hz, q, p _ F H (Ext.refl hF) (.str _)⟩)
  · exact p.elim
theorem ME.ix (ha : MB Γ own a ma) (hb : MB Γ own b mb) (hs : PlainIx b) : ME Γ own (.Subscript a b pos) (mOp2 fIx ma mb) := by
  obtain ⟨ta, a1, a2⟩ := ha
  obtain ⟨tb, b1, b2⟩ := hb
  refine ⟨tOp (rIx Γ.K) ta tb, fun X hX => ?_, snd_op2 (ops_ix Γ.K) a2 b2⟩
  have h := pe_ix (X := X) (pos := pos) ix_seq (a1 X hX) (b1 X hX) hs
  rw [hX.K] at h
  exact h
/-- a slice's part -/
def MO (Γ : Ga) (own : List Nat) (e : Option Expr) (m : Mr (Option Int)) : Prop := ∃ t : TO, (∀ X, Fm Γ X → PO X e t) ∧ Snd Γ own (fun _ _ _ v d => v = d) t m
def mNoPart : Mr (Option Int) := fun _ s => .ok none s
def mPart (m : Mr D) : Mr (Option Int) := fun ρ s => (m ρ s).bind fun d s => match d with
  | .int i => .ok (some i) s
  | _ => .bad
theorem MO.none : MO Γ own none mNoPart := ⟨tNoPart, fun _ _ => po_none, fun c F0 H0 F H σ ρ s Q g p => p _ F H (Ext.refl g.sub) g.cell rfl⟩
theorem MO.some (h : ME Γ own e m) : MO Γ own (some e) (mPart m) := by
  obtain ⟨t, h1, h2⟩ := h
  refine ⟨tPart t, fun X hX => po_some (h1 X hX), fun c F0 H0 F H σ ρ s Q g p => ?_⟩
  refine h2 c F0 H0 F H σ ρ s _ g (Post.step p fun d s1 v F1 H1 e1 c1 r' p1 => ?_)
  cases d with
  | int k => exact ⟨k, Rp.int_inv r', p1 _ F1 H1 (Ext.refl e1.fh) c1 rfl⟩
  | _ => exact p1.elim
def cutD {α : Type} (xs : List α) (lo hi : Option Int) : List α := (xs.drop (HT.sIx xs.length 0 lo)).take (HT.sIx xs.length xs.length hi - HT.sIx xs.length 0 lo)
theorem RpA.cut {K : PySem.W.Frag} {F : Hp} {xs : List V} {ds : List D} (h : RpA K F xs ds) (lo hi : Option Int) : RpA K F (cutV xs lo hi) (cutD ds lo hi) := by
  unfold cutV cutD
  rw [h.length]
  exact (h.drop _).take _
def fSl (x : D) (lo hi : Option Int) : Option D := match x with
  | .list ds => some (.list (cutD ds lo hi))
  | .tuple ds => some (.tuple (cutD ds lo hi))
  | .str z => bif sz z.length then some (.str (cutS z lo hi)) else none
  | _ => none
theorem cut_all {α : Type} {xs : List α} {lo hi : Option Int} (h : HT.sIx xs.length 0 lo = 0 ∧ HT.sIx xs.length xs.length hi = xs.length) : cutD xs lo hi = xs := by
  unfold cutD
  rw [h.1, h.2]
  simp
/-- a slice of a tuple that is all of it is the tuple itself -/
def rSlT2 (K : PySem.W.Frag) : V → Option Int → Option Int → Hp → VK → Prop := fun x lo hi H Q => ∃ a xs, x = .ref a ∧ SqT K H a xs ∧
  ((HT.sIx xs.length 0 lo = 0 ∧ HT.sIx xs.length xs.length hi = xs.length) → Q (.ref a) H) ∧ (¬ (HT.sIx xs.length 0 lo = 0 ∧ HT.sIx xs.length xs.length hi = xs.length) → ∀ p, H p = none → Q (.ref p) (upd H p (.tup (cutV xs lo hi))))
def mSl (m : Mr D) (l h : Mr (Option Int)) : Mr D := fun ρ s => (m ρ s).bind fun x s => (l ρ s).bind fun lo s => (h ρ s).bind fun hi s => ofO (fSl x lo hi) s
def rSl (K : PySem.W.Frag) : V → Option Int → Option Int → Hp → VK → Prop := fun x lo hi H Q => rSlL K x lo hi H Q ∨ rSlT2 K x lo hi H Q ∨ rSlS x lo hi H Q
theorem sl_any {X : Cx} (ht : SlR X (rSlT2 X.K)) : SlR X (rSl X.K) := sl_list.or (ht.or sl_str)
theorem ops_sl {K : PySem.W.Frag} {c : Option Addr} {F H : Hp} {x : V} {dx : D} {lo hi : Option Int} {Q : VK} (hF : Ex F H) (hx : RB K c F H x dx) (p : PoD K F H (fSl dx lo hi) Q) : rSl K x lo hi H Q := by
  unfold fSl at p
  split at p
  · obtain ⟨a, xs, h1, h2, h3⟩ := hx.list_inv hF
    refine .inl ⟨a, xs, h1, SqL.of h2, fun q hq => ?_⟩
    exact p _ _ _ (Ext.made hF hq) (.lst upd_same ((h3.cut lo hi).mono (Ex.new (hF.none hq))))
  · obtain ⟨a, xs, h1, h2, h3⟩ := hx.tuple_inv
    subst h1
    refine .inr (.inl ⟨a, xs, rfl, ex_t hF h2, fun hh => ?_, fun hh q hq => ?_⟩)
    · rw [h3.length] at hh
      rw [cut_all hh] at p
      exact p _ F H (Ext.refl hF) (.tup h2 h3)
    · exact p _ _ _ (Ext.made hF hq) (.tup (SqT.of upd_same) ((h3.cut lo hi).mono (Ex.new (hF.none hq))))
  · rename_i z
    cases hz : sz z.length with
    | false => rw [hz] at p; exact p.elim
    | true => rw [hz] at p; exact .inr (.inr ⟨z, hx.str_inv, sz_ok hz, p _ F H (Ext.refl hF) (.str _)⟩)
  · exact p.elim
end
end M
set_option maxRecDepth 100000
set_option maxHeartbeats 4000000
/-! The mirror layer, part 3: statements. -/
namespace M
open PySem L2
def PostS (Γ : Ga) (c : Option Addr) (F0 H0 F : Hp) (lo own : List Nat) (o : Out) (E : Ends) : Prop := match o with
  | .nx ρ' s' => ∀ σ' F' H', Ex F F' → Good Γ c F0 H0 own F' H' σ' ρ' s' → E.nx σ' H'
  | .rt d s' => ∀ v F' H', Ext c F0 H0 F' H' → Cell Γ.K c s' F' H' → Rp Γ.K F' v d → E.rt v H'
  | .bk ρ' s' => ∀ σ' F' H', Ex F F' → Good Γ c F0 H0 lo F' H' σ' ρ' s' → E.bk σ' H'
  | .ct ρ' s' => ∀ σ' F' H', Ex F F' → Good Γ c F0 H0 lo F' H' σ' ρ' s' → E.ct σ' H'
  | .er e s' => ∀ cls dd σ' F' H', Ext c F0 H0 F' H' → Cell Γ.K c s' F' H' → Raised Γ.K Γ.mg F' H' e cls dd → Γ.W cls dd σ' H'
  | .bad => False
def SndS (Γ : Ga) (lo own own' : List Nat) (t : TS) (m : Ms) : Prop :=
  ∀ c F0 H0 F H σ ρ s E, Good Γ c F0 H0 own F H σ ρ s → PostS Γ c F0 H0 F lo own' (m ρ s) E → t E σ H
def MS (Γ : Ga) (lo own own' : List Nat) (st : Stmt) (m : Ms) : Prop := ∃ t : TS, (∀ X, Fs Γ X → PS X st t) ∧ SndS Γ lo own own' t m
def MSs (Γ : Ga) (lo own own' : List Nat) (st : List Stmt) (m : Ms) : Prop := ∃ t : TS, (∀ X, Fs Γ X → PSs X st t) ∧ SndS Γ lo own own' t m
def Res.out {α : Type} (r : Res α) (f : α → DS → Out) : Out := match r with
  | .ok a s => f a s
  | .er e s => .er e s
  | .bad => .bad
section
variable {Γ : Ga} {lo own own' own₁ : List Nat} {e a b : Expr} {st : Stmt} {sts rest : List Stmt} {m : Mr D} {mt : Mr Bool} {ms mu : Ms} {pos p1 p2 : Pos}
theorem PostS.from {c : Option Addr} {F0 H0 F F1 : Hp} {o : Out} {E : Ends} (h : PostS Γ c F0 H0 F lo own o E) (e : Ex F F1) : PostS Γ c F0 H0 F1 lo own o E := by
  cases o with
  | nx ρ s => exact fun σ' F' H' x g => h σ' F' H' (e.trans x) g
  | bk ρ s => exact fun σ' F' H' x g => h σ' F' H' (e.trans x) g
  | ct ρ s => exact fun σ' F' H' x g => h σ' F' H' (e.trans x) g
  | rt d s => exact h
  | er d s => exact h
  | bad => exact h
theorem PostS.step {α β : Type} {c : Option Addr} {F0 H0 F H : Hp} {σ : L2.St} {ρ : Rho} {s : DS} {r : Res α} {f : α → DS → Out} {E : Ends} {R : Hp → Hp → β → α → Prop} {Q : β → Hp → Prop} (g : Good Γ c F0 H0 own F H σ ρ s)
    (h : PostS Γ c F0 H0 F lo own' (r.out f) E)
    (k : ∀ d s1 v F1 H1, Ext c F H F1 H1 → Cell Γ.K c s1 F1 H1 → R F1 H1 v d → Good Γ c F0 H0 own F1 H1 σ ρ s1 → PostS Γ c F0 H0 F1 lo own' (f d s1) E → Q v H1) : Post Γ c F H σ R r Q := by
  cases r with
  | ok d s1 => exact fun v F' H' e' c' r' => k d s1 v F' H' e' c' r' (g.go e' c') (PostS.from h e'.ff)
  | er x s1 => exact fun cls dd F' H' e' c' r' => h cls dd σ F' H' (g.ext.trans e' g.cell.at) c' r'
  | bad => exact h
/-! ### blocks -/
def mNext : Ms := fun ρ s => .nx ρ s
def mSeq (a b : Ms) : Ms := fun ρ s => match a ρ s with
  | .nx ρ s => b ρ s
  | o => o
theorem MSs.nil : MSs Γ lo own own [] mNext := ⟨tNext, fun _ _ => pss_nil, fun c F0 H0 F H σ ρ s E g p => p σ F H (Ex.refl F) g⟩
theorem MSs.one (h : MS Γ lo own own' st ms) : MSs Γ lo own own' [st] ms := by
  obtain ⟨t, h1, h2⟩ := h
  exact ⟨t, fun X hX => pss_one (h1 X hX), h2⟩
theorem MSs.cons (h : MS Γ lo own own₁ st ms) (hr : MSs Γ lo own₁ own' rest mu) : MSs Γ lo own own' (st :: rest) (mSeq ms mu) := by
  obtain ⟨t, h1, h2⟩ := h
  obtain ⟨u, u1, u2⟩ := hr
  refine ⟨tSeq t u, fun X hX => pss_cons (h1 X hX) (u1 X hX), fun c F0 H0 F H σ ρ s E g p => ?_⟩
  refine h2 c F0 H0 F H σ ρ s _ g ?_
  unfold mSeq at p
  cases q : ms ρ s with
  | nx ρ1 s1 =>
    rw [q] at p
    exact fun σ' F' H' x g' => u2 c F0 H0 F' H' σ' ρ1 s1 E g' (PostS.from p x)
  | bk ρ s => rw [q] at p; exact p
  | ct ρ s => rw [q] at p; exact p
  | rt d s => rw [q] at p; exact p
  | er d s => rw [q] at p; exact p
  | bad => rw [q] at p; exact p
/-- a list is frozen from here on -/
theorem Good.fz {c : Option Addr} {F0 H0 F H : Hp} {σ : L2.St} {ρ : Rho} {s : DS} (g : Good Γ c F0 H0 own F H σ ρ s) (i : Nat) : ∃ F', Ex F F' ∧ Good Γ c F0 H0 (own.filter (· ≠ i)) F' H σ ρ s := by
  have mem : ∀ {j : Nat}, j ∈ own.filter (· ≠ i) → j ∈ own ∧ j ≠ i := fun {j} h => by
    have := List.mem_filter.mp h
    exact ⟨this.1, of_decide_eq_true this.2⟩
  have nmem : ∀ {j : Nat}, j ∉ own.filter (· ≠ i) → j ∉ own ∨ j = i := fun {j} h => by
    by_cases hj : j = i
    · exact .inr hj
    · exact .inl fun z => h (List.mem_filter.mpr ⟨z, by simp [hj]⟩)
  by_cases hi : i ∈ own ∧ ∃ d, ρ[i]? = some (some d)
  · obtain ⟨hi, d, hd⟩ := hi
    obtain ⟨p, vs, ds, h1, h2, h3, h4, h5, h6, h7⟩ := g.mine i d hd hi
    have ef : Ex F (upd F p (.lst vs)) := Ex.new h3
    have fh : Ex (upd F p (.lst vs)) H := fun x o h => by
      by_cases hx : x = p
      · subst hx; rw [upd_same] at h; rw [← h]; exact h4
      · rw [upd_ne hx] at h; exact g.sub x o h
    refine ⟨upd F p (.lst vs), ef, ⟨⟨g.ext.ff.trans ef, fh, g.ext.hh, fun x n => ?_⟩, ?_, g.len, fun j d' hj n => ?_, fun j d' hj n => ?_, fun j k d' e' q hj hk => g.dist j k d' e' q (mem hj).1 (mem hk).1, g.hdl⟩⟩
    · by_cases hx : x = p
      · subst hx; exact .inr h6
      · rw [upd_ne hx] at n; exact g.ext.nw x n
    · have cl := g.cell
      cases c with
      | none => trivial
      | some q =>
        obtain ⟨c1, v, c2, c3⟩ := cl
        have : q ≠ p := fun z => h5 (by rw [z])
        exact ⟨by rw [upd_ne this]; exact c1, v, c2, c3.mono ef⟩
    · rcases nmem n with z | z
      · obtain ⟨v, v1, v2⟩ := g.val j d' hj z
        exact ⟨v, v1, v2.mono ef⟩
      · subst z
        rw [hd] at hj; cases hj
        subst h2
        exact ⟨_, h1, .lst upd_same (h7.mono ef)⟩
    · obtain ⟨q, ws, es, k1, k2, k3, k4, k5, k6, k7⟩ := g.mine j d' hj (mem n).1
      have : q ≠ p := fun z => (mem n).2 (g.dist j i d' d q (mem n).1 hi hj hd k1 (by rw [z]; exact h1))
      exact ⟨q, ws, es, k1, k2, by rw [upd_ne this]; exact k3, k4, k5, k6, k7.mono ef⟩
  · refine ⟨F, Ex.refl F, ⟨g.ext, g.cell, g.len, fun j d hj n => ?_, fun j d hj n => g.mine j d hj (mem n).1, fun j k d' e' q hj hk => g.dist j k d' e' q (mem hj).1 (mem hk).1, g.hdl⟩⟩
    rcases nmem n with z | z
    · exact g.val j d hj z
    · subst z
      exact g.val j d hj fun y => hi ⟨y, d, hj⟩
theorem MSs.fz (i : Nat) (h : MSs Γ lo own' own₁ sts ms) (e : own.filter (· ≠ i) = own') : MSs Γ lo own own₁ sts ms := by
  subst e
  obtain ⟨t, h1, h2⟩ := h
  refine ⟨t, h1, fun c F0 H0 F H σ ρ s E g p => ?_⟩
  obtain ⟨F', e1, g'⟩ := g.fz i
  exact h2 c F0 H0 F' H σ ρ s E g' (PostS.from p e1)
/-- .. behind a statement -/
theorem MS.fzB (i : Nat) (h : MS Γ lo own own₁ st ms) (e : own₁.filter (· ≠ i) = own') : MS Γ lo own own' st ms := by
  subst e
  obtain ⟨t, h1, h2⟩ := h
  refine ⟨t, h1, fun c F0 H0 F H σ ρ s E g p => h2 c F0 H0 F H σ ρ s E g ?_⟩
  cases q : ms ρ s with
  | nx ρ1 s1 =>
    rw [q] at p
    exact fun σ' F' H' x g' => by
      obtain ⟨F2, e2, g2⟩ := g'.fz i
      exact p σ' F2 H' (x.trans e2) g2
  | bk ρ s => rw [q] at p; exact p
  | ct ρ s => rw [q] at p; exact p
  | rt d s => rw [q] at p; exact p
  | er d s => rw [q] at p; exact p
  | bad => rw [q] at p; exact p
theorem MSs.fzB (i : Nat) (h : MSs Γ lo own own₁ sts ms) (e : own₁.filter (· ≠ i) = own') : MSs Γ lo own own' sts ms := by
  subst e
  obtain ⟨t, h1, h2⟩ := h
  refine ⟨t, h1, fun c F0 H0 F H σ ρ s E g p => h2 c F0 H0 F H σ ρ s E g ?_⟩
  cases q : ms ρ s with
  | nx ρ1 s1 =>
    rw [q] at p
    exact fun σ' F' H' x g' => by
      obtain ⟨F2, e2, g2⟩ := g'.fz i
      exact p σ' F2 H' (x.trans e2) g2
  | bk ρ s => rw [q] at p; exact p
  | ct ρ s => rw [q] at p; exact p
  | rt d s => rw [q] at p; exact p
  | er d s => rw [q] at p; exact p
  | bad => rw [q] at p; exact p
/-! ### small statements -/
theorem MS.pass : MS Γ lo own own (.Pass pos) mNext := ⟨tNext, fun _ _ => ps_pass, fun c F0 H0 F H σ ρ s E g p => p σ F H (Ex.refl F) g⟩
theorem MS.brk : MS Γ own own own' (.Break pos) (fun ρ s => .bk ρ s) := ⟨tBreak, fun _ _ => ps_break, fun c F0 H0 F H σ ρ s E g p => p σ F H (Ex.refl F) g⟩
theorem MS.cont : MS Γ own own own' (.Continue pos) (fun ρ s => .ct ρ s) := ⟨tCont, fun _ _ => ps_continue, fun c F0 H0 F H σ ρ s E g p => p σ F H (Ex.refl F) g⟩
def mRet (m : Mr D) : Ms := fun ρ s => (m ρ s).out fun d s => .rt d s
theorem MS.ret (h : ME Γ own e m) : MS Γ lo own own' (.Return (some e) pos) (mRet m) := by
  obtain ⟨t, h1, h2⟩ := h
  refine ⟨tRet t, fun X hX => ps_ret (h1 X hX.toFm), fun c F0 H0 F H σ ρ s E g p => ?_⟩
  exact h2 c F0 H0 F H σ ρ s _ g (PostS.step g p fun d s1 v F1 H1 e1 c1 r' g1 p1 => p1 v F1 H1 g1.ext c1 r')
/-- return of an own list -/
theorem MS.retOwn (i : Nat) {x : Str} {ps : Pos} (hN : Γ.N[i]? = some x) (hv : Vis Γ.sc x) (ho : i ∈ own) (hd : (x == ("__debug__" : Str)) = false) (hcd : (x == ("__classdict__" : Str)) = false) : MS Γ lo own own' (.Return (some (.Name x ps)) pos) (mRet (mName i)) := by
  have h : MS Γ lo (own.filter (· ≠ i)) own' (.Return (some (.Name x ps)) pos) (mRet (mName i)) := MS.ret (ME.name i hN hv (by simp) hd hcd)
  obtain ⟨t, h1, h2⟩ := h
  refine ⟨t, h1, fun c F0 H0 F H σ ρ s E g p => ?_⟩
  obtain ⟨F', e1, g'⟩ := g.fz i
  exact h2 c F0 H0 F' H σ ρ s E g' (PostS.from p e1)
def mIfS (t : Mr Bool) (a b : Ms) : Ms := fun ρ s => (t ρ s).out fun x s => bif x then a ρ s else b ρ s
theorem MS.ifs {c : Expr} {as bs : List Stmt} (hc : MT Γ own c mt) (ha : MSs Γ lo own own' as ms) (hb : MSs Γ lo own own' bs mu) : MS Γ lo own own' (.If c as bs pos) (mIfS mt ms mu) := by
  obtain ⟨t, h1, h2⟩ := hc
  obtain ⟨ta, a1, a2⟩ := ha
  obtain ⟨tb, b1, b2⟩ := hb
  refine ⟨tIfS t ta tb, fun X hX => ps_if (h1 X hX.toFm) (a1 X hX) (b1 X hX), fun c F0 H0 F H σ ρ s E g p => ?_⟩
  refine h2 c F0 H0 F H σ ρ s _ g (PostS.step g p fun d s1 v F1 H1 e1 c1 r' g1 p1 => ?_)
  subst r'
  cases v with
  | true => exact a2 c F0 H0 F1 H1 σ ρ s1 E g1 p1
  | false => exact b2 c F0 H0 F1 H1 σ ρ s1 E g1 p1
/-- a name that is no own list is stored -/
theorem Good.set {c : Option Addr} {F0 H0 F H : Hp} {σ : L2.St} {ρ : Rho} {s : DS} (g : Good Γ c F0 H0 own F H σ ρ s) {i : Nat} {v : V} {d : D} (hi : i ∉ own) (hst : Γ.st ≠ some i) (r : Rp Γ.K F v d) : Good Γ c F0 H0 own F H (σ.set i (some v)) (ρ.set i (some d)) s where
  ext := g.ext
  cell := g.cell
  len := by simp [g.len]
  val := fun j e hj n => by
    by_cases q : j = i
    · subst q
      have hl : j < ρ.length := by
        have := (List.getElem?_eq_some_iff.mp hj).1
        simpa using this
      rw [List.getElem?_set_self hl] at hj
      cases hj
      exact ⟨v, by rw [List.getElem?_set_self (by rw [g.len]; exact hl)], r⟩
    · rw [List.getElem?_set_ne (Ne.symm q)] at hj
      obtain ⟨w, w1, w2⟩ := g.val j e hj n
      exact ⟨w, by rw [List.getElem?_set_ne (Ne.symm q)]; exact w1, w2⟩
  mine := fun j e hj n => by
    have q : j ≠ i := fun z => hi (z ▸ n)
    rw [List.getElem?_set_ne (Ne.symm q)] at hj
    rw [List.getElem?_set_ne (Ne.symm q)]
    exact g.mine j e hj n
  dist := fun j k d' e' p hj hk h1 h2 h3 h4 => by
    have q : j ≠ i := fun z => hi (z ▸ hj)
    have q' : k ≠ i := fun z => hi (z ▸ hk)
    rw [List.getElem?_set_ne (Ne.symm q)] at h1 h3
    rw [List.getElem?_set_ne (Ne.symm q')] at h2 h4
    exact g.dist j k d' e' p hj hk h1 h2 h3 h4
  hdl := fun j hj => by
    have q : j ≠ i := fun z => hst (z ▸ hj)
    rw [List.getElem?_set_ne (Ne.symm q)]
    exact g.hdl j hj
def mSet (i : Nat) (m : Mr D) : Ms := fun ρ s => (m ρ s).out fun d s => .nx (ρ.set i (some d)) s
def LocC (Γ : Ga) (x : Str) : Prop := Γ.sc.names.lookup x = some .local ∨ (Γ.sc.names.lookup x = some .cell ∧ Γ.fc x = true)
theorem LocC.loc {X : Cx} {x : Str} (h : LocC Γ x) (hX : Fm Γ X) : Loc X.env.scope x := by
  rw [hX.sc]
  exact h.elim .inl fun h => .inr h.1
theorem LocC.fn {X : Cx} {x : Str} (h : LocC Γ x) (hX : Fm Γ X) : X.fn x = true ∨ X.env.scope.names.lookup x = some .local := by
  rw [hX.sc]
  rcases h with h | h
  · exact .inr h
  · exact .inl (hX.fn x h.2)
theorem MS.set (i : Nat) {x : Str} {p : Pos} (hN : Γ.N[i]? = some x) (hx : LocC Γ x) (ho : i ∉ own) (hst : Γ.st ≠ some i) (he : ME Γ own e m) (hs : ∀ env, swapsWith e (some (.Name x p)) pos.line env = pure false) :
    MS Γ lo own own (.Assign [.Name x p] e pos) (mSet i m) := by
  obtain ⟨t, h1, h2⟩ := he
  refine ⟨tAsg t (gName i), fun X hX => ps_set hX.nd (by rw [hX.N]; exact hN) (hx.loc hX.toFm) (h1 X hX.toFm) (hs _) (hx.fn hX.toFm), fun c F0 H0 F H σ ρ s E g p => ?_⟩
  refine h2 c F0 H0 F H σ ρ s _ g (PostS.step g p fun d s1 v F1 H1 e1 c1 r' g1 p1 => ?_)
  exact p1 _ F1 H1 (Ex.refl F1) (g1.set ho hst r')
/-- n += e, ints -/
def mAug (i : Nat) (f : D → D → Option D) (m : Mr D) : Ms := fun ρ s => match ρ[i]? with
  | some (some x) => (m ρ s).out fun d s => match f x d with
    | some z => .nx (ρ.set i (some z)) s
    | none => .bad
  | _ => .bad
def IpS (K : PySem.W.Frag) (r : TIp) (f : D → D → Option D) : Prop := ∀ c F H x y dx dy Q, Ex F H → Rp K F x dx → RB K c F H y dy → PoD K F H (f dx dy) Q → r x y H Q
theorem MS.aug (i : Nat) {x : Str} {p : Pos} {op : Operator} {r : TIp} {f : D → D → Option D} (hN : Γ.N[i]? = some x) (hx : LocC Γ x) (ho : i ∉ own) (hst : Γ.st ≠ some i) (hop : ∀ X, Fm Γ X → PIp X op r) (hf : IpS Γ.K r f) (he : MB Γ own e m) :
    MS Γ lo own own (.AugAssign (.Name x p) op e pos) (mAug i f m) := by
  obtain ⟨t, h1, h2⟩ := he
  refine ⟨tAug i t r, fun X hX => ps_aug hX.nd (by rw [hX.N]; exact hN) (hx.loc hX.toFm) (h1 X hX.toFm) (hop X hX.toFm) (hx.fn hX.toFm), fun c F0 H0 F H σ ρ s E g p => ?_⟩
  unfold mAug at p
  cases q : ρ[i]? with
  | none => rw [q] at p; exact p.elim
  | some o =>
    cases o with
    | none => rw [q] at p; exact p.elim
    | some d =>
      rw [q] at p
      obtain ⟨v, v1, v2⟩ := g.val i d q ho
      refine ⟨v, v1, h2 c F0 H0 F H σ ρ s _ g (PostS.step g p fun d' s1 v' F1 H1 e1 c1 r' g1 p1 => ?_)⟩
      refine hf c F1 H1 v v' d d' _ e1.fh (v2.mono e1.ff) r' ?_
      skip
      cases z : f d d' with
      | none => rw [z] at p1; exact p1.elim
      | some y =>
        rw [z] at p1
        exact fun w F2 H2 x2 r2 => p1 _ F2 H2 x2.ff ((g1.go x2.of0 (g1.cell.keep x2)).set ho hst r2)
/-- an expression alone -/
def mDrop (m : Mr D) : Ms := fun ρ s => (m ρ s).out fun _ s => .nx ρ s
theorem MS.expr (he : ME Γ own e m) (hs : ∀ env, swapsWith e none pos.line env = pure false) : MS Γ lo own own (.Expr e pos) (mDrop m) := by
  obtain ⟨t, h1, h2⟩ := he
  refine ⟨tDrop t, fun X hX => ps_expr (h1 X hX.toFm) (hs _), fun c F0 H0 F H σ ρ s E g p => ?_⟩
  exact h2 c F0 H0 F H σ ρ s _ g (PostS.step g p fun d s1 v F1 H1 e1 c1 r' g1 p1 => p1 σ F1 H1 (Ex.refl F1) g1)
/-! ### own lists: made, appended to -/
theorem Good.setOwn {c : Option Addr} {F0 H0 F H : Hp} {σ : L2.St} {ρ : Rho} {s : DS} (g : Good Γ c F0 H0 own F H σ ρ s) {i : Nat} {p : Addr} {vs : List V} {ds : List D} (hi : i ∉ own) (hst : Γ.st ≠ some i) (hp : H p = none) (r : RpA Γ.K F vs ds) :
    Good Γ c F0 H0 (i :: own) F (upd H p (.lst vs)) (σ.set i (some (.ref p))) (ρ.set i (some (.list ds))) s := by
  have fp : F p = none := g.sub.none hp
  have cp : c ≠ some p := fun z => by
    have := g.cell.at p z
    exact this.2 hp
  have h0 : H0 p = none := by
    cases q : H0 p with
    | none => rfl
    | some o => rw [g.ext.hh p o cp q] at hp; cases hp
  refine ⟨⟨g.ext.ff, g.sub.trans (Ex.new hp), fun a o n e => Ex.new hp a o (g.ext.hh a o n e), g.ext.nw⟩, g.cell.keep (Ext.loose g.sub hp), by simp [g.len], fun j d hj n => ?_, fun j d hj n => ?_, fun j k d' e' q hj hk h1 h2 h3 h4 => ?_, fun j hj => ?_⟩
  · have q : j ≠ i := fun z => n (z ▸ List.mem_cons_self)
    rw [List.getElem?_set_ne (Ne.symm q)] at hj
    rw [List.getElem?_set_ne (Ne.symm q)]
    exact g.val j d hj fun z => n (List.mem_cons_of_mem _ z)
  · by_cases q : j = i
    · subst q
      have hl : j < ρ.length := by
        have := (List.getElem?_eq_some_iff.mp hj).1
        simpa using this
      rw [List.getElem?_set_self hl] at hj
      cases hj
      exact ⟨p, vs, ds, by rw [List.getElem?_set_self (by rw [g.len]; exact hl)], rfl, fp, upd_same, cp, h0, r⟩
    · have n' : j ∈ own := (List.mem_cons.mp n).resolve_left q
      rw [List.getElem?_set_ne (Ne.symm q)] at hj
      rw [List.getElem?_set_ne (Ne.symm q)]
      obtain ⟨x, ws, es, k1, k2, k3, k4, k5⟩ := g.mine j d hj n'
      exact ⟨x, ws, es, k1, k2, k3, Ex.new hp _ _ k4, k5⟩
  · have key : ∀ {j : Nat} {d : D}, j ∈ i :: own → (ρ.set i (some (.list ds)))[j]? = some (some d) → (σ.set i (some (.ref p)))[j]? = some (some (.ref p)) → j = i := fun {j d} hj h1 h3 => by
      by_cases z : j = i
      · exact z
      · have n' : j ∈ own := (List.mem_cons.mp hj).resolve_left z
        rw [List.getElem?_set_ne (Ne.symm z)] at h1 h3
        obtain ⟨x, ws, es, k1, k2, k3, k4, k5⟩ := g.mine j d h1 n'
        rw [h3] at k1
        cases k1
        rw [hp] at k4; cases k4
    by_cases q1 : q = p
    · subst q1
      rw [key hj h1 h3, key hk h2 h4]
    · have nj : j ≠ i := fun z => by
        subst z
        have hl : j < σ.length := by
          have := (List.getElem?_eq_some_iff.mp h3).1
          simpa using this
        rw [List.getElem?_set_self hl] at h3
        cases h3; exact q1 rfl
      have nk : k ≠ i := fun z => by
        subst z
        have hl : k < σ.length := by
          have := (List.getElem?_eq_some_iff.mp h4).1
          simpa using this
        rw [List.getElem?_set_self hl] at h4
        cases h4; exact q1 rfl
      rw [List.getElem?_set_ne (Ne.symm nj)] at h1 h3
      rw [List.getElem?_set_ne (Ne.symm nk)] at h2 h4
      exact g.dist j k d' e' q ((List.mem_cons.mp hj).resolve_left nj) ((List.mem_cons.mp hk).resolve_left nk) h1 h2 h3 h4
  · have z : j ≠ i := fun z => hst (z ▸ hj)
    rw [List.getElem?_set_ne (Ne.symm z)]
    exact g.hdl j hj
/-- x = [e, ..], the list x's own -/
theorem MS.newL (i : Nat) {x : Str} {p q : Pos} {es : List Expr} {r : Mr (List D)} (hN : Γ.N[i]? = some x) (hx : LocC Γ x) (ho : i ∉ own) (hst : Γ.st ≠ some i) (he : MA Γ own es r) (hs : ∀ env, swapsWith (.List es q) (some (.Name x p)) pos.line env = pure false) :
    MS Γ lo own (i :: own) (.Assign [.Name x p] (.List es q) pos) (mSet i (mLst r)) := by
  obtain ⟨t, h1, h2⟩ := he
  refine ⟨tAsg (tLst t) (gName i), fun X hX => ps_set hX.nd (by rw [hX.N]; exact hN) (hx.loc hX.toFm) (pe_lst (h1 X hX.toFm)) (hs _) (hx.fn hX.toFm), fun c F0 H0 F H σ ρ s E g p => ?_⟩
  have p' : PostS Γ c F0 H0 F lo (i :: own) ((r ρ s).out fun ds s => bif sz ds.length then .nx (ρ.set i (some (.list ds))) s else .bad) E := by
    unfold mSet mLst Res.bind Res.out at p
    unfold Res.out
    cases z : r ρ s with
    | ok ds s1 =>
      rw [z] at p
      dsimp only at p ⊢
      cases y : sz ds.length with
      | true => rw [y] at p; exact p
      | false => rw [y] at p; exact p
    | er x s1 => rw [z] at p; exact p
    | bad => rw [z] at p; exact p
  refine h2 c F0 H0 F H σ ρ s _ g (PostS.step g p' fun ds s1 vs F1 H1 e1 c1 r' g1 p1 => ?_)
  cases hz : sz ds.length with
  | false => rw [hz] at p1; exact p1.elim
  | true =>
    rw [hz] at p1
    refine ⟨by rw [r'.length]; exact sz_ok hz, fun q hq => ?_⟩
    exact p1 _ F1 _ (Ex.refl F1) (g1.setOwn ho hst hq r')
theorem Good.put {c : Option Addr} {F0 H0 F H : Hp} {σ : L2.St} {ρ : Rho} {s : DS} (g : Good Γ c F0 H0 own F H σ ρ s) {i : Nat} {p : Addr} {d0 : D} {vs : List V} {ds : List D} (hi : i ∈ own) (h1 : ρ[i]? = some (some d0)) (h2 : σ[i]? = some (some (.ref p))) (r : RpA Γ.K F vs ds) :
    Good Γ c F0 H0 own F (upd H p (.lst vs)) σ (ρ.set i (some (.list ds))) s := by
  obtain ⟨p', vs0, ds0, k1, k2, k3, k4, k5, k6, k7⟩ := g.mine i d0 h1 hi
  rw [h2] at k1
  cases k1
  have hl : i < ρ.length := (List.getElem?_eq_some_iff.mp h1).1
  refine ⟨⟨g.ext.ff, fun a o e => ?_, fun a o n e => ?_, g.ext.nw⟩, ?_, by simp [g.len], fun j d hj n => ?_, fun j d hj n => ?_, fun j k d' e' q hj hk a1 a2 a3 a4 => ?_, fun j hj => ?_⟩
  · have : a ≠ p := fun z => by rw [z, k3] at e; cases e
    rw [upd_ne this]; exact g.sub a o e
  · have : a ≠ p := fun z => by rw [z, k6] at e; cases e
    rw [upd_ne this]; exact g.ext.hh a o n e
  · have cl := g.cell
    cases c with
    | none => trivial
    | some q =>
      obtain ⟨c1, v, c2, c3⟩ := cl
      have : q ≠ p := fun z => k5 (by rw [z])
      exact ⟨c1, v, by rw [upd_ne this]; exact c2, c3⟩
  · have q : j ≠ i := fun z => n (z ▸ hi)
    rw [List.getElem?_set_ne (Ne.symm q)] at hj
    exact g.val j d hj n
  · by_cases q : j = i
    · subst q
      rw [List.getElem?_set_self hl] at hj
      cases hj
      exact ⟨p, vs, ds, h2, rfl, k3, upd_same, k5, k6, r⟩
    · rw [List.getElem?_set_ne (Ne.symm q)] at hj
      obtain ⟨x, ws, es, m1, m2, m3, m4, m5⟩ := g.mine j d hj n
      have : x ≠ p := fun z => q (g.dist j i d d0 x n hi hj h1 m1 (by rw [z]; exact h2))
      exact ⟨x, ws, es, m1, m2, m3, by rw [upd_ne this]; exact m4, m5⟩
  · have back : ∀ {j : Nat} {d : D}, (ρ.set i (some (.list ds)))[j]? = some (some d) → ∃ e, ρ[j]? = some (some e) := fun {j d} h => by
      by_cases z : j = i
      · subst z; exact ⟨_, h1⟩
      · rw [List.getElem?_set_ne (Ne.symm z)] at h; exact ⟨_, h⟩
    obtain ⟨e1, b1⟩ := back a1
    obtain ⟨e2, b2⟩ := back a2
    exact g.dist j k e1 e2 q hj hk b1 b2 a3 a4
  · exact g.hdl j hj
def mApp (i : Nat) (m : Mr D) : Ms := fun ρ s => match ρ[i]? with
  | some (some (.list ds)) => (m ρ s).out fun d s => bif sz (ds.length + 1) then .nx (ρ.set i (some (.list (ds ++ [d])))) s else .bad
  | _ => .bad
theorem MS.app (i : Nat) {x : Str} {q q1 q2 : Pos} (hN : Γ.N[i]? = some x) (hv : Vis Γ.sc x) (ho : i ∈ own) (hd : (x == ("__debug__" : Str)) = false) (hcd : (x == ("__classdict__" : Str)) = false) (he : ME Γ own e m)
    (hs : ∀ env, starEach [e] env = [(false, eval e env)]) (hsw : ∀ env, swapsWith (.Call (.Attribute (.Name x q) "append" q1) [e] [] q2) none pos.line env = pure false)
    (hpe : ∀ (X : Cx) (to te : TE), PE X (.Name x q) to → PE X e te → PE X (.Call (.Attribute (.Name x q) "append" q1) [e] [] q2) (tBM X.K "list" rAppend to (tCons te tNil))) :
    MS Γ lo own own (.Expr (.Call (.Attribute (.Name x q) "append" q1) [e] [] q2) pos) (mApp i m) := by
  obtain ⟨t, h1, h2⟩ := he
  refine ⟨tDrop (tBM Γ.K "list" rAppend (tVar i) (tCons t tNil)), fun X hX => ?_, fun c F0 H0 F H σ ρ s E g p => ?_⟩
  · refine ps_expr ?_ (hsw _)
    have := hpe X (tVar i) t (pe_var (by rw [hX.N]; exact hN) (by rw [hX.sc]; exact hv) hd hcd) (h1 X hX.toFm)
    rw [hX.K] at this
    exact this
  · unfold mApp at p
    cases z : ρ[i]? with
    | none => rw [z] at p; exact p.elim
    | some o =>
      cases o with
      | none => rw [z] at p; exact p.elim
      | some d0 =>
        rw [z] at p
        cases d0 with
        | list ds =>
          obtain ⟨a, vs, ds', k1, k2, k3, k4, k5, k6, k7⟩ := g.mine i _ z ho
          cases k2
          refine ⟨_, k1, .inl ⟨rfl, _, SqL.of k4⟩, ?_⟩
          refine h2 c F0 H0 F H σ ρ s _ g (PostS.step g p fun d s1 v F1 H1 e1 c1 r' g1 p1 => ?_)
          cases hz : sz (ds.length + 1) with
          | false => rw [hz] at p1; exact p1.elim
          | true =>
            rw [hz] at p1
            refine ⟨a, vs, v, rfl, rfl, e1.hh a _ k5 k4, by rw [k7.length]; exact sz_ok hz, ?_⟩
            exact p1 _ F1 _ (Ex.refl F1) (g1.put ho z k1 ((k7.mono e1.ff).app (RpA.one r')))
        | _ => exact p.elim
end
end M
set_option maxRecDepth 100000
set_option maxHeartbeats 4000000
/-! The mirror layer, part 4: loops, raise, defs and calls. -/
namespace M
open PySem L2
section
variable {Γ : Ga} {lo own own' own₁ : List Nat} {e a b : Expr} {es : List Expr} {st : Stmt} {sts rest body : List Stmt} {m : Mr D} {mt : Mr Bool} {ms mu : Ms} {pos p1 p2 : Pos}
/-! ### while -/
def mWhile (c : Mr Bool) (b : Ms) : Nat → Ms
  | 0 => fun _ _ => .bad
  | n + 1 => fun ρ s => (c ρ s).out fun x s => bif x then (match b ρ s with
    | .nx ρ s => mWhile c b n ρ s
    | .ct ρ s => mWhile c b n ρ s
    | .bk ρ s => .nx ρ s
    | o => o) else .nx ρ s
theorem MS.whl (n : Nat) {c : Expr} (hc : MT Γ own c mt) (hb : MSs Γ own own own body ms) : MS Γ lo own own (.While c body [] pos) (mWhile mt ms n) := by
  obtain ⟨t, h1, h2⟩ := hc
  obtain ⟨tb, b1, b2⟩ := hb
  refine ⟨tWhile t tb, fun X hX => ps_while hX.own (h1 X hX.toFm) (b1 X hX), fun c F0 H0 F H σ ρ s E g p => ?_⟩
  refine ⟨fun k σ' H' => ∃ F' ρ' s', Ex F F' ∧ Good Γ c F0 H0 own F' H' σ' ρ' s' ∧ PostS Γ c F0 H0 F' lo own (mWhile mt ms k ρ' s') E, ⟨n, F, ρ, s, Ex.refl F, g, p⟩, ?_⟩
  rintro k σ1 H1 ⟨F1, ρ1, s1, x1, g1, q1⟩
  cases k with
  | zero => exact q1.elim
  | succ k =>
    refine h2 c F0 H0 F1 H1 σ1 ρ1 s1 _ g1 (PostS.step g1 q1 fun d s2 v F2 H2 e2 c2 r' g2 q2 => ?_)
    subst r'
    cases v with
    | false => exact q2 σ1 F2 H2 (Ex.refl F2) g2
    | true =>
      refine ⟨fun σ' H' => ∃ F' ρ' s', Ex F F' ∧ Good Γ c F0 H0 own F' H' σ' ρ' s' ∧ PostS Γ c F0 H0 F' lo own (mWhile mt ms k ρ' s') E, fun σ' H' h => ⟨k, Nat.lt_succ_self k, h⟩, ?_⟩
      refine b2 c F0 H0 F2 H2 σ1 ρ1 s2 _ g2 ?_
      dsimp only [cond_true] at q2
      cases z : ms ρ1 s2 with
      | nx ρ3 s3 =>
        rw [z] at q2
        exact fun σ' F' H' x g' => ⟨F', ρ3, s3, (x1.trans e2.ff).trans x, g', PostS.from q2 x⟩
      | ct ρ3 s3 =>
        rw [z] at q2
        exact fun σ' F' H' x g' => ⟨F', ρ3, s3, (x1.trans e2.ff).trans x, g', PostS.from q2 x⟩
      | bk ρ3 s3 =>
        rw [z] at q2
        exact q2
      | rt d s => rw [z] at q2; exact q2
      | er d s => rw [z] at q2; exact q2
      | bad => rw [z] at q2; exact q2
/-! ### for -/
/-- an iterator over frozen data -/
def ItOk (K : PySem.W.Frag) (F : Hp) (J : It) (ds : List D) : Prop := ∀ F' H', Ex F F' → Ex F' H' →
  (∀ (i : Nat) (d : D), ds[i]? = some d → J.go i H' ∧ ∀ x H'', J.yld i H' x H'' → ∃ F'', Ext none F' H' F'' H'' ∧ Rp K F'' x d) ∧ J.stop ds.length H'
def MI (Γ : Ga) (own : List Nat) (tg e : Expr) (m : Mr (List D)) : Prop := ∃ t : TI, (∀ X, Fm Γ X → PI X tg e t) ∧ Snd Γ own (fun _ F _ J ds => ItOk Γ.K F J ds) t m
/-- a target: names that are no own lists -/
abbrev Gt := D → Rho → Option Rho
/-- slots outside vs are kept -/
def Kept (vs : List Nat) (σ σ' : L2.St) : Prop := σ'.length = σ.length ∧ ∀ j, j ∉ vs → σ'[j]? = σ[j]?
theorem Kept.refl (vs : List Nat) (σ : L2.St) : Kept vs σ σ := ⟨rfl, fun _ _ => rfl⟩
theorem Kept.trans {vs ws : List Nat} {σ σ1 σ2 : L2.St} (a : Kept vs σ σ1) (b : Kept ws σ1 σ2) : Kept (vs ++ ws) σ σ2 :=
  ⟨b.1.trans a.1, fun j h => (b.2 j fun z => h (List.mem_append_right _ z)).trans (a.2 j fun z => h (List.mem_append_left _ z))⟩
def MG (Γ : Ga) (own : List Nat) (ws : List Nat) (tg : Expr) (f : Gt) : Prop := ∃ t : TG, (∀ X, Fm Γ X → PG X tg t) ∧
  ∀ c F0 H0 F H σ ρ s v d (Q : L2.St → Hp → Prop), Good Γ c F0 H0 own F H σ ρ s → Rp Γ.K F v d → (match f d ρ with
    | some ρ' => ∀ σ', Kept ws σ σ' → Good Γ c F0 H0 own F H σ' ρ' s → Q σ' H
    | none => False) → t v σ H Q
abbrev Gts := List D → Rho → Option Rho
def MGs (Γ : Ga) (own : List Nat) (ws : List Nat) (tgs : List Expr) (f : Gts) : Prop := ∃ t : TGs, (∀ X, Fm Γ X → PGs X tgs t) ∧
  ∀ c F0 H0 F H σ ρ s vs ds (Q : L2.St → Hp → Prop), Good Γ c F0 H0 own F H σ ρ s → RpA Γ.K F vs ds → (match f ds ρ with
    | some ρ' => ∀ σ', Kept ws σ σ' → Good Γ c F0 H0 own F H σ' ρ' s → Q σ' H
    | none => False) → t vs σ H Q
def gN (i : Nat) : Gt := fun d ρ => some (ρ.set i (some d))
def gsNil : Gts := fun ds ρ => match ds with
  | [] => some ρ
  | _ => none
def gsCons (g : Gt) (gs : Gts) : Gts := fun ds ρ => match ds with
  | d :: ds => (g d ρ).bind fun ρ => gs ds ρ
  | [] => none
def gT (n : Nat) (gs : Gts) : Gt := fun d ρ => match d with
  | .tuple ds => bif ds.length == n then gs ds ρ else none
  | _ => none
theorem MG.name (i : Nat) {x : Str} {p : Pos} (hN : Γ.N[i]? = some x) (hx : LocC Γ x) (ho : i ∉ own) (hst : Γ.st ≠ some i) : MG Γ own [i] (.Name x p) (gN i) :=
  ⟨gName i, fun X hX => pg_name hX.nd (by rw [hX.N]; exact hN) (hx.loc hX) (hx.fn hX), fun c F0 H0 F H σ ρ s v d Q g r q => q _ ⟨by simp, fun j hj => List.getElem?_set_ne (fun z => hj (by simp [z]))⟩ (g.set ho hst r)⟩
theorem MGs.nil : MGs Γ own [] [] gsNil := ⟨gNil, fun X _ => pgs_nil, fun c F0 H0 F H σ ρ s vs ds Q g r q => by
  cases r with
  | nil => exact ⟨rfl, q σ (Kept.refl _ _) g⟩
  | cons _ _ => exact q.elim⟩
theorem MGs.cons {f : Gt} {fs : Gts} {v1 v2 : List Nat} (h : MG Γ own v1 e f) (hs : MGs Γ own v2 es fs) (hst : ∀ env, (assignEach (e :: es) env).map (·.2) = assign e env :: (assignEach es env).map (·.2)) : MGs Γ own (v1 ++ v2) (e :: es) (gsCons f fs) := by
  obtain ⟨t, h1, h2⟩ := h
  obtain ⟨ts, t1, t2⟩ := hs
  refine ⟨gCons t ts, fun X hX => pgs_cons (h1 X hX) (t1 X hX) (hst _), fun c F0 H0 F H σ ρ s vs ds Q g r q => ?_⟩
  cases r with
  | nil => exact q.elim
  | @cons v vs d ds r rs =>
    refine ⟨v, vs, rfl, h2 c F0 H0 F H σ ρ s v d _ g r ?_⟩
    unfold gsCons at q
    dsimp only at q
    cases z : f d ρ with
    | none => rw [z] at q; exact q.elim
    | some ρ1 =>
      rw [z] at q
      refine fun σ' k1 g' => t2 c F0 H0 F H σ' ρ1 s vs ds Q g' rs ?_
      have q' : (match fs ds ρ1 with
        | some ρ' => ∀ σ', Kept (v1 ++ v2) σ σ' → Good Γ c F0 H0 own F H σ' ρ' s → Q σ' H
        | none => False) := q
      cases y : fs ds ρ1 with
      | none => rw [y] at q'; exact q'.elim
      | some ρ2 =>
        rw [y] at q'
        exact fun σ2 k2 g2 => q' σ2 (k1.trans k2) g2
theorem MG.tup {k : Nat} {fs : Gts} {ws : List Nat} (n : Nat) (hs : MGs Γ own ws es fs) (hn : ∀ env, (assignEach es env).length = n) (hst : ∀ env, (assignEach es env).findIdx? (·.1) = none) : MG Γ own ws (.Tuple es k pos) (gT n fs) := by
  obtain ⟨ts, t1, t2⟩ := hs
  refine ⟨gTup Γ.K n ts, fun X hX => ?_, fun c F0 H0 F H σ ρ s v d Q g r q => ?_⟩
  · have := pg_tup (X := X) (k := k) (pos := pos) hX.calm (t1 X hX) (hn _) (hst _)
    rw [hX.K] at this
    exact this
  · unfold gT at q
    cases d with
    | tuple ds =>
      dsimp only at q
      cases z : (ds.length == n) with
      | false => rw [z] at q; exact q.elim
      | true =>
        rw [z] at q
        obtain ⟨x, xs, x1, x2, x3⟩ := r.tuple_inv
        refine ⟨x, xs, x1, ex_t g.sub x2, by rw [x3.length]; exact eq_of_beq z, t2 c F0 H0 F H σ ρ s xs ds Q g x3 q⟩
    | _ => exact q.elim
def mLoop (g : Gt) (b : Ms) : List D → Ms
  | [] => fun ρ s => .nx ρ s
  | d :: ds => fun ρ s => match g d ρ with
    | none => .bad
    | some ρ => match b ρ s with
      | .nx ρ s => mLoop g b ds ρ s
      | .ct ρ s => mLoop g b ds ρ s
      | .bk ρ s => .nx ρ s
      | o => o
def mFor (it : Mr (List D)) (g : Gt) (b : Ms) : Ms := fun ρ s => (it ρ s).out fun ds s => mLoop g b ds ρ s
theorem MS.for' {tg : Expr} {mi : Mr (List D)} {f : Gt} {ws : List Nat} (hi : MI Γ own tg e mi) (hg : MG Γ own ws tg f) (hb : MSs Γ own own own body ms) (hs : ∀ env x, foldedSetIterable e env x = pure x) :
    MS Γ lo own own (.For tg e body [] pos) (mFor mi f ms) := by
  obtain ⟨t, h1, h2⟩ := hi
  obtain ⟨tg, g1, g2⟩ := hg
  obtain ⟨tb, b1, b2⟩ := hb
  refine ⟨tFor t tg tb, fun X hX => ps_for hX.own hX.calm (h1 X hX.toFm) (g1 X hX.toFm) (b1 X hX) (hs _), fun c F0 H0 F H σ ρ s E g p => ?_⟩
  refine h2 c F0 H0 F H σ ρ s _ g (PostS.step g p fun ds s1 J F1 H1 e1 c1 r' gg1 p1 => ?_)
  have hI : ItOk Γ.K F1 J ds := r'
  refine ⟨fun i k σ' H' => k = ds.length - i ∧ i ≤ ds.length ∧ ∃ F' ρ' s', Ex F1 F' ∧ Good Γ c F0 H0 own F' H' σ' ρ' s' ∧ PostS Γ c F0 H0 F' lo own (mLoop f ms (ds.drop i) ρ' s') E, ⟨ds.length, rfl, Nat.zero_le _, F1, ρ, s1, Ex.refl F1, gg1, by simpa using p1⟩, ?_⟩
  rintro i k σ2 H2 ⟨rfl, hi, F2, ρ2, s2, x2, gg2, q2⟩
  obtain ⟨hgo, hst⟩ := hI F2 H2 x2 gg2.sub
  by_cases hlt : i < ds.length
  · right
    have hd : ds[i]? = some ds[i] := by simp [hlt]
    obtain ⟨go, hy⟩ := hgo i ds[i] hd
    refine ⟨go, fun σ' H' => ∃ F' ρ' s', Ex F1 F' ∧ Good Γ c F0 H0 own F' H' σ' ρ' s' ∧ PostS Γ c F0 H0 F' lo own (mLoop f ms (ds.drop (i + 1)) ρ' s') E, fun σ' H' h => ⟨ds.length - (i + 1), by omega, rfl, hlt, h⟩, fun x H3 y => ?_⟩
    obtain ⟨F3, e3, r3⟩ := hy x H3 y
    have gg3 := gg2.go e3.of0 (gg2.cell.keep e3)
    rw [List.drop_eq_getElem_cons hlt] at q2
    unfold mLoop at q2
    refine g2 c F0 H0 F3 H3 σ2 ρ2 s2 x ds[i] _ gg3 r3 ?_
    cases z : f ds[i] ρ2 with
    | none => rw [z] at q2; exact q2.elim
    | some ρ3 =>
      rw [z] at q2
      dsimp only at q2 ⊢
      intro σ4 _ gg4
      refine b2 c F0 H0 F3 H3 σ4 ρ3 s2 _ gg4 ?_
      cases w : ms ρ3 s2 with
      | nx ρ5 s5 =>
        rw [w] at q2
        exact fun σ' F' H' xx g' => ⟨F', ρ5, s5, (x2.trans e3.ff).trans xx, g', PostS.from q2 (e3.ff.trans xx)⟩
      | ct ρ5 s5 =>
        rw [w] at q2
        exact fun σ' F' H' xx g' => ⟨F', ρ5, s5, (x2.trans e3.ff).trans xx, g', PostS.from q2 (e3.ff.trans xx)⟩
      | bk ρ5 s5 =>
        rw [w] at q2
        exact fun σ' F' H' xx g' => q2 σ' F' H' (e3.ff.trans xx) g'
      | rt d s => rw [w] at q2; exact q2
      | er d s => rw [w] at q2; exact q2
      | bad => rw [w] at q2; exact q2
  · left
    have e : i = ds.length := by omega
    subst e
    refine ⟨hst, ?_⟩
    rw [List.drop_length] at q2
    exact q2 σ2 F2 H2 (Ex.refl F2) gg2
/-- over a list, over a tuple -/
def mItems (m : Mr D) : Mr (List D) := fun ρ s => (m ρ s).bind fun d s => match d with
  | .list ds => .ok ds s
  | _ => .bad
def mItemsT (m : Mr D) : Mr (List D) := fun ρ s => (m ρ s).bind fun d s => match d with
  | .tuple ds => .ok ds s
  | _ => .bad
theorem MI.list {tg : Expr} (h : ME Γ own e m) : MI Γ own tg e (mItems m) := by
  obtain ⟨t, h1, h2⟩ := h
  refine ⟨iList Γ.K t, fun X hX => ?_, fun c F0 H0 F H σ ρ s Q g p => ?_⟩
  · have := pi_list (tg := tg) (h1 X hX)
    rw [hX.K] at this
    exact this
  · refine h2 c F0 H0 F H σ ρ s _ g (Post.step p fun d s1 v F1 H1 e1 c1 r' p1 => ?_)
    cases d with
    | list ds =>
      obtain ⟨x, xs, x1, x2, x3⟩ := Rp.list_inv r'
      refine ⟨x, x1, ⟨xs, SqL.of (e1.fh _ _ x2)⟩, p1 _ F1 H1 (Ext.refl e1.fh) c1 fun F' H' k1 k2 => ⟨fun i d hd => ?_, ?_⟩⟩
      · obtain ⟨y, y1, y2⟩ := x3.get hd
        have hx : SqL Γ.K H' x xs := SqL.of (k2 _ _ (k1 _ _ x2))
        refine ⟨⟨xs, y, hx, y1⟩, fun z H'' hz => ?_⟩
        obtain ⟨z1, z2⟩ := hz
        subst z1
        have q := z2 xs hx
        rw [y1] at q
        cases q
        exact ⟨F', Ext.refl k2, y2.mono k1⟩
      · exact ⟨xs, SqL.of (k2 _ _ (k1 _ _ x2)), by rw [x3.length]; exact Nat.le_refl _⟩
    | _ => exact p1.elim
theorem MI.tup {tg : Expr} (h : ME Γ own e m) : MI Γ own tg e (mItemsT m) := by
  obtain ⟨t, h1, h2⟩ := h
  refine ⟨iTup Γ.K t, fun X hX => ?_, fun c F0 H0 F H σ ρ s Q g p => ?_⟩
  · have := pi_tup (tg := tg) (h1 X hX)
    rw [hX.K] at this
    exact this
  · refine h2 c F0 H0 F H σ ρ s _ g (Post.step p fun d s1 v F1 H1 e1 c1 r' p1 => ?_)
    cases d with
    | tuple ds =>
      obtain ⟨x, xs, x1, x2, x3⟩ := Rp.tuple_inv r'
      refine ⟨x, x1, ⟨xs, ex_t e1.fh x2⟩, p1 _ F1 H1 (Ext.refl e1.fh) c1 fun F' H' k1 k2 => ⟨fun i d hd => ?_, ?_⟩⟩
      · obtain ⟨y, y1, y2⟩ := x3.get hd
        have hx : SqT Γ.K H' x xs := ex_t k2 (ex_t k1 x2)
        refine ⟨⟨xs, y, hx, y1⟩, fun z H'' hz => ?_⟩
        obtain ⟨z1, z2⟩ := hz
        subst z1
        have q := z2 xs hx
        rw [y1] at q
        cases q
        exact ⟨F', Ext.refl k2, y2.mono k1⟩
      · exact ⟨xs, ex_t k2 (ex_t k1 x2), by rw [x3.length]; exact Nat.le_refl _⟩
    | _ => exact p1.elim
/-- over range(n), range(a, b) -/
def rangeD (lo : Int) (n : Nat) : List D := (List.range n).map fun i => .int (lo + (i : Nat))
theorem itOk_range {K : PySem.W.Frag} {F : Hp} (lo : Int) (n : Nat) : ItOk K F (Itr lo n) (rangeD lo n) := fun F' H' k1 k2 => by
  refine ⟨fun i d hd => ?_, ?_⟩
  · unfold rangeD at hd
    rw [List.getElem?_map] at hd
    cases q : (List.range n)[i]? with
    | none => rw [q] at hd; cases hd
    | some j =>
      rw [q] at hd
      obtain ⟨hl, hj⟩ := List.getElem?_eq_some_iff.mp q
      rw [List.getElem_range] at hj
      subst hj
      cases hd
      refine ⟨show i < n by simpa using hl, fun x H'' hy => ?_⟩
      obtain ⟨y1, y2⟩ := hy
      subst y1 y2
      exact ⟨F', Ext.refl k2, .int _⟩
  · show n ≤ (rangeD lo n).length
    unfold rangeD
    simp
def mRng1 (r : Mr (List D)) : Mr (List D) := fun ρ s => (r ρ s).bind fun ds s => match ds with
  | [.int j] => bif decide (-(2 ^ 62) ≤ j ∧ j < 2 ^ 62) then .ok (rangeD 0 j.toNat) s else .bad
  | _ => .bad
def mRng2 (r : Mr (List D)) : Mr (List D) := fun ρ s => (r ρ s).bind fun ds s => match ds with
  | [.int i, .int j] => bif decide (-(2 ^ 62) ≤ i ∧ i < 2 ^ 62 ∧ -(2 ^ 62) ≤ j ∧ j < 2 ^ 62) then .ok (rangeD i (j - i).toNat) s else .bad
  | _ => .bad
def GlS (sc : Scope) (x : Str) : Prop := sc.names.lookup x = some .globalImplicit
theorem GlS.gl {X : Cx} {x : Str} (h : GlS Γ.sc x) (hX : Fm Γ X) : Gl X x := by
  show X.env.scope.names.lookup x = _
  rw [hX.sc]; exact h
theorem MI.rng1 {tg : Expr} {r : Mr (List D)} {p : Pos} (hg : GlS Γ.sc "range") (hm : Γ.mg "range" = none) (ha : MA Γ own [a] r) (hs : ∀ env, starEach [a] env = [(false, eval a env)]) : MI Γ own tg (.Call (.Name "range" p) [a] [] pos) (mRng1 r) := by
  obtain ⟨t, h1, h2⟩ := ha
  refine ⟨iRng1 t, fun X hX => pi_range1 (hg.gl hX) (by rw [hX.mg]; exact hm) (h1 X hX) (hs _), fun c F0 H0 F H σ ρ s Q g p => ?_⟩
  refine h2 c F0 H0 F H σ ρ s _ g (Post.step p fun d s1 v F1 H1 e1 c1 r' p1 => ?_)
  split at p1
  · rename_i j
    cases r' with
    | cons r1 r2 =>
      cases r2
      cases hz : decide (-(2 ^ 62) ≤ j ∧ j < 2 ^ 62) with
      | false => rw [hz] at p1; exact p1.elim
      | true =>
        rw [hz] at p1
        obtain ⟨z1, z2⟩ := of_decide_eq_true hz
        exact ⟨j, by rw [Rp.int_inv r1], z1, z2, p1 _ F1 H1 (Ext.refl e1.fh) c1 (itOk_range 0 _)⟩
  · exact p1.elim
theorem MI.rng2 {tg : Expr} {r : Mr (List D)} {p : Pos} (hg : GlS Γ.sc "range") (hm : Γ.mg "range" = none) (ha : MA Γ own [a, b] r) (hs : ∀ env, starEach [a, b] env = [(false, eval a env), (false, eval b env)]) (hs2 : ∀ env, starEach [b] env = [(false, eval b env)]) : MI Γ own tg (.Call (.Name "range" p) [a, b] [] pos) (mRng2 r) := by
  obtain ⟨t, h1, h2⟩ := ha
  refine ⟨iRng2 t, fun X hX => pi_range2 (hg.gl hX) (by rw [hX.mg]; exact hm) (h1 X hX) (hs _) (hs2 _), fun c F0 H0 F H σ ρ s Q g p => ?_⟩
  refine h2 c F0 H0 F H σ ρ s _ g (Post.step p fun d s1 v F1 H1 e1 c1 r' p1 => ?_)
  split at p1
  · rename_i i j
    cases r' with
    | cons r1 r2 =>
      cases r2 with
      | cons r2 r3 =>
        cases r3
        cases hz : decide (-(2 ^ 62) ≤ i ∧ i < 2 ^ 62 ∧ -(2 ^ 62) ≤ j ∧ j < 2 ^ 62) with
        | false => rw [hz] at p1; exact p1.elim
        | true =>
          rw [hz] at p1
          exact ⟨i, j, by rw [Rp.int_inv r1, Rp.int_inv r2], of_decide_eq_true hz, p1 _ F1 H1 (Ext.refl e1.fh) c1 (itOk_range _ _)⟩
  · exact p1.elim
/-! ### raise -/
def PostX (Γ : Ga) (c : Option Addr) (F H : Hp) (σ : L2.St) (r : Res Err) (Q : XK) : Prop := match r with
  | .ok e s' => ∀ cls dd F' H', Ext c F H F' H' → Cell Γ.K c s' F' H' → Raised Γ.K Γ.mg F' H' e cls dd → Q cls dd H'
  | .er e s' => ∀ cls dd F' H', Ext c F H F' H' → Cell Γ.K c s' F' H' → Raised Γ.K Γ.mg F' H' e cls dd → Γ.W cls dd σ H'
  | .bad => False
def MX (Γ : Ga) (own : List Nat) (e : Expr) (m : Mr Err) : Prop := ∃ t : L2.St → Hp → XK → Prop, (∀ X, Fm Γ X → PMk X e t) ∧
  ∀ c F0 H0 F H σ ρ s (Q : XK), Good Γ c F0 H0 own F H σ ρ s → PostX Γ c F H σ (m ρ s) Q → t σ H Q
def mRaise (m : Mr Err) : Ms := fun ρ s => (m ρ s).out fun e s => .er e s
theorem MS.raise {mx : Mr Err} (h : MX Γ own e mx) : MS Γ lo own own' (.Raise (some e) none pos) (mRaise mx) := by
  obtain ⟨t, h1, h2⟩ := h
  refine ⟨fun _ σ H => t σ H fun cls d H' => Γ.W cls d σ H', fun X hX => ps_raise hX.calm hX.tk (h1 X hX.toFm), fun c F0 H0 F H σ ρ s E g p => ?_⟩
  refine h2 c F0 H0 F H σ ρ s _ g ?_
  unfold mRaise Res.out at p
  cases z : mx ρ s with
  | ok e s1 => rw [z] at p; exact fun cls dd F' H' e' c' r' => p cls dd σ F' H' (g.ext.trans e' g.cell.at) c' r'
  | er e s1 => rw [z] at p; exact fun cls dd F' H' e' c' r' => p cls dd σ F' H' (g.ext.trans e' g.cell.at) c' r'
  | bad => rw [z] at p; exact p
/-! ### defs without a draws' state, and their calls -/
abbrev Fd := List D → Res D
def spM (K : PySem.W.Frag) (mg : Str → Option Value) (n : Nat) (f : Fd) : Sp := fun vs H Q E => ∃ F ds, Ex F H ∧ RpA K F vs ds ∧ ds.length = n ∧ (match f ds with
  | .ok d _ => ∀ v F' H', Ext none F H F' H' → Rp K F' v d → Q v H'
  | .er e _ => ∀ cls dd F' H', Ext none F H F' H' → Raised K mg F' H' e cls dd → E cls dd H'
  | .bad => False)
structure Fn (B : Gb) (x : Str) (k n : Nat) (f : Fd) : Prop where
  ex : ∃ fa fd ps, B.mg x = some (.ref fa) ∧ PySem.W.keepIn B.K (.ref fa) = true ∧ Binds B.K fd ps [] ∧ FnOk B.P B.w B.K B.mg B.base (L2.CX B.P B.w) k fa fd ps (spM B.K B.mg n f)
def mCall (f : Fd) (r : Mr (List D)) : Mr D := fun ρ s => (r ρ s).bind fun ds s => match f ds with
  | .ok d _ => .ok d s
  | .er e _ => .er e s
  | .bad => .bad
theorem passAt' {X : Cx} {W : WX} (tk : Takes X W) (σ : L2.St) : PassesAt (L2.CX X.prog X.w) X σ (fun cls d H => W cls d σ H) := L2.passAt tk σ
theorem snd_call {f : Fd} {r : Mr (List D)} {t : TA} {n : Nat} (hn : ∀ ρ s ds s', r ρ s = .ok ds s' → ds.length = n) (h2 : Snd Γ own (fun _ F _ v d => RpA Γ.K F v d) t r) :
    Snd Γ own (fun _ F _ v d => Rp Γ.K F v d) (tCallSD (spM Γ.K Γ.mg n f) [] (fun σ cls d H => Γ.W cls d σ H) t) (mCall f r) := fun c F0 H0 F H σ ρ s Q g p => by
  have p' : Post Γ c F H σ (fun F' _ v d => Rp Γ.K F' v d) ((r ρ s).bind fun ds s => if ds.length = n then (match f ds with
    | .ok d _ => .ok d s
    | .er e _ => .er e s
    | .bad => .bad) else .bad) Q := by
    unfold mCall Res.bind at p
    unfold Res.bind
    cases z : r ρ s with
    | ok ds s1 =>
      rw [z] at p
      dsimp only at p ⊢
      rw [if_pos (hn ρ s ds s1 z)]
      exact p
    | er x s1 => rw [z] at p; exact p
    | bad => rw [z] at p; exact p
  refine h2 c F0 H0 F H σ ρ s _ g (Post.step p' fun ds s1 vs F1 H1 e1 c1 r' p1 => ?_)
  by_cases hl : ds.length = n
  · rw [if_pos hl] at p1
    rw [List.append_nil]
    refine ⟨F1, ds, e1.fh, r', hl, ?_⟩
    cases z : f ds with
    | ok d _ => rw [z] at p1; exact fun v F' H' e r => p1 v F' H' e.of0 (c1.keep e) r
    | er x _ => rw [z] at p1; exact fun cls dd F' H' e r => p1 cls dd F' H' e.of0 (c1.keep e) r
    | bad => rw [z] at p1; exact p1
  · rw [if_neg hl] at p1; exact p1.elim
theorem mCons_len {r : Mr (List D)} {n : Nat} (h : ∀ ρ s ds s', r ρ s = .ok ds s' → ds.length = n) : ∀ ρ s ds s', mCons m r ρ s = .ok ds s' → ds.length = n + 1 := fun ρ s ds s' q => by
  unfold mCons Res.bind at q
  cases z : m ρ s with
  | ok d s1 =>
    rw [z] at q
    dsimp only at q
    cases y : r ρ s1 with
    | ok xs s2 =>
      rw [y] at q
      cases q
      rw [List.length_cons, h _ _ _ _ y]
    | er x s2 => rw [y] at q; cases q
    | bad => rw [y] at q; cases q
  | er x s1 => rw [z] at q; cases q
  | bad => rw [z] at q; cases q
theorem mNil_len : ∀ ρ s ds s', mNil ρ s = .ok ds s' → ds.length = 0 := fun ρ s ds s' q => by cases q; rfl
theorem ME.call {x : Str} {k n : Nat} {f : Fd} {r : Mr (List D)} {p : Pos} (h : Fn Γ.toGb x k n f) (hk : k ≤ Γ.k) (hg : GlS Γ.sc x) (hn : ∀ ρ s ds s', r ρ s = .ok ds s' → ds.length = n) (hd : (x == ("__debug__" : Str)) = false) (ha : MA Γ own (e :: es) r)
    (he : ∀ env, starEach (e :: es) env = (false, eval e env) :: starEach es env) (hpl : ∀ env, (backTo pos (starEach es env)).any (·.1) = false) : ME Γ own (.Call (.Name x p) (e :: es) [] pos) (mCall f r) := by
  obtain ⟨fa, fd, ps, m1, m2, m3, m4⟩ := h.ex
  obtain ⟨t, h1, h2⟩ := ha
  refine ⟨_, fun X hX => ?_, snd_call hn h2⟩
  have m4' : FnOk X.prog X.w X.K X.mg X.base (L2.CX X.prog X.w) k fa fd ps (spM Γ.K Γ.mg n f) := by
    rw [hX.prog, hX.w, hX.K, hX.mg, hX.base]; exact m4
  exact pe_callSD m4' (hX.room.mono hk) (hg.gl hX) (by rw [hX.mg]; exact m1) (by rw [hX.K]; exact m2) (by rw [hX.K]; exact m3) .nil (fun σ => passAt' hX.tk σ) (h1 X hX) hd (he _) (hpl _)
/-! ### a def -/
def mDef (n : Nat) (m : Ms) : Fd := fun ds => match m (ds.map some ++ List.replicate (n - ds.length) none) DS.d0 with
  | .rt d s => .ok d s
  | .nx _ s => .ok .none s
  | .er e s => .er e s
  | _ => .bad
theorem start_get {K : PySem.W.Frag} {F : Hp} {vs : List V} {ds : List D} (h : RpA K F vs ds) (n : Nat) {i : Nat} {d : D} (e : (ds.map some ++ List.replicate n none)[i]? = some (some d)) : ∃ v, (vs.map some ++ List.replicate n none)[i]? = some (some v) ∧ Rp K F v d := by
  by_cases hi : i < ds.length
  · rw [List.getElem?_append_left (by simpa using hi), List.getElem?_map] at e
    rw [List.getElem?_append_left (by simpa [h.length] using hi), List.getElem?_map]
    cases q : ds[i]? with
    | none => rw [q] at e; cases e
    | some x =>
      rw [q] at e; cases e
      obtain ⟨v, v1, v2⟩ := h.get q
      exact ⟨v, by rw [v1]; rfl, v2⟩
  · rw [List.getElem?_append_right (by simpa using hi)] at e
    obtain ⟨hl, h2⟩ := List.getElem?_eq_some_iff.mp e
    simp at h2
def gaOf (B : Gb) (N : List Str) (sc : Scope) (k : Nat) (E : XK) : Ga := { toGb := B, N := N, sc := sc, k := k, W := fun cls d _ H => E cls d H, st := none, fc := fun _ => true }
theorem Fn.of {B : Gb} {x qual : Str} {st : Stmt} {f : Addr} {fd : FuncData} {N ps : List Str} {k n : Nat} {ms : Ms} {own' : List Nat} (F : Fun B.K x qual st f fd) (hm : B.mg x = some (.ref f)) (S : FnScope N ps (defScope st)) (hn : ps.length = n)
    (hb : Binds B.K fd ps []) (h : ∀ E : XK, MSs (gaOf B N (defScope st) k E) [] [] own' (defBody st) ms) : Fn B x (k + 1) n (mDef N.length ms) := by
  refine ⟨f, fd, ps, hm, F.kp, hb, F.okX S (fun vs H Q E h => ?_) (fun cdv A outer s H vs Q E hr hsp => ?_)⟩
  · obtain ⟨_, ds, _, h1, h2, _⟩ := h
    rw [h1.length, h2, hn]
  · obtain ⟨t, h1, h2⟩ := h E
    obtain ⟨Fz, ds, f1, f2, f3, f4⟩ := hsp
    refine ⟨t, h1 _ { prog := rfl, w := rfl, K := rfl, mg := rfl, base := rfl, N := rfl, sc := rfl, nd := S.nd, calm := rfl, fn := fun _ _ => rfl, room := hr, tk := takes_of rfl rfl rfl rfl, stk := rfl, fr := rfl, own := passes_of rfl }, ?_⟩
    refine h2 none Fz H Fz H _ (ds.map some ++ List.replicate (N.length - ds.length) none) DS.d0 _ ⟨Ext.refl f1, trivial, by simp [L2.start, f2.length], fun i d hd _ => ?_, fun i d hd n => by simp at n, fun i j d e p h => by simp at h, fun i h => by cases h⟩ ?_
    · unfold L2.start
      rw [f2.length]
      exact start_get f2 _ hd
    · unfold mDef at f4
      cases z : ms (ds.map some ++ List.replicate (N.length - ds.length) none) DS.d0 with
      | rt d s => rw [z] at f4; exact fun v F' H' e c r => f4 v F' H' e r
      | nx ρ s => rw [z] at f4; exact fun σ' F' H' e g => f4 .non F' H' g.ext .non
      | er e s => rw [z] at f4; exact fun cls dd σ' F' H' e c r => f4 cls dd F' H' e r
      | bk ρ s => rw [z] at f4; exact f4.elim
      | ct ρ s => rw [z] at f4; exact f4.elim
      | bad => rw [z] at f4; exact f4.elim
end
end M
set_option maxRecDepth 100000
set_option maxHeartbeats 4000000
/-! The mirror layer, part 5: operators, built-ins. -/
namespace M
open PySem L2
section
variable {Γ : Ga} {lo own own' own₁ : List Nat} {e a b : Expr} {es : List Expr} {m ma mb : Mr D} {pos p1 p2 : Pos}
/-! ### module constants -/
theorem ME.glob {x : Str} {v : V} {d : D} (hg : GlS Γ.sc x) (hm : ∃ u, Γ.mg x = some u ∧ RelV v u) (hr : ∀ K F, Rp K F v d) (hd : (x == ("__debug__" : Str)) = false) : ME Γ own (.Name x pos) (mC d) := by
  refine ⟨tC v, fun X hX => ?_, fun c F0 H0 F H σ ρ s Q g p => p v F H (Ext.refl g.sub) g.cell (hr _ _)⟩
  obtain ⟨u, m1, m2⟩ := hm
  exact ⟨fun pins s σ H Q I h => ld_glob I (hg.gl hX) (by rw [hX.mg]; exact m1) ⟨v, H, I, m2, h⟩ hd⟩
theorem ME.globS {x z : Str} (hg : GlS Γ.sc x) (hm : ∃ t, Γ.mg x = some (.str z t)) (hd : (x == ("__debug__" : Str)) = false) : ME Γ own (.Name x pos) (mC (.str z)) := by
  obtain ⟨t, h⟩ := hm
  exact ME.glob (v := .str z) hg ⟨_, h, t, rfl⟩ (fun _ _ => .str z) hd
theorem ME.globI {x : Str} {z : Int} (hg : GlS Γ.sc x) (hm : ∃ t, Γ.mg x = some (.int z t)) (hd : (x == ("__debug__" : Str)) = false) : ME Γ own (.Name x pos) (mC (.int z)) := by
  obtain ⟨t, h⟩ := hm
  exact ME.glob (v := .int z) hg ⟨_, h, t, rfl⟩ (fun _ _ => .int z) hd
/-! ### + - on values -/
def fAdd (x y : D) : Option D := match x, y with
  | .int i, .int j => some (.int (i + j))
  | .str i, .str j => bif sz (i.length + j.length) then some (.str (i ++ j)) else none
  | .list xs, .list ys => bif sz (xs.length + ys.length) then some (.list (xs ++ ys)) else none
  | .tuple xs, .tuple ys => bif sz (xs.length + ys.length) then some (.tuple (xs ++ ys)) else none
  | _, _ => none
def rAddT (K : PySem.W.Frag) : R2 := fun x y H Q => ∃ a b xs ys, x = .ref a ∧ y = .ref b ∧ SqT K H a xs ∧ SqT K H b ys ∧ xs.length + ys.length ≤ sizeLine ∧ (xs = [] → Q (.ref b) H) ∧ (xs ≠ [] → ys = [] → Q (.ref a) H) ∧ (xs ≠ [] → ys ≠ [] → ∀ p, H p = none → Q (.ref p) (upd H p (.tup (xs ++ ys))))
def rAddS : R2 := fun x y H Q => ∃ i j, x = .str i ∧ y = .str j ∧ i.length + j.length ≤ sizeLine ∧ Q (.str (i ++ j)) H
def rAny4 (r1 r2 r3 r4 : R2) : R2 := fun x y H Q => r1 x y H Q ∨ r2 x y H Q ∨ r3 x y H Q ∨ r4 x y H Q
def rAdd4 (K : PySem.W.Frag) : R2 := rAny4 (rI0 fun i j => .int (i + j)) rAddS rCat (rAddT K)
theorem ops_add (K : PySem.W.Frag) : OpS K (rAdd4 K) fAdd := by
  intro c F H x y dx dy Q hF hx hy p
  unfold fAdd at p
  split at p
  · exact .inl ⟨_, _, hx.int_inv, hy.int_inv, p _ F H (Ext.refl hF) (.int _)⟩
  · rename_i i j
    cases hz : sz (i.length + j.length) with
    | false => rw [hz] at p; exact p.elim
    | true => rw [hz] at p; exact .inr (.inl ⟨i, j, hx.str_inv, hy.str_inv, sz_ok hz, p _ F H (Ext.refl hF) (.str _)⟩)
  · rename_i xs ys
    cases hz : sz (xs.length + ys.length) with
    | false => rw [hz] at p; exact p.elim
    | true =>
      rw [hz] at p
      obtain ⟨a, us, a1, a2, a3⟩ := hx.list_inv hF
      obtain ⟨b, ws, b1, b2, b3⟩ := hy.list_inv hF
      refine .inr (.inr (.inl ⟨a, b, us, ws, a1, b1, a2, b2, by rw [a3.length, b3.length]; exact sz_ok hz, fun q hq => ?_⟩))
      exact p _ _ _ (Ext.made hF hq) (.lst upd_same ((a3.app b3).mono (Ex.new (hF.none hq))))
  · rename_i xs ys
    cases hz : sz (xs.length + ys.length) with
    | false => rw [hz] at p; exact p.elim
    | true =>
      rw [hz] at p
      obtain ⟨a, us, a1, a2, a3⟩ := hx.tuple_inv
      obtain ⟨b, ws, b1, b2, b3⟩ := hy.tuple_inv
      refine .inr (.inr (.inr ⟨a, b, us, ws, a1, b1, ex_t hF a2, ex_t hF b2, by rw [a3.length, b3.length]; exact sz_ok hz, fun e => ?_, fun n e => ?_, fun n n' q hq => ?_⟩))
      · subst e
        cases a3
        exact p _ F H (Ext.refl hF) (.tup b2 b3)
      · subst e
        cases b3
        rw [List.append_nil] at p
        exact p _ F H (Ext.refl hF) (.tup a2 a3)
      · exact p _ _ _ (Ext.made hF hq) (.tup (SqT.of upd_same) ((a3.app b3).mono (Ex.new (hF.none hq))))
  · exact p.elim
def fSub (x y : D) : Option D := match x, y with
  | .int i, .int j => some (.int (i - j))
  | _, _ => none
theorem ops_int2 (K : PySem.W.Frag) (g : Int → Int → Int) : OpS K (rI0 fun i j => .int (g i j)) (fun x y => match x, y with
  | .int i, .int j => some (.int (g i j))
  | _, _ => none) := by
  intro c F H x y dx dy Q hF hx hy p
  dsimp only at p
  split at p
  · exact ⟨_, _, hx.int_inv, hy.int_inv, p _ F H (Ext.refl hF) (.int _)⟩
  · exact p.elim
theorem ops_sub (K : PySem.W.Frag) : OpS K (rI0 fun i j => .int (i - j)) fSub := ops_int2 K fun i j => i - j
theorem ME.sub (ha : MB Γ own a ma) (hb : MB Γ own b mb) : ME Γ own (.BinOp a .Sub b pos) (mOp2 fSub ma mb) := ME.op2 (fun _ _ => op_sub) (ops_sub _) ha hb
def fNeg (x : D) : Option D := match x with
  | .int i => some (.int (-i))
  | _ => none
/-! ### comparisons -/
def scalD : D → D → Bool
  | .none, .none => true | .none, .int _ => true | .int _, .none => true | .none, .bool _ => true | .bool _, .none => true | .none, .str _ => true | .str _, .none => true
  | .int _, .int _ => true | .bool _, .bool _ => true | .str _, .str _ => true
  | .int _, .str _ => true | .str _, .int _ => true | .bool _, .str _ => true | .str _, .bool _ => true
  | _, _ => false
def fEq (x y : D) : Option D := bif scalD x y || (SeqAt.shaped x && SeqAt.shaped y) then some (.bool (PyData.eqv x y)) else none
def fNe (x y : D) : Option D := bif scalD x y || (SeqAt.shaped x && SeqAt.shaped y) then some (.bool (!PyData.eqv x y)) else none
def rOr (r r' : R2) : R2 := fun x y H Q => r x y H Q ∨ r' x y H Q
theorem scal_eq {K : PySem.W.Frag} {c : Option Addr} {F H : Hp} {x y : V} {dx dy : D} (hx : RB K c F H x dx) (hy : RB K c F H y dy) (h : scalD dx dy = true) : scal x y = true ∧ decide (x = y) = PyData.eqv dx dy := by
  unfold scalD at h
  split at h <;> first
    | (rw [hx.none_inv, hy.none_inv]; exact ⟨rfl, by simp [PyData.eqv]⟩)
    | (rw [hx.none_inv, hy.int_inv]; exact ⟨rfl, by simp [PyData.eqv]⟩)
    | (rw [hx.int_inv, hy.none_inv]; exact ⟨rfl, by simp [PyData.eqv]⟩)
    | (rw [hx.none_inv, hy.bool_inv]; exact ⟨rfl, by simp [PyData.eqv]⟩)
    | (rw [hx.bool_inv, hy.none_inv]; exact ⟨rfl, by simp [PyData.eqv]⟩)
    | (rw [hx.none_inv, hy.str_inv]; exact ⟨rfl, by simp [PyData.eqv]⟩)
    | (rw [hx.str_inv, hy.none_inv]; exact ⟨rfl, by simp [PyData.eqv]⟩)
    | (rw [hx.int_inv, hy.int_inv]; exact ⟨rfl, by rw [dec_int]; simp [PyData.eqv]⟩)
    | (rw [hx.bool_inv, hy.bool_inv]; exact ⟨rfl, by rw [dec_bl]; simp [PyData.eqv]⟩)
    | (rw [hx.str_inv, hy.str_inv]; exact ⟨rfl, by rw [dec_str]; simp [PyData.eqv]⟩)
    | (rw [hx.int_inv, hy.str_inv]; exact ⟨rfl, by simp [PyData.eqv]⟩)
    | (rw [hx.str_inv, hy.int_inv]; exact ⟨rfl, by simp [PyData.eqv]⟩)
    | (rw [hx.bool_inv, hy.str_inv]; exact ⟨rfl, by simp [PyData.eqv]⟩)
    | (rw [hx.str_inv, hy.bool_inv]; exact ⟨rfl, by simp [PyData.eqv]⟩)
    | cases h
theorem ops_eq (K : PySem.W.Frag) : OpS K (rOr rEq (rEqD K)) fEq := by
  intro c F H x y dx dy Q hF hx hy p
  unfold fEq at p
  cases h1 : scalD dx dy with
  | true =>
    obtain ⟨k1, k2⟩ := scal_eq hx hy h1
    rw [h1] at p
    exact .inl ⟨k1, by rw [k2]; exact p _ F H (Ext.refl hF) (.bl _)⟩
  | false =>
    rw [h1] at p
    cases h2 : (SeqAt.shaped dx && SeqAt.shaped dy) with
    | false => rw [h2] at p; exact p.elim
    | true =>
      rw [h2] at p
      obtain ⟨k1, k2⟩ := Bool.and_eq_true_iff.mp h2
      exact .inr ⟨dx, dy, hx.dp hF, hy.dp hF, k1, k2, p _ F H (Ext.refl hF) (.bl _)⟩
theorem ops_ne (K : PySem.W.Frag) : OpS K (rOr rNe (rNeD K)) fNe := by
  intro c F H x y dx dy Q hF hx hy p
  unfold fNe at p
  cases h1 : scalD dx dy with
  | true =>
    obtain ⟨k1, k2⟩ := scal_eq hx hy h1
    rw [h1] at p
    exact .inl ⟨k1, by rw [k2]; exact p _ F H (Ext.refl hF) (.bl _)⟩
  | false =>
    rw [h1] at p
    cases h2 : (SeqAt.shaped dx && SeqAt.shaped dy) with
    | false => rw [h2] at p; exact p.elim
    | true =>
      rw [h2] at p
      obtain ⟨k1, k2⟩ := Bool.and_eq_true_iff.mp h2
      exact .inr ⟨dx, dy, hx.dp hF, hy.dp hF, k1, k2, p _ F H (Ext.refl hF) (.bl _)⟩
theorem opr_eq {X : Cx} (hX : Fm Γ X) : OpR X (compareOp .Eq) (rOr rEq (rEqD Γ.K)) := by
  have := OpR.or (op_eq (X := X)) (op_eqD hX.room.units)
  rw [hX.K] at this
  exact this
theorem opr_ne {X : Cx} (hX : Fm Γ X) : OpR X (compareOp .NotEq) (rOr rNe (rNeD Γ.K)) := by
  have := OpR.or (op_ne (X := X)) (op_neD hX.room.units)
  rw [hX.K] at this
  exact this
theorem ME.eq (ha : MB Γ own a ma) (hb : MB Γ own b mb) : ME Γ own (.Compare a [.Eq] [b] pos) (mOp2 fEq ma mb) := ME.cmp (fun _ hX => opr_eq hX) (ops_eq _) ha hb (nomark _)
theorem ME.ne (ha : MB Γ own a ma) (hb : MB Γ own b mb) : ME Γ own (.Compare a [.NotEq] [b] pos) (mOp2 fNe ma mb) := ME.cmp (fun _ hX => opr_ne hX) (ops_ne _) ha hb (nomark _)
theorem MT.eq (ha : MB Γ own a ma) (hb : MB Γ own b mb) : MT Γ own (.Compare a [.Eq] [b] pos) (mTest (mOp2 fEq ma mb)) := MT.cmp (fun _ hX => opr_eq hX) (ops_eq _) ha hb (nomark _)
theorem MT.ne (ha : MB Γ own a ma) (hb : MB Γ own b mb) : MT Γ own (.Compare a [.NotEq] [b] pos) (mTest (mOp2 fNe ma mb)) := MT.cmp (fun _ hX => opr_ne hX) (ops_ne _) ha hb (nomark _)
/-- orders of ints (texts, data: later) -/
def fCmpI (g : Int → Int → Bool) (x y : D) : Option D := match x, y with
  | .int i, .int j => some (.bool (g i j))
  | _, _ => none
def fLt : D → D → Option D := fCmpI fun i j => decide (i < j)
def fLe : D → D → Option D := fCmpI fun i j => decide (i ≤ j)
def fGt : D → D → Option D := fCmpI fun i j => decide (j < i)
def fGe : D → D → Option D := fCmpI fun i j => decide (j ≤ i)
theorem ops_cmpI (K : PySem.W.Frag) (g : Int → Int → Bool) : OpS K (rI0 fun i j => .bl (g i j)) (fCmpI g) := by
  intro c F H x y dx dy Q hF hx hy p
  unfold fCmpI at p
  split at p
  · exact ⟨_, _, hx.int_inv, hy.int_inv, p _ F H (Ext.refl hF) (.bl _)⟩
  · exact p.elim
theorem MT.lt (ha : MB Γ own a ma) (hb : MB Γ own b mb) : MT Γ own (.Compare a [.Lt] [b] pos) (mTest (mOp2 fLt ma mb)) := MT.cmp (fun _ _ => op_lt) (ops_cmpI _ _) ha hb (nomark _)
theorem MT.le (ha : MB Γ own a ma) (hb : MB Γ own b mb) : MT Γ own (.Compare a [.LtE] [b] pos) (mTest (mOp2 fLe ma mb)) := MT.cmp (fun _ _ => op_le) (ops_cmpI _ _) ha hb (nomark _)
theorem MT.gt (ha : MB Γ own a ma) (hb : MB Γ own b mb) : MT Γ own (.Compare a [.Gt] [b] pos) (mTest (mOp2 fGt ma mb)) := MT.cmp (fun _ _ => op_gt) (ops_cmpI _ _) ha hb (nomark _)
theorem MT.ge (ha : MB Γ own a ma) (hb : MB Γ own b mb) : MT Γ own (.Compare a [.GtE] [b] pos) (mTest (mOp2 fGe ma mb)) := MT.cmp (fun _ _ => op_ge) (ops_cmpI _ _) ha hb (nomark _)
/-- one sign in a text -/
def fIn (x y : D) : Option D := match x, y with
  | .str ⟨⟨[c]⟩⟩, .str z => some (.bool (decide (c ∈ z.cps.toList)))
  | _, _ => none
theorem ops_inS (K : PySem.W.Frag) : OpS K (fun x y H Q => ∃ (c : Nat) (z : Str), x = .str ⟨#[c]⟩ ∧ y = .str z ∧ Q (.bl (decide (c ∈ z.cps.toList))) H) fIn := by
  intro c F H x y dx dy Q hF hx hy p
  unfold fIn at p
  split at p
  · exact ⟨_, _, hx.str_inv, hy.str_inv, p _ F H (Ext.refl hF) (.bl _)⟩
  · exact p.elim
theorem MT.inS (ha : MB Γ own a ma) (hb : MB Γ own b mb) (hm : behindInMarks .In b = false) : MT Γ own (.Compare a [.In] [b] pos) (mTest (mOp2 fIn ma mb)) := MT.cmp (fun _ _ => op_in_sign) (ops_inS _) ha hb hm
/-! ### calls of one argument -/
def mOp1 (f : D → Option D) (m : Mr D) : Mr D := fun ρ s => (m ρ s).bind fun x s => ofO (f x) s
def CallS (K : PySem.W.Frag) (r : List V → Hp → VK → Prop) (f : D → Option D) : Prop := ∀ c F H x dx Q, Ex F H → RB K c F H x dx → PoD K F H (f dx) Q → r [x] H Q
theorem snd_op1 {t : TE} {r : List V → Hp → VK → Prop} {f : D → Option D} (hs : CallS Γ.K r f) (h : Snd Γ own (fun c F H v d => RB Γ.K c F H v d) t m) : Snd Γ own (fun _ F _ v d => Rp Γ.K F v d) (tCB r (tCons t tNil)) (mOp1 f m) := fun c F0 H0 F H σ ρ s Q g p => by
  refine h c F0 H0 F H σ ρ s _ g (Post.step p fun d s1 v F1 H1 e1 c1 r' p1 => ?_)
  exact hs c F1 H1 v d Q e1.fh r' (PoD.of p1 c1)
theorem ME.callB {x : Str} {id : String} {p : Pos} {r : List V → Hp → VK → Prop} {f : D → Option D} (hc : ∀ X, Fm Γ X → CallR X (.builtin id) r) (hs : CallS Γ.K r f) (hg : GlS Γ.sc x) (hm : Γ.mg x = none) (hv : bootBuiltins x = some (.builtin id)) (h : MB Γ own e m)
    (hn : x ≠ "__name__") (hd : (x == ("__debug__" : Str)) = false) (he : ∀ env, starEach [e] env = [(false, eval e env)]) : ME Γ own (.Call (.Name x p) [e] [] pos) (mOp1 f m) := by
  obtain ⟨t, h1, h2⟩ := h
  exact ⟨_, fun X hX => pe_callB (hc X hX) (hg.gl hX) (by rw [hX.mg]; exact hm) hv (pa_cons (h1 X hX) pa_nil (he _)) hn hd (he _) (by rfl), snd_op1 hs h2⟩
theorem ME.callT {x : Str} {T : String} {p : Pos} {r : List V → Hp → VK → Prop} {f : D → Option D} (hc : ∀ X, Fm Γ X → CallR X (.type T) r) (hs : CallS Γ.K r f) (hg : GlS Γ.sc x) (hm : Γ.mg x = none) (hv : bootBuiltins x = some (.type T)) (h : MB Γ own e m)
    (hn : x ≠ "__name__") (hd : (x == ("__debug__" : Str)) = false) (he : ∀ env, starEach [e] env = [(false, eval e env)]) : ME Γ own (.Call (.Name x p) [e] [] pos) (mOp1 f m) := by
  obtain ⟨t, h1, h2⟩ := h
  exact ⟨_, fun X hX => pe_callTy (hc X hX) (hg.gl hX) (by rw [hX.mg]; exact hm) hv (pa_cons (h1 X hX) pa_nil (he _)) hn hd (he _) (by rfl), snd_op1 hs h2⟩
/-- len -/
def fLen (x : D) : Option D := match x with
  | .list ds => some (.int ds.length)
  | .tuple ds => some (.int ds.length)
  | .str z => bif sz z.length then some (.int z.length) else none
  | _ => none
def rLenQ (K : PySem.W.Frag) : List V → Hp → VK → Prop := fun xs H Q => ∃ p ys, xs = [.ref p] ∧ (SqL K H p ys ∨ SqT K H p ys) ∧ Q (.int ys.length) H
def rLenZ : List V → Hp → VK → Prop := fun xs H Q => ∃ z, xs = [.str z] ∧ z.length ≤ sizeLine ∧ Q (.int z.length) H
def rOr1 (r r' : List V → Hp → VK → Prop) : List V → Hp → VK → Prop := fun xs H Q => r xs H Q ∨ r' xs H Q
theorem calls_len (K : PySem.W.Frag) : CallS K (rOr1 (rLenQ K) rLenZ) fLen := by
  intro c F H x dx Q hF hx p
  unfold fLen at p
  split at p
  · obtain ⟨a, xs, a1, a2, a3⟩ := hx.list_inv hF
    subst a1
    exact .inl ⟨a, xs, rfl, .inl (SqL.of a2), by rw [a3.length]; exact p _ F H (Ext.refl hF) (.int _)⟩
  · obtain ⟨a, xs, a1, a2, a3⟩ := hx.tuple_inv
    subst a1
    exact .inl ⟨a, xs, rfl, .inr (ex_t hF a2), by rw [a3.length]; exact p _ F H (Ext.refl hF) (.int _)⟩
  · rename_i z
    cases hz : sz z.length with
    | false => rw [hz] at p; exact p.elim
    | true =>
      rw [hz] at p
      rw [hx.str_inv]
      exact .inr ⟨z, rfl, sz_ok hz, p _ F H (Ext.refl hF) (.int _)⟩
  · exact p.elim
theorem ME.len {p : Pos} (hg : GlS Γ.sc "len") (hm : Γ.mg "len" = none) (h : MB Γ own e m) (he : ∀ env, starEach [e] env = [(false, eval e env)]) : ME Γ own (.Call (.Name "len" p) [e] [] pos) (mOp1 fLen m) :=
  ME.callB (fun X hX => by
    have := CallR.or (call_len_seq (X := X)) call_len_str
    rw [hX.K] at this
    exact this) (calls_len _) hg hm PySem.boot_len h (by decide) (by decide) he
/-- str of an int -/
def fStr (x : D) : Option D := match x with
  | .int i => bif decide (i.natAbs.log2 < 1920) then some (.str (toString i)) else none
  | _ => none
theorem calls_str (K : PySem.W.Frag) : CallS K (fun xs H Q => ∃ i, xs = [.int i] ∧ i.natAbs.log2 < 1920 ∧ Q (.str (toString i)) H) fStr := by
  intro c F H x dx Q hF hx p
  unfold fStr at p
  split at p
  · rename_i i
    cases hz : decide (i.natAbs.log2 < 1920) with
    | false => rw [hz] at p; exact p.elim
    | true =>
      rw [hz] at p
      exact ⟨i, by rw [hx.int_inv], of_decide_eq_true hz, p _ F H (Ext.refl hF) (.str _)⟩
  · exact p.elim
theorem ME.str {p : Pos} (hg : GlS Γ.sc "str") (hm : Γ.mg "str" = none) (h : MB Γ own e m) (he : ∀ env, starEach [e] env = [(false, eval e env)]) : ME Γ own (.Call (.Name "str" p) [e] [] pos) (mOp1 fStr m) :=
  ME.callT (fun X hX => call_str_int) (calls_str _) hg hm (by decide +kernel) h (by decide) (by decide) he
/-- int of an int, a truth value, a text -/
def fInt (x : D) : Option D := match x with
  | .int i => some (.int i)
  | .bool b => some (.int (if b then 1 else 0))
  | .str z => bif decide (z.length ≤ 640) then (PySem.intText? z).map fun n => .int n else none
  | _ => none
def rInt1 : List V → Hp → VK → Prop := fun xs H Q => (∃ i, xs = [.int i] ∧ Q (.int i) H) ∨ ∃ k, xs = [.bl k] ∧ Q (.int (if k then 1 else 0)) H
def rIntT : List V → Hp → VK → Prop := fun xs H Q => ∃ a n, xs = [.str a] ∧ PySem.intText? a = some n ∧ a.length ≤ 640 ∧ Q (.int n) H
theorem calls_int (K : PySem.W.Frag) : CallS K (rOr1 rInt1 rIntT) fInt := by
  intro c F H x dx Q hF hx p
  unfold fInt at p
  split at p
  · rename_i i
    exact .inl (.inl ⟨i, by rw [hx.int_inv], p _ F H (Ext.refl hF) (.int _)⟩)
  · rename_i i
    exact .inl (.inr ⟨i, by rw [hx.bool_inv], p _ F H (Ext.refl hF) (.int _)⟩)
  · rename_i z
    cases hz : decide (z.length ≤ 640) with
    | false => rw [hz] at p; exact p.elim
    | true =>
      rw [hz] at p
      cases q : PySem.intText? z with
      | none => rw [q] at p; exact p.elim
      | some n =>
        rw [q] at p
        exact .inr ⟨z, n, by rw [hx.str_inv], q, of_decide_eq_true hz, p _ F H (Ext.refl hF) (.int _)⟩
  · exact p.elim
theorem ME.int {p : Pos} (hg : GlS Γ.sc "int") (hm : Γ.mg "int" = none) (h : MB Γ own e m) (he : ∀ env, starEach [e] env = [(false, eval e env)]) : ME Γ own (.Call (.Name "int" p) [e] [] pos) (mOp1 fInt m) :=
  ME.callT (fun X hX => CallR.or call_int1 call_int_str) (calls_int _) hg hm (by decide +kernel) h (by decide) (by decide) he
/-! ### slices -/
theorem snd_sl {ta : TE} {tl th : TO} {ml mh : Mr (Option Int)} (ha : Snd Γ own (fun c F H v d => RB Γ.K c F H v d) ta m) (hl : Snd Γ own (fun _ _ _ v d => v = d) tl ml) (hh : Snd Γ own (fun _ _ _ v d => v = d) th mh) :
    Snd Γ own (fun _ F _ v d => Rp Γ.K F v d) (tSl (rSl Γ.K) ta tl th) (mSl m ml mh) := fun c F0 H0 F H σ ρ s Q g p => by
  refine ha c F0 H0 F H σ ρ s _ g (Post.step p fun d s1 v F1 H1 e1 c1 r' p1 => ?_)
  refine hl c F0 H0 F1 H1 σ ρ s1 _ (g.go e1 c1) (Post.step p1 fun l s2 l' F2 H2 e2 c2 r2' p2 => ?_)
  refine hh c F0 H0 F2 H2 σ ρ s2 _ ((g.go e1 c1).go e2 c2) (Post.step p2 fun h s3 h' F3 H3 e3 c3 r3' p3 => ?_)
  subst r2' r3'
  exact ops_sl e3.fh ((r'.go e2).go e3) (PoD.of p3 c3)
/-- of a list, a text, a tuple -/
theorem ME.sl {l h : Option Expr} {ml mh : Mr (Option Int)} (hsl : ∀ X : Cx, SlR X (rSlT2 X.K)) (ha : MB Γ own a m) (hl : MO Γ own l ml) (hh : MO Γ own h mh) : ME Γ own (.Subscript a (.Slice l h none p2) pos) (mSl m ml mh) := by
  obtain ⟨ta, a1, a2⟩ := ha
  obtain ⟨tl, l1, l2⟩ := hl
  obtain ⟨th, h1, h2⟩ := hh
  refine ⟨tSl (rSl Γ.K) ta tl th, fun X hX => ?_, snd_sl a2 l2 h2⟩
  have := pe_slice (pos := pos) (p2 := p2) (sl_any (hsl X)) (a1 X hX) (l1 X hX) (h1 X hX)
  rw [hX.K] at this
  exact this
end
end M
set_option maxRecDepth 100000
set_option maxHeartbeats 4000000
/-! The mirror layer: an own error class over another own class over ValueError, its __init__ calling super().__init__ with a text and storing two fields. -/
namespace M.TE
open PySem PySem.W PySem.Calls PyProof.Rows PySem.HandSPX
def iA (p1 p2 p3 : Pos) : Arguments := { posonlyargs := [], args := [{ arg := "self", annotation := none, pos := p1 }, { arg := "place", annotation := none, pos := p2 }, { arg := "word", annotation := none, pos := p3 }], vararg := none, kwonlyargs := [], kw_defaults := [], kwarg := none, defaults := [] }
structure Ps where
  (a0 a1 a2 a3 a4 a5 a6 a7 a8 a9 b1 b2 b3 b4 c1 c2 c3 c4 d1 : Pos)
/-- the places: the class stands in row LL -/
abbrev LL : Nat := 4
abbrev pl (l c e : Nat) : Pos := ⟨LL + l, c, LL + l, e⟩
def pp : Ps := ⟨pl 3 8 13, pl 3 8 15, pl 3 8 24, pl 3 25 28, pl 3 29 34, pl 3 25 35, pl 3 38 41, pl 3 25 41, pl 3 44 48, pl 3 8 49, pl 4 8 12, pl 4 8 18, pl 4 21 26, pl 4 8 26, pl 5 8 12, pl 5 8 17, pl 5 20 24, pl 5 8 24, pl 3 25 48⟩
def iB (p : Ps) : List Stmt := [
  .Expr (.Call (.Attribute (.Call (.Name "super" p.a0) [] [] p.a1) "__init__" p.a2) [.BinOp (.BinOp (.Call (.Name "str" p.a3) [.Name "place" p.a4] [] p.a5) .Add (.Constant (.str " ") 0 p.a6) p.a7) .Add (.Name "word" p.a8) p.d1] [] p.a9) p.a9,
  .Assign [.Attribute (.Name "self" p.b1) "place" p.b2] (.Name "place" p.b3) p.b4,
  .Assign [.Attribute (.Name "self" p.c1) "word" p.c2] (.Name "word" p.c3) p.c4]
def iS : Scope := { kind := .function, names := [(PySem.Str.ofString "self", .local), (PySem.Str.ofString "place", .local), (PySem.Str.ofString "word", .local), (PySem.Str.ofString "__class__", .free), (PySem.Str.ofString "super", .globalImplicit), (PySem.Str.ofString "str", .globalImplicit)], isGenerator := false, isCoroutine := false, more := [] }
/-- what the written part says of the class at C, of its __init__ at fI -/
structure Txt (P : Program) (K : Frag) (mg : Str → Option Value) (C fI : Addr) : Prop where
  gC : mg "TextError" = some (.ref C)
  cls : ∃ nm q N bs bm sn sub ab col dd k0 k1 k2 k3 k5, K.lookup C = some (excClassObj nm q C N bs bm true sn sub ab col dd k0 k1 k2 k3 k5 "ValueError.__new__") ∧ refsVE bm = true
  sa : findIn K (.ref C) "__setattr__" = some (some (.builtin "object.__setattr__"))
  ga : findIn K (.ref C) "__getattribute__" = some (some (.builtin "BaseException.__getattribute__"))
  gg : findIn K (.ref C) "__getattr__" = some none
  noP : findIn K (.ref C) "place" = some none
  noW : findIn K (.ref C) "word" = some none
  iC : findIn K (.ref C) "__init__" = some (some (.ref fI))
  tC : typeIn K (.ref fI) = some (.type "function")
  kC : keepIn K (.ref C) = true
  exC : subIn K (.ref C) (.type "BaseException") = some true
  veC : subIn K (.ref C) (.type "ValueError") = some true
  tyC : typeIn K (.ref C) = some (.type "type")
  hdC : hasDictIn K C = true
  te : exmOne K (.ref C) (.ref C) = some true
  mroC : mroIn K C (.ref C) = some true
  sup : ks_superIn K C C "__init__" = some (some (.builtin "ValueError.__init__"))
  opq : nsIn K cStatics "thirdparty.any" = some none
  gS : mg "super" = none
  gStr : mg "str" = none
  fn : ∃ (oc : Value) (od : Option Addr) (kV doc pm : Value) (an : Option Addr) (ct : Value) (osl : Array (Option Value)) (cc cda : Addr) (p1 p2 p3 : Pos),
    K.lookup fI = some ⟨oc, od, .func (ksFn "__init__" "TextError.__init__" (iA p1 p2 p3) (iB pp) iS .none kV doc pm an (.ref cda) ct cc), osl⟩ ∧ codeIn K (.ref cda) "TextError.__init__" = true ∧
    (∃ (ccl : Value) (cdd : Option Addr) (vs : Array Value) (ccs : Array (Option Value)) (file : Str) (tf : Tok), K.lookup cda = some ⟨ccl, cdd, .fields vs, ccs⟩ ∧ vs[2]? = some (.str file tf) ∧ ((P.main.file : Str) == file) = true) ∧
    (∃ (cl : Value) (cld : Option Addr) (csl : Array (Option Value)), K.lookup cc = some ⟨cl, cld, .cell (some (.ref C)), csl⟩)
  top : (P.main.scope.names.lookup ("super" : Str)).isSome = false
/-- what __init__ leaves of a fresh exception at x -/
structure End (h h' : Heap) (x C dx : Addr) (v1 v2 : Value) : Prop where
  keep : ∀ b o, b ≠ x → h.get? b = some o → h'.get? b = some o
  obj : ∃ t1 : Addr, h'.get? x = some { cls := .ref C, dict := some dx, data := .fields #[.ref t1, .none, .none, .none, .bool false, .none] }
  dbig : h.objs.size ≤ dx
  dne : dx ≠ x
  ns : h'.Ns1 dx (fun y => if y = "word" then some v2 else if y = "place" then some v1 else none)
section
variable {prog : Program} {w : World} {A : Around} {E : Value → Shared → Prop} {R : Result → Shared → Prop} {s : Shared} {K : Frag} {mg : Str → Option Value} {C fI : Addr}
def BN (x : Addr) (n : Int) (z : Str) (tk1 tk2 : Tok) : List (Str × Value) := ([("self", .ref x), ("place", .int n tk1), ("word", .str z tk2)] : List (Str × Value)).reverse
theorem str_app_len (x y : Str) : (x ++ y).length = x.length + y.length := by
  show (x.cps ++ y.cps).size = x.cps.size + y.cps.size
  exact Array.size_append
theorem one_size (v : Value) : [v].length ≤ sizeLine := by
  rw [sizeLine_eq]; exact (by decide : 1 ≤ 16777216)
/-- the bound built-in __init__, called -/
theorem call_mw {u x t0 : Addr} {rest : List Value} {Q : Value → Shared → Prop} {nm q : Str} {N : Addr} {bs bm : List Value} {sn : List Str} {sub : List Value} {ab : Bool} {col : Option Bool} {dd : Option Addr} {k0 k1 k2 k3 k5 : Option Value}
    (hC : s.heap.get? C = some (excClassObj nm q C N bs bm true sn sub ab col dd k0 k1 k2 k3 k5 "ValueError.__new__")) (hu : s.heap.get? u = some (kxs_mw "ValueError.__init__" x)) (hx : s.heap.get? x = some (excO C t0)) (hz : rest.length ≤ sizeLine)
    (h : ∀ h' t1, (∀ b o, b ≠ x → s.heap.get? b = some o → h'.get? b = some o) → h'.get? x = some (excO C t1) → Q .none { s with heap := h' }) :
    wpAny (model prog w) A (call (.ref u) rest) Q E s := by
  obtain ⟨hh, g, d, tk, os⟩ := s
  have FB := F.excBase_ValueError
  refine wpAny_call (codeAny_of_tree ?_)
  show wpAny _ A.in1 (callAny (.ref u) ⟨rest, []⟩) _ _ _
  simp only [callAny]
  refine wpAny_bind (wpAny_load hu ?_)
  simp only [kxs_mw, show (Value.type "method-wrapper" == Value.type "method" || Value.type "method-wrapper" == Value.type "builtin_function_or_method" || Value.type "method-wrapper" == Value.type "method-wrapper") = true by decide, if_true]
  refine KFB.if_so (by decide) ?_
  refine wpAny_bind (check_bound_init FB.toExcCallFacts hC hx rfl ?_)
  refine wpAny_bind (wpAny_pure (wpAny_pure ?_))
  refine ⟨plainId_quiet FB.init.plain _, codeAny_builtin FB.initEntry ?_⟩
  exact exc_init_tree (cls := .ref C) (t0 := t0) (dv := none) (c2 := .none) (c3 := .none) (b4 := .bool false) hx hz fun h' k e _ => h h' _ k e
theorem init (T : Txt prog K mg C fI) {x t0 : Addr} {n : Int} {z : Str} {v1 v2 : Value} (e1 : ∃ t, v1 = .int n t) (e2 : ∃ t, v2 = .str z t) (hn : n.natAbs.log2 < 1920) (hz : (toString n : Str).length + 1 + z.length ≤ sizeLine) (X : K.In s.heap) (hlim : s.heap.NoLimit)
    (hg : s.heap.Ns mainGlobals mg) (hb : ∃ mb, s.heap.Ns builtinsNs mb ∧ ∀ y : Str, y ≠ "__name__" → mb y = bootBuiltins y)
    (hx : s.heap.get? x = some (excO C t0)) (Kx : K.lookup x = none) (hroom : A.depth < recursionLimit)
    (hq : ∀ h' tk dx, End s.heap h' x C dx v1 v2 → R (.ok (.ret .none)) { s with heap := h', toks := tk }) :
    codeAny (model prog w) A (.call (.ref fI) ⟨[.ref x, v1, v2], []⟩) R s := by
  obtain ⟨tk1, rfl⟩ := e1
  obtain ⟨tk2, rfl⟩ := e2
  obtain ⟨oc, od, kV, doc, pm, an, ct, osl, cc, cda, p1, p2, p3, ho, hcd, ⟨ccl, cdd, vs, ccs, file, tf, hcode, hvs, hfile⟩, cl, cld, csl, hcell⟩ := T.fn
  obtain ⟨nm, q, N, bs, bm, sn, sub, ab, col, dd, k0, k1, k2, k3, k5, hC, hbm⟩ := T.cls
  obtain ⟨mb, hbn, hbv⟩ := hb
  have hcl : clsIn K C = some { name := nm, bases := bs, mro := .ref C :: bm, ns := N, qualname := q, hasDict := true, slotNames := sn, subclasses := sub, abstract := ab, collection := col, hasDel := false } := by unfold clsIn; rw [hC] <;> rfl
  refine ks_codeAny_call_defAt (fd := ksFn "__init__" "TextError.__init__" (iA p1 p2 p3) (iB pp) iS .none kV doc pm an (.ref cda) ct cc) (body := iB pp) (binds := [("self", .ref x), ("place", .int n tk1), ("word", .str z tk2)]) hroom (X _ _ ho) rfl hlim (codeRec_of X hcd) rfl
    (BindsTo.of_eq (by first | rfl | with_unfolding_all rfl)) (show ∀ x ∈ iS.names, x.2 ≠ .cell by decide +kernel) (by first | exact locs rfl | decide +kernel) (fun h0 hns k0' => ?_) rfl rfl rfl
  have X0 : K.In h0 := X.keeps k0'
  have hx0 := k0' _ _ hx
  have hsz : s.heap.objs.size < h0.objs.size := hns.lt
  obtain ⟨hh, g, d, tk, os⟩ := s
  have hg0 : h0.Ns mainGlobals mg := hg.keeps k0'
  have hbn0 : h0.Ns builtinsNs mb := hbn.keeps k0'
  obtain ⟨oC, hC1, hC2⟩ : ∃ oD, h0.get? C = some oD ∧ oD.data = .cls { name := nm, bases := bs, mro := .ref C :: bm, ns := N, qualname := q, hasDict := true, slotNames := sn, subclasses := sub, abstract := ab, collection := col, hasDel := false } := ⟨_, X0 _ _ hC, rfl⟩
  have hks : iS.names.lookup ("super" : Str) = some .globalImplicit := by decide +kernel
  have hkc : iS.names.lookup ("__class__" : Str) = some .free := by decide +kernel
  have hkst : iS.names.lookup ("str" : Str) = some .globalImplicit := by decide +kernel
  have hkse : iS.names.lookup ("self" : Str) = some .local := by decide +kernel
  have hkp : iS.names.lookup ("place" : Str) = some .local := by decide +kernel
  have hkw : iS.names.lookup ("word" : Str) = some .local := by decide +kernel
  have m1 : (BN x n z tk1 tk2).lookup ("self" : Str) = some (.ref x) := by rfl
  have m2 : (BN x n z tk1 tk2).lookup ("place" : Str) = some (.int n tk1) := by rfl
  have m3 : (BN x n z tk1 tk2).lookup ("word" : Str) = some (.str z tk2) := by rfl
  have hxL : hh.objs.size ≠ x := Nat.ne_of_gt (Heap.lt_size hx)
  -- super()
  show PySem.wpAt _ _ _ (execs (iB pp) _) _ _ _
  refine ks_wpAt_execs_cons (ks_wpAt_Expr_any (ks_wpAt_MethodCall (pl := _) ?_ (by rfl)))
  refine ks_wpAt_super_base (env := ksEnv "TextError.__init__" iS hh.objs.size fI (.ref cda) cc) hks hkc (by decide) rfl (X0 _ _ ho) rfl rfl rfl (X0 _ _ hcode) rfl hvs hfile T.top ?_
  refine ks_loadName_global rfl hks (loadGlobal_builtin (env := ksEnv "TextError.__init__" iS hh.objs.size fI (.ref cda) cc) hg0 T.gS hbn0 ((hbv _ (by decide +kernel)).trans (by first | boot_by_name | rfl | kernel_rfl)) ⟨rfl, ?_⟩)
  refine wpAny_loadName_free rfl hkc rfl ⟨_, X0 _ _ hcell, rfl⟩ ?_
  refine wpAny_loadName_local rfl hkse hns m1 ?_
  refine ks_wpAny_isType_cls hC1 hC2 ⟨rfl, ?_⟩
  refine ks_wpAny_call_super hC1 hC2 hx0 rfl (fun c e => by cases e) (looks_mroIn X0 T.mroC) (fun h1 e1 k1 => ?_)
  -- .__init__
  have X1 : K.In h1 := X0.keeps k1
  have I1 : InstAt h1 x (excO C t0) C none := ⟨k1 _ _ hx0, rfl, rfl, trivial⟩
  have xC : x ≠ C := ks_ne X1 I1 hcl
  refine kxs_getMethod kxs_ValueError e1 (looks_opaque X1 T.opq) (l₀ := .ref C :: bm) (fun A Q E s k q => wpAny_bind ((looks_clsIn X1 hcl) A _ E s k (wpAny_pure q))) rfl X1 (by have := T.sup; unfold ks_superIn at this; rw [hcl] at this; exact this) (I1.type.andThen (looks_subIn X1 T.veC)) xC (by decide) ?_
  have k2 : ∀ b o, h1.get? b = some o → (h1.push (kxs_mw "ValueError.__init__" x)).get? b = some o := fun b o e => Heap.get?_push_of_some _ e
  have hu : (h1.push (kxs_mw "ValueError.__init__" x)).get? h1.objs.size = some (kxs_mw "ValueError.__init__" x) := Heap.get?_push_at rfl rfl
  generalize hU : h1.objs.size = u at hu ⊢
  generalize hH : h1.push (kxs_mw "ValueError.__init__" x) = h2 at k2 hu ⊢
  have k02 : ∀ b o, h0.get? b = some o → h2.get? b = some o := fun b o e => k2 b o (k1 b o e)
  have X2 : K.In h2 := X0.keeps k02
  have hns2 : h2.Ns hh.objs.size (fun y => (BN x n z tk1 tk2).lookup y) := by
    obtain ⟨o, es, ep, e1, e2⟩ := hns
    exact ⟨o, es, ep, k02 _ _ e1, e2⟩
  have hg2 : h2.Ns mainGlobals mg := hg0.keeps k02
  have hbn2 : h2.Ns builtinsNs mb := hbn0.keeps k02
  -- the text
  refine kxs_callWith (i := "ValueError.__init__") (x := x) (by rfl) (evalArgs_plain (Calls.spliced_cons ?_))
  refine wpAny_BinOp (wpAny_BinOp ?_)
  refine Call_ (wpAny_Name (ks_loadName_global rfl hkst (loadGlobal_builtin (env := ksEnv "TextError.__init__" iS hh.objs.size fI (.ref cda) cc) hg2 T.gStr hbn2 ((hbv _ (by decide +kernel)).trans (by first | boot_by_name | rfl | kernel_rfl)) ?_)) (by decide))
  refine callWith_type1 (Calls.spliced_cons (wpAny_Name (wpAny_loadName_local rfl hkp hns2 m2 (Calls.spliced_nil ?_)) (by decide)))
  refine PySem.P.str_of_int hn ?_
  refine Calls.Constant_str ?_
  refine add_str (fun t1 tk3 => ?_) ?_
  · refine wpAny_Name (wpAny_loadName_local rfl hkw hns2 m3 ?_) (by decide)
    refine add_str (fun t2 tk4 => Calls.spliced_nil ⟨?_, ?_⟩) ?_
    · exact hu
    · -- the call
      refine call_mw (X2 _ _ hC) hu (k02 _ _ hx0) (one_size _) fun h3 t1 k3 e3 => ?_
      have k03 : ∀ b o, b ≠ x → hh.get? b = some o → h3.get? b = some o := fun b o hb e => k3 b o hb (k02 _ _ (k0' _ _ e))
      have X3 : K.In h3 := fun b o e => k3 b o (fun z => by rw [z, Kx] at e; cases e) (X2 b o e)
      have hns3 : h3.Ns hh.objs.size (fun y => (BN x n z tk1 tk2).lookup y) := by
        obtain ⟨o, es, ep, e1, e2⟩ := hns2
        exact ⟨o, es, ep, k3 _ _ hxL e1, e2⟩
      show PySem.wpAt _ _ _ (execs _ _) _ _ _
      refine wpAt_of_wpAny (wpAny_execs_cons (plainObj_wpAny_Assign_Attribute ?_))
      refine wpAny_Name (wpAny_loadName_local rfl hkp hns3 m2 ?_) (by decide)
      refine wpAny_Name (wpAny_loadName_local rfl hkse hns3 m1 ?_) (by decide)
      refine set_plain X3 (ox := excO C t1) (od := none) ⟨e3, rfl, rfl, trivial⟩ T.sa ?_
      refine exc_osa X3 e3 hcl (show refsVE (.ref C :: bm) = true from hbm) rfl T.noP (fun h4 tk5 dx k4 dn dne hx4 hn4 => ?_)
      show wpAny _ _ (execs _ _) _ _ _
      refine wpAny_execs_cons (plainObj_wpAny_Assign_Attribute ?_)
      have X4 : K.In h4 := fun b o e => k4 b o (fun z => by rw [z, Kx] at e; cases e) (X3 b o e)
      have hns4 : h4.Ns hh.objs.size (fun y => (BN x n z tk1 tk2).lookup y) := by
        obtain ⟨o, es, ep, e1, e2⟩ := hns3
        exact ⟨o, es, ep, k4 _ _ hxL e1, e2⟩
      refine wpAny_Name (wpAny_loadName_local rfl hkw hns4 m3 ?_) (by decide)
      refine wpAny_Name (wpAny_loadName_local rfl hkse hns4 m1 ?_) (by decide)
      obtain ⟨oD, esD, epD, hoD, hdD, _⟩ := id hn4
      refine set_plain X4 (ox := { cls := .ref C, dict := some dx, data := .fields #[.ref t1, .none, .none, .none, .bool false, .none] }) (od := some oD) ⟨hx4, rfl, rfl, hoD⟩ T.sa ?_
      refine OEX.osa_old X4 hx4 hn4 (nl := ["place"]) (fun y hy => by
        by_cases q : y = "place"
        · rw [q]; exact List.mem_cons_self
        · exact absurd (if_neg q) hy) (by decide) hcl (show refsVE (.ref C :: bm) = true from hbm) rfl T.noW (fun h5 tk6 k5 hn5 => ?_)
      show wpAny _ _ (execs _ _) _ _ _
      refine wpAny_execs_nil (hq h5 _ dx ⟨fun b o hb e => ?_, ⟨t1, ?_⟩, ?_, dne, hn5⟩)
      · have hb3 : b ≠ dx := fun q => by
          have l1 := Heap.lt_size (k03 b o hb e)
          rw [q] at l1
          exact absurd (Nat.lt_of_lt_of_le l1 dn) (Nat.lt_irrefl _)
        exact k5 b o hb3 (k4 b o hb (k03 b o hb e))
      · exact k5 x _ (Ne.symm dne) hx4
      · have l1 : hh.objs.size < h3.objs.size := by
          obtain ⟨o, es, ep, e1, e2⟩ := hns3
          exact Heap.lt_size e1
        exact Nat.le_of_lt (Nat.lt_of_lt_of_le l1 dn)
    · have l1 : ((Str.ofString (toString n)) ++ (" " : Str)).length = (Str.ofString (toString n)).length + 1 := by
        rw [str_app_len]; rfl
      rw [l1]; exact hz
  · show (Str.ofString (toString n)).length + 1 ≤ _
    omega
/-- a made TextError -/
structure Made (h h' : Heap) (e C d : Addr) (v1 v2 : Value) : Prop where
  keep : ∀ b o, h.get? b = some o → h'.get? b = some o
  new : h.objs.size ≤ e
  obj : ∃ oe vs, h'.get? e = some oe ∧ oe.cls = .ref C ∧ oe.dict = some d ∧ oe.data = .fields vs ∧ vs[1]? = some .none
  dbig : h.objs.size ≤ d
  dne : d ≠ e
  ns : h'.Ns1 d (fun y => if y = "word" then some v2 else if y = "place" then some v1 else none)
theorem made (T : Txt prog K mg C fI) {n : Int} {z : Str} {v1 v2 : Value} (e1 : ∃ t, v1 = .int n t) (e2 : ∃ t, v2 = .str z t) (hn : n.natAbs.log2 < 1920) (hz : (toString n : Str).length + 1 + z.length ≤ sizeLine) (X : K.In s.heap) (hlim : s.heap.NoLimit)
    (hg : s.heap.Ns mainGlobals mg) (hb : ∃ mb, s.heap.Ns builtinsNs mb ∧ ∀ y : Str, y ≠ "__name__" → mb y = bootBuiltins y) (hroom : A.depth + 1 < recursionLimit)
    (hq : ∀ h' tk e d, Made s.heap h' e C d v1 v2 → R (.ok (.ret (.ref e))) { s with heap := h', toks := tk }) :
    codeAny (model prog w) A (.call (.ref C) ⟨[v1, v2], []⟩) R s := by
  obtain ⟨nm, q, N, bs, bm, sn, sub, ab, col, dd, k0, k1, k2, k3, k5, hC, hbm⟩ := T.cls
  obtain ⟨hp, g, dr, tk, os⟩ := s
  have k : ∀ b o, hp.get? b = some o → ((hp.push (kdv_tup [v1, v2])).push (excO C hp.objs.size)).get? b = some o := fun b o e => Heap.get?_push_of_some _ (Heap.get?_push_of_some _ e)
  have hget : ((hp.push (kdv_tup [v1, v2])).push (excO C hp.objs.size)).get? (hp.objs.size + 1) = some (excO C hp.objs.size) := by heap_get
  have hnx : K.lookup (hp.objs.size + 1) = none := by
    cases e : K.lookup (hp.objs.size + 1) with
    | none => rfl
    | some o =>
      have z : hp.get? (hp.objs.size + 1) = some o := X _ _ e
      exact absurd (Nat.lt_of_succ_lt (Heap.lt_size z)) (Nat.lt_irrefl _)
  refine call_own F.excBase_ValueError (fun X => refsVE_contains X bm hbm) (X _ _ hC) (looks_findIn X T.iC) (fun self => bind_fn X self T.tC) (by rw [sizeLine_eq]; exact (by decide : 2 ≤ 16777216)) ?_
  obtain ⟨mb, hbn, hbv⟩ := hb
  refine init (s := ⟨(hp.push (kdv_tup [v1, v2])).push (excO C hp.objs.size), g, dr, tk, os⟩) T e1 e2 hn hz (X.keeps k) (hlim.keeps k) (hg.keeps k) ⟨mb, hbn.keeps k, hbv⟩ hget hnx ?_ fun h' tk' dx ⟨k', hx, dn, dne, hns⟩ => ?_
  · show A.depth + 1 < recursionLimit
    exact hroom
  · have old : ∀ b o, hp.get? b = some o → h'.get? b = some o := fun b o e => k' b o (Nat.ne_of_lt (Nat.lt_succ_of_lt (Heap.lt_size e))) (k b o e)
    have z : hp.objs.size + 1 + 1 ≤ dx := by
      first
        | (simpa only [Heap.size_push] using dn)
        | exact dn
        | (have q := dn; rw [Heap.size_push, Heap.size_push] at q; exact q)
    obtain ⟨t1, hx⟩ := hx
    exact ⟨rfl, hq h' tk' (hp.objs.size + 1) dx ⟨old, Nat.le_succ _, ⟨_, _, hx, rfl, rfl, rfl, rfl⟩, Nat.le_trans (Nat.le_trans (Nat.le_succ _) (Nat.le_succ _)) z, dne, hns⟩⟩
end
end M.TE
set_option maxRecDepth 100000
set_option maxHeartbeats 4000000
/-! The mirror layer, part 6: TextError, try, defs that draw. -/
namespace M
open PySem L2
section
variable {Γ : Ga} {lo own own' own₁ : List Nat} {e a b : Expr} {es : List Expr} {m ma mb : Mr D} {pos p1 p2 : Pos}
theorem ME.add (ha : MB Γ own a ma) (hb : MB Γ own b mb) : ME Γ own (.BinOp a .Add b pos) (mOp2 fAdd ma mb) := ME.op2 (fun X hX => by
  have := OpR.or (op_add (X := X)) (OpR.or op_add_str (OpR.or op_cat op_catA))
  rw [hX.K] at this
  exact this) (ops_add _) ha hb
theorem ME.slice {l h : Option Expr} {ml mh : Mr (Option Int)} (ha : MB Γ own a m) (hl : MO Γ own l ml) (hh : MO Γ own h mh) : ME Γ own (.Subscript a (.Slice l h none p2) pos) (mSl m ml mh) := ME.sl (fun X => sl_tupA) ha hl hh
/-! ### raise TextError(place, word) -/
def lim (n : Int) (z : Str) : Bool := decide (n.natAbs.log2 < 1920) && sz ((toString n : Str).length + 1 + z.length)
def xdTE (n : Int) (z : Str) : List (Str × V) := [("word", .str z), ("place", .int n)]
theorem relO_te {n : Int} {z : Str} {v1 v2 : Value} (r1 : RelV (.int n) v1) (r2 : RelV (.str z) v2) (f : Str) : RelO (List.lookup f (xdTE n z)) (if f = "word" then some v2 else if f = "place" then some v1 else none) := by
  unfold xdTE
  rw [lookup_put]
  by_cases h : f = "word"
  · rw [if_pos h, if_pos h]; exact r2
  · rw [if_neg h, if_neg h, lookup_put]
    by_cases h' : f = "place"
    · rw [if_pos h', if_pos h']; exact r1
    · rw [if_neg h', if_neg h']; trivial
def tMkTE (C : Addr) (ta : TA) : L2.St → Hp → XK → Prop := fun σ H Q => ta σ H fun vs H1 => ∃ n z, vs = [.int n, .str z] ∧ lim n z = true ∧ ∀ d, H1 d = none → Q (.ref C) (some d) (upd H1 d (.xd (xdTE n z)))
theorem pmk_te {X : Cx} {C fI : Addr} {ta : TA} {p : Pos} {k : Nat} (T : TE.Txt X.prog X.K X.mg C fI) (hr : Room (k + 1) X.A) (ha : PA X [a, b] ta) (hg : Gl X "TextError")
    (he : starEach (a :: [b]) X.env = (false, eval a X.env) :: starEach [b] X.env) (hpl : (backTo pos (starEach [b] X.env)).any (·.1) = false) :
    PMk X (.Call (.Name "TextError" p) [a, b] [] pos) (tMkTE C ta) := by
  intro pins s σ H Q I h
  refine PySem.wpAny_Call_Name_kw (ld_glob I hg T.gC ?_)
  refine PySem.W.callWith_K (h₀ := X.base) I.ok.mod.kin T.kC (thn (ha.run pos pins s σ H _ I h) fun us s1 hh => ?_) he hpl
  obtain ⟨vs, H1, I1, r1, n, z, ev, hl, q1⟩ := hh
  subst ev
  refine ⟨I1.kIn, ?_⟩
  obtain ⟨l1, l2⟩ := Bool.and_eq_true_iff.mp hl
  cases r1 with
  | cons rv rn =>
    cases rn with
    | cons rw' rn =>
      cases rn
      rename_i v1 v2
      show wpAny _ _ (call (.ref C) [v1, v2]) _ _ _
      have hlim := I1.nolimit
      have hmod := I1.ok.mod
      have kb : ∀ b o, X.base.get? b = some o → s1.heap.get? b = some o := I1.bk
      obtain ⟨mb, hb1, hb2⟩ := hmod.blt
      obtain ⟨hp, g, dr, tk, os⟩ := s1
      refine wpAny_call (TE.made T rv rw' (of_decide_eq_true l1) (sz_ok l2) I1.kIn hlim (hmod.glob.keeps kb) ⟨mb, hb1.keeps kb, hb2⟩ (by have := hr.dp; omega) fun h' tk' e d M => ?_)
      show MkP X pins σ Q (.ref e) ⟨h', g, dr, tk', os⟩
      obtain ⟨oe, fv, hoe, hc, hd, hdat, h1⟩ := M.obj
      have hns := M.ns
      obtain ⟨G', g1, g2⟩ := restrict h' fun b => decide (b ≠ e)
      have gk : ∀ b, b ≠ e → G'.get? b = h'.get? b := fun b hb => g1 b (decide_eq_true hb)
      have ge : G'.get? e = none := g2 e (by simp)
      have old : ∀ b o, hp.get? b = some o → G'.get? b = some o := fun b o q => (gk b (Nat.ne_of_lt (Nat.lt_of_lt_of_le (Heap.lt_size q) M.new))).trans (M.keep b o q)
      have ob : ObjOk X.prog X.w (upd H1 d (.xd (xdTE n z))) G' d (.xd (xdTE n z)) :=
        ⟨_, hns.at (fun o q => (gk d M.dne).trans q), relO_te rv rw'⟩
      have J : Inv X pins σ (upd H1 d (.xd (xdTE n z))) ⟨G', g, dr, tk', os⟩ := I1.laid (t' := tk') old M.dbig ob
      refine ⟨e, oe, fv, ⟨G', g, dr, tk', os⟩, _, .ref C, some d, rfl, J, fun b o q => ?_, ge, hoe, ⟨hc, hd⟩, hdat, h1, ?_, rfl, I1.bare, raises_own T.exC T.tyC, q1 d (I1.hok.fresh M.dbig)⟩
      · by_cases hb : b = e
        · have q' : G'.get? b = some o := q
          rw [hb, ge] at q'; cases q'
        · exact (gk b hb).symm.trans q
      · rw [upd_ne (Ne.symm M.dne)]
        exact I1.hok.fresh M.new
def eTE (n : Int) (z : Str) : Err := ⟨"TextError", [("place", .int n), ("word", .str z)]⟩
def mTE (r : Mr (List D)) : Mr Err := fun ρ s => (r ρ s).bind fun ds s => match ds with
  | [.int n, .str z] => bif lim n z then .ok (eTE n z) s else .bad
  | _ => .bad
theorem MX.te {C fI : Addr} {p : Pos} {k : Nat} {r : Mr (List D)} (T : TE.Txt Γ.P Γ.K Γ.mg C fI) (hk : k + 1 ≤ Γ.k) (hg : GlS Γ.sc "TextError") (ha : MA Γ own [a, b] r)
    (he : ∀ env, starEach (a :: [b]) env = (false, eval a env) :: starEach [b] env) (hpl : ∀ env, (backTo pos (starEach [b] env)).any (·.1) = false) : MX Γ own (.Call (.Name "TextError" p) [a, b] [] pos) (mTE r) := by
  obtain ⟨t, h1, h2⟩ := ha
  refine ⟨tMkTE C t, fun X hX => pmk_te (fI := fI) (by rw [hX.prog, hX.K, hX.mg]; exact T) (hX.room.mono hk) (h1 X hX) (hg.gl hX) (he _) (hpl _), fun c F0 H0 F H σ ρ s Q g p => ?_⟩
  have key : ∀ ds s1 vs F1 H1, Ext c F H F1 H1 → Cell Γ.K c s1 F1 H1 → RpA Γ.K F1 vs ds → PostX Γ c F1 H1 σ (match ds with
    | [.int n, .str z] => bif lim n z then .ok (eTE n z) s1 else .bad
    | _ => .bad) Q → ∃ n z, vs = [.int n, .str z] ∧ lim n z = true ∧ ∀ d, H1 d = none → Q (.ref C) (some d) (upd H1 d (.xd (xdTE n z))) := fun ds s1 vs F1 H1 e1 c1 r' p1 => by
    split at p1
    · rename_i n z
      cases hl : lim n z with
      | false => rw [hl] at p1; exact p1.elim
      | true =>
        rw [hl] at p1
        cases r' with
        | cons r1 r2 =>
          cases r2 with
          | cons r2 r3 =>
            cases r3
            refine ⟨n, z, by rw [Rp.int_inv r1, Rp.str_inv r2], hl, fun d hd => ?_⟩
            refine p1 _ _ F1 _ (Ext.loose e1.fh hd) (c1.keep (Ext.loose e1.fh hd)) ⟨C, T.gC, rfl, .inr ⟨d, xdTE n z, rfl, upd_same, fun f x hf => ?_⟩⟩
            unfold eTE at hf
            dsimp only at hf
            have lk : ∀ (f g : Str) (y : D) (l : List (Str × D)), ((g, y) :: l).lookup f = if f = g then some y else l.lookup f := fun f g y l => by
              by_cases h : f = g
              · subst h; simp [List.lookup]
              · have e : (f == g) = false := by simpa using h
                simp [List.lookup, e, h]
            rw [lk, lk] at hf
            unfold xdTE
            rw [lookup_put, lookup_put]
            by_cases h : f = "word"
            · have h' : f ≠ "place" := fun q => by rw [h] at q; exact absurd q (by decide)
              rw [if_pos h]
              rw [if_neg h', if_pos h] at hf
              cases hf
              exact ⟨_, rfl, .str z⟩
            · rw [if_neg h]
              by_cases h' : f = "place"
              · rw [if_pos h']
                rw [if_pos h'] at hf
                cases hf
                exact ⟨_, rfl, .int n⟩
              · rw [if_neg h', if_neg h] at hf
                cases hf
    · exact p1.elim
  unfold mTE Res.bind at p
  refine h2 c F0 H0 F H σ ρ s _ g ?_
  cases z : r ρ s with
  | ok ds s1 =>
    rw [z] at p
    refine fun vs F1 H1 e1 c1 r' => key ds s1 vs F1 H1 e1 c1 r' ?_
    dsimp only at p
    split at p
    · rename_i n zz
      cases hl : lim n zz with
      | false => rw [hl] at p; exact p.elim
      | true => rw [hl] at p; exact fun cls dd F' H' e' c' r' => p cls dd F' H' (e1.trans e' c1.at) c' r'
    · exact p.elim
  | er x s1 => rw [z] at p; exact p
  | bad => rw [z] at p; exact p
/-! ### try: return e / except TextError as n: return [n.place, n.word] -/
theorem Good.w {c : Option Addr} {F0 H0 F H : Hp} {σ : L2.St} {ρ : Rho} {s : DS} (g : Good Γ c F0 H0 own F H σ ρ s) (W : WX) : Good { Γ with W := W } c F0 H0 own F H σ ρ s := ⟨g.ext, g.cell, g.len, g.val, g.mine, g.dist, g.hdl⟩
theorem Fs.tr {X : Cx} (hX : Fs Γ X) (W : WX) (pn : List (Addr × Obj)) (xe : Value → Shared → Prop) (tk : Takes (X.tr pn xe) W) (po : PassesOwn (model X.prog X.w) X.A X.env xe) : Fs { Γ with W := W } (X.tr pn xe) where
  prog := hX.prog
  w := hX.w
  K := hX.K
  mg := hX.mg
  base := hX.base
  N := hX.N
  sc := hX.sc
  nd := hX.nd
  calm := hX.calm
  fn := hX.fn
  room := hX.room
  tk := tk
  stk := hX.stk
  fr := hX.fr
  own := po
def mTryTE (m : Mr D) (i : Nat) : Ms := fun ρ s => match m ρ s with
  | .ok d s => .rt d s
  | .er e s => bif decide (e.cls = "TextError") && decide (i < ρ.length) then (match e.fs.lookup ("place" : Str), e.fs.lookup ("word" : Str) with
    | some x, some y => .rt (.list [x, y]) s
    | _, _ => .bad) else .bad
  | .bad => .bad
theorem MS.tryTE {C fI : Addr} (i : Nat) {n : Str} {p3 p4 p5 p6 p7 p8 p9 p10 p11 : Pos} (T : TE.Txt Γ.P Γ.K Γ.mg C fI) (hN : Γ.N[i]? = some n) (hn : Γ.sc.names.lookup n = some .local) (hg : GlS Γ.sc "TextError") (hd : (n == ("__debug__" : Str)) = false) (hcd : (n == ("__classdict__" : Str)) = false)
    (h : ∀ W, ME { Γ with W := W } own e m) (hb1 : ∀ env, attributeBase (.Name n p3) "place" env (eval (.Name n p3) env) = eval (.Name n p3) env) (hb2 : ∀ env, attributeBase (.Name n p4) "word" env (eval (.Name n p4) env) = eval (.Name n p4) env) :
    MS Γ lo own own' (.Try [.Return (some e) p5] [.ExceptHandler (some (.Name "TextError" p6)) (some n) [.Return (some (.List [.Attribute (.Name n p3) "place" p7, .Attribute (.Name n p4) "word" p8] p9)) p10] p11] [] [] pos) (mTryTE m i) := by
  obtain ⟨tb, htb⟩ := Classical.skolem.mp h
  let ts : Addr → Value → Option Addr → TS := fun a cls d => tRet (tLst (tCons (tXf a cls d C "place" (tVar i)) (tCons (tXf a cls d C "word" (tVar i)) tNil)))
  refine ⟨fun D σ H => tRet (tb (wAs Γ.K (.ref C) i ts Γ.W D)) D σ H, fun X hX => ?_, fun c F0 H0 F H σ ρ s E g p => ?_⟩
  · have hi : X.N[i]? = some n := by rw [hX.N]; exact hN
    have hln : X.env.kindOf n = some .local := by
      show X.env.scope.names.lookup n = _
      rw [hX.sc]; exact hn
    have TX : XfC X.K C := by rw [hX.K]; exact ⟨T.ga, T.gg, T.exC, T.hdC⟩
    have nP : PySem.W.findIn X.K (.ref C) "place" = some none := by rw [hX.K]; exact T.noP
    have nW : PySem.W.findIn X.K (.ref C) "word" = some none := by rw [hX.K]; exact T.noW
    have := ps_try_as (pos := pos) (pos' := p11) (np := p6) (tb := fun W => tRet (tb W)) (ts := ts) hX.stk hX.fr hX.nd hi hln (c := .ref C) (x := "TextError") ⟨hg.gl hX.toFm, by decide, .inl (by rw [hX.mg]; exact T.gC)⟩ hX.tk
      (body := [.Return (some e) p5])
      (fun W pn xe tk po => pss_one (ps_ret ((htb W).1 (X.tr pn xe) (hX.tr W pn xe tk po).toFm)))
      (b₀ := .Return (some (.List [.Attribute (.Name n p3) "place" p7, .Attribute (.Name n p4) "word" p8] p9)) p10) (suite := [])
      (fun a oe cls d pn hz hf => pss_one (ps_ret (pe_lst (pa_cons (pe_xf (X := X) TX nP hz hf (pe_var hi (.inl hln) hd hcd) (hb1 _)) (pa_cons (pe_xf (X := X) TX nW hz hf (pe_var hi (.inl hln) hd hcd) (hb2 _)) pa_nil)))))
    rw [hX.K] at this
    exact this
  · show tb (wAs Γ.K (.ref C) i ts Γ.W E) σ H E.rt
    refine (htb _).2 c F0 H0 F H σ ρ s _ (g.w _) ?_
    unfold mTryTE at p
    cases z : m ρ s with
    | ok d s1 =>
      rw [z] at p
      exact fun v F' H' e' c' r' => p v F' H' (g.ext.trans e' g.cell.at) c' r'
    | bad => rw [z] at p; exact p
    | er x s1 =>
      rw [z] at p
      dsimp only at p
      refine fun cls dd F' H' e' c' r' => ?_
      cases hc : (decide (x.cls = "TextError") && decide (i < ρ.length)) with
      | false => rw [hc] at p; exact p.elim
      | true =>
        rw [hc] at p
        obtain ⟨hc1, hc2⟩ := Bool.and_eq_true_iff.mp hc
        have hc1 := of_decide_eq_true hc1
        have hc2 := of_decide_eq_true hc2
        obtain ⟨C', r1, r2, r3⟩ := r'
        rw [hc1] at r1
        have eC : C' = C := by
          have := r1.symm.trans T.gC
          cases this; rfl
        subst eC
        subst r2
        show ∃ b, PySem.W.exmOne Γ.K (.ref C') (.ref C') = some b ∧ _
        refine ⟨true, T.te, fun _ a ha => ?_, fun q => by cases q⟩
        dsimp only [cond_true] at p
        cases f1 : x.fs.lookup ("place" : Str) with
        | none => rw [f1] at p; exact p.elim
        | some d1 =>
          cases f2 : x.fs.lookup ("word" : Str) with
          | none => rw [f1, f2] at p; exact p.elim
          | some d2 =>
            rw [f1, f2] at p
            dsimp only at p
            rcases r3 with ⟨q, _⟩ | ⟨d, fs, q1, q2, q3⟩
            · rw [q] at f1; cases f1
            · obtain ⟨v1, w1, u1⟩ := q3 _ _ f1
              obtain ⟨v2, w2, u2⟩ := q3 _ _ f2
              have hs : (σ.set i (some (V.ref a)))[i]? = some (some (.ref a)) := by rw [List.getElem?_set_self (by rw [g.len]; exact hc2)]
              show tLst _ (σ.set i (some (.ref a))) H' _
              refine ⟨_, hs, rfl, rfl, d, fs, v1, q1, q2, w1, _, hs, rfl, rfl, d, fs, v2, q1, q2, w2, ?_⟩
              refine ⟨by show 2 ≤ sizeLine; decide, fun q hq => ?_⟩
              have ex : Ext c F' H' (upd F' q (.lst [v1, v2])) (upd H' q (.lst [v1, v2])) := Ext.made e'.fh hq
              exact p _ _ _ ((g.ext.trans e' g.cell.at).trans ex c'.at) (c'.keep (Ext.made e'.fh hq)) (.lst upd_same (.cons (u1.mono ex.ff) (.cons (u2.mono ex.ff) .nil)))
end
end M
set_option maxRecDepth 100000
set_option maxHeartbeats 4000000
/-! The mirror layer, part 7: the draws, defs that draw, the law. -/
namespace M
open PySem L2
/-! ### defs that draw: the state is their first parameter -/
abbrev Fg := List D → DS → Res D
def spS (K : PySem.W.Frag) (mg : Str → Option Value) (n : Nat) (f : Fg) : Sp := fun vs H Q E => ∃ F p ws ds s, vs = .ref p :: ws ∧ Ex F H ∧ RpA K F ws ds ∧ ds.length = n ∧ Cell K (some p) s F H ∧ (match f ds s with
  | .ok d s' => ∀ v F' H', Ext (some p) F H F' H' → Cell K (some p) s' F' H' → Rp K F' v d → Q v H'
  | .er e s' => ∀ cls dd F' H', Ext (some p) F H F' H' → Cell K (some p) s' F' H' → Raised K mg F' H' e cls dd → E cls dd H'
  | .bad => False)
structure FnS (B : Gb) (x : Str) (k n : Nat) (f : Fg) : Prop where
  ex : ∃ fa fd ps, B.mg x = some (.ref fa) ∧ PySem.W.keepIn B.K (.ref fa) = true ∧ Binds B.K fd ps [] ∧ FnOk B.P B.w B.K B.mg B.base (L2.CX B.P B.w) k fa fd ps (spS B.K B.mg n f)
section
variable {Γ : Ga} {lo own own' own₁ : List Nat} {e a b : Expr} {es : List Expr} {m ma mb : Mr D} {pos p1 p2 : Pos}
def mCallS (f : Fg) (r : Mr (List D)) : Mr D := fun ρ s => (r ρ s).bind f
theorem ME.callS (i : Nat) {x y : Str} {k n : Nat} {f : Fg} {r : Mr (List D)} {p q : Pos} (h : FnS Γ.toGb x k n f) (hk : k ≤ Γ.k) (hg : GlS Γ.sc x) (hst : Γ.st = some i) (hN : Γ.N[i]? = some y) (hv : Vis Γ.sc y) (hd' : (y == ("__debug__" : Str)) = false) (hcd : (y == ("__classdict__" : Str)) = false)
    (hn : ∀ ρ s ds s', r ρ s = .ok ds s' → ds.length = n) (hd : (x == ("__debug__" : Str)) = false) (ha : MA Γ own es r)
    (he : ∀ env, starEach (.Name y q :: es) env = (false, eval (.Name y q) env) :: starEach es env) (hpl : ∀ env, (backTo pos (starEach es env)).any (·.1) = false) : ME Γ own (.Call (.Name x p) (.Name y q :: es) [] pos) (mCallS f r) := by
  obtain ⟨fa, fd, ps, m1, m2, m3, m4⟩ := h.ex
  obtain ⟨t, h1, h2⟩ := ha
  refine ⟨tCallSD (spS Γ.K Γ.mg n f) [] (fun σ cls d H => Γ.W cls d σ H) (tCons (tVar i) t), fun X hX => ?_, fun c F0 H0 F H σ ρ s Q g pp => ?_⟩
  · have m4' : FnOk X.prog X.w X.K X.mg X.base (L2.CX X.prog X.w) k fa fd ps (spS Γ.K Γ.mg n f) := by
      rw [hX.prog, hX.w, hX.K, hX.mg, hX.base]; exact m4
    exact pe_callSD m4' (hX.room.mono hk) (hg.gl hX) (by rw [hX.mg]; exact m1) (by rw [hX.K]; exact m2) (by rw [hX.K]; exact m3) .nil (fun σ => passAt' hX.tk σ) (pa_cons (pe_var (by rw [hX.N]; exact hN) (by rw [hX.sc]; exact hv) hd' hcd) (h1 X hX) (he _)) hd (he _) (hpl _)
  · obtain ⟨c1, hc, hs⟩ := g.hdl i hst
    subst hc
    refine ⟨_, hs, ?_⟩
    have p' : Post Γ (some c1) F H σ (fun F' _ v d => Rp Γ.K F' v d) ((r ρ s).bind fun ds s => if ds.length = n then f ds s else .bad) Q := by
      unfold mCallS Res.bind at pp
      unfold Res.bind
      cases z : r ρ s with
      | ok ds s1 =>
        rw [z] at pp
        dsimp only at pp ⊢
        rw [if_pos (hn ρ s ds s1 z)]
        exact pp
      | er x s1 => rw [z] at pp; exact pp
      | bad => rw [z] at pp; exact pp
    refine h2 (some c1) F0 H0 F H σ ρ s _ g (Post.step p' fun ds s1 vs F1 H1 e1 k1 r' q1 => ?_)
    by_cases hl : ds.length = n
    · rw [if_pos hl] at q1
      rw [List.append_nil]
      refine ⟨F1, c1, vs, ds, s1, rfl, e1.fh, r', hl, k1, ?_⟩
      cases z : f ds s1 with
      | ok d s2 => rw [z] at q1; exact q1
      | er x s2 => rw [z] at q1; exact q1
      | bad => rw [z] at q1; exact q1
    · rw [if_neg hl] at q1; exact q1.elim
def mDefS (n : Nat) (m : Ms) : Fg := fun ds s => match m (none :: (ds.map some ++ List.replicate (n - 1 - ds.length) none)) s with
  | .rt d s => .ok d s
  | .nx _ s => .ok .none s
  | .er e s => .er e s
  | _ => .bad
def gaS (B : Gb) (N : List Str) (sc : Scope) (k : Nat) (E : XK) : Ga := { toGb := B, N := N, sc := sc, k := k, W := fun cls d _ H => E cls d H, st := some 0, fc := fun _ => true }
theorem FnS.of {B : Gb} {x qual : Str} {st : Stmt} {f : Addr} {fd : FuncData} {N ps : List Str} {k n : Nat} {ms : Ms} {own' : List Nat} (F : Fun B.K x qual st f fd) (hm : B.mg x = some (.ref f)) (S : FnScope N ps (defScope st)) (hn : ps.length = n + 1)
    (hb : Binds B.K fd ps []) (h : ∀ E : XK, MSs (gaS B N (defScope st) k E) [] [] own' (defBody st) ms) : FnS B x (k + 1) n (mDefS N.length ms) := by
  refine ⟨f, fd, ps, hm, F.kp, hb, F.okX S (fun vs H Q E h => ?_) (fun cdv A outer s H vs Q E hr hsp => ?_)⟩
  · obtain ⟨_, _, ws, ds, _, h1, _, h2, h3, _⟩ := h
    rw [h1, List.length_cons, h2.length, h3, hn]
  · obtain ⟨t, h1, h2⟩ := h E
    obtain ⟨Fz, p, ws, ds, s0, f0, f1, f2, f3, f5, f4⟩ := hsp
    subst f0
    refine ⟨t, h1 _ { prog := rfl, w := rfl, K := rfl, mg := rfl, base := rfl, N := rfl, sc := rfl, nd := S.nd, calm := rfl, fn := fun _ _ => rfl, room := hr, tk := takes_of rfl rfl rfl rfl, stk := rfl, fr := rfl, own := passes_of rfl }, ?_⟩
    have hst : L2.start N (V.ref p :: ws) = some (V.ref p) :: (ws.map some ++ List.replicate (N.length - 1 - ws.length) none) := by
      unfold L2.start
      rw [List.map_cons, List.cons_append, List.length_cons]
      have : N.length - (ws.length + 1) = N.length - 1 - ws.length := by omega
      rw [this]
    rw [hst]
    refine h2 (some p) Fz H Fz H _ (none :: (ds.map some ++ List.replicate (N.length - 1 - ds.length) none)) s0 _ ⟨Ext.refl f1, f5, by simp [f2.length], fun i d hd _ => ?_, fun i d hd n => by simp at n, fun i j d e p h => by simp at h, fun i h => ?_⟩ ?_
    · cases i with
      | zero => cases hd
      | succ i =>
        rw [f2.length]
        exact start_get f2 _ hd
    · cases h
      exact ⟨p, rfl, rfl⟩
    · unfold mDefS at f4
      cases z : ms (none :: (ds.map some ++ List.replicate (N.length - 1 - ds.length) none)) s0 with
      | rt d s => rw [z] at f4; exact fun v F' H' e c r => f4 v F' H' e c r
      | nx ρ s => rw [z] at f4; exact fun σ' F' H' e g => f4 .non F' H' g.ext g.cell .non
      | er e s => rw [z] at f4; exact fun cls dd σ' F' H' e c r => f4 cls dd F' H' e c r
      | bk ρ s => rw [z] at f4; exact f4.elim
      | ct ρ s => rw [z] at f4; exact f4.elim
      | bad => rw [z] at f4; exact f4.elim
end
/-! ### _law_draw -/
def draw2 (l : Int) (s : DS) : Res D :=
  bif s.big then .ok (.int (s.cur.fmod l)) { s with cur := s.cur.fdiv l, left := bif s.cur.fdiv l == 0 then 0 else s.left - 1 }
  else .ok (.int (((((s.cur * 48271 + (s.left - 1) * 69621 + 7).fmod 2147483647) * ((s.cur * 48271 + (s.left - 1) * 69621 + 7).fmod 2147483647) + s.cur * 31 + (s.left - 1)).fmod 1000003).fmod l)) { s with left := s.left - 1 }
def draw1 (l : Int) (s : DS) (x : Int) : Res D := draw2 l { s with pos := s.pos + 1, cur := if x < 0 then -1 - x else x, big := decide (10 ^ 18 ≤ (if x < 0 then -1 - x else x)), left := if 10 ^ 18 ≤ (if x < 0 then -1 - x else x) then 60 else 6 }
def draw (ds : List D) (s : DS) : Res D := match ds with
  | [.int l] => bif decide (0 < l ∧ l < 1073741824) then
      (if s.left = 0 then (if (s.cells.length : Int) ≤ s.pos then .ok (.int 0) s else match atI s.cells s.pos with
        | some x => draw1 l s x
        | none => .bad) else draw2 l s) else .bad
  | _ => .bad
section
variable (K : PySem.W.Frag)
abbrev xSt (k : Int) : TE := tOp (rIxL K) (tVar 0) (tC (.int k))
abbrev aSt (te : TE) (k : Int) : TS := tAsg te (gSub (tVar 0) (tC (.int k)) rSetL)
abbrev rLenS : List V → Hp → VK → Prop := fun xs H Q => ∃ p ys, xs = [.ref p] ∧ (SqL K H p ys ∨ SqT K H p ys) ∧ Q (.int ys.length) H
abbrev rIntB : List V → Hp → VK → Prop := fun xs H Q => (∃ i, xs = [.int i] ∧ Q (.int i) H) ∨ ∃ k, xs = [.bl k] ∧ Q (.int (if k then 1 else 0)) H
abbrev tIn (t : TE) : TE := tCB rIntB (tCons t tNil)
abbrev tInt2 (g : Int → Int → Int) (a b : TE) : TE := tOp (rI0 fun i j => .int (g i j)) a b
abbrev tMulI (a b : TE) : TE := tOp (rI CMul fun i j => .int (i * j)) a b
abbrev tModI (a b : TE) : TE := tOp (rI (fun _ j => j ≠ 0) fun i j => .int (i.fmod j)) a b
abbrev tGeI (a b : TE) : TE := tOp (rI0 fun i j => .bl (decide (j ≤ i))) a b
abbrev tLtI (a b : TE) : TE := tOp (rI0 fun i j => .bl (decide (i < j))) a b
abbrev tTru (K : PySem.W.Frag) (t : TE) : TT := fun σ H Q => t σ H fun x H1 => ∃ k, TruV K x H1 k ∧ Q k H1
abbrev tDraw2 : TS := (tSeq (aSt (tInt2 (fun i j => i - j) (xSt K 3) (tC (.int 1))) 3)
      (tSeq (tIfS (tTru K (xSt K 4))
        (tSeq (tAsg (tModI (tIn (xSt K 2)) (tVar 1)) (gName 3))
        (tSeq (aSt (tOp (rI CDivN fun i j => .int (i.fdiv j)) (xSt K 2) (tVar 1)) 2)
        (tSeq (tIfS (tTest (tOp rEq (xSt K 2) (tC (.int 0)))) (aSt (tC (.int 0)) 3) tNext)
        (tRet (tVar 3))))) tNext)
      (tSeq (tAsg (tModI (tIn (tInt2 (fun i j => i + j) (tInt2 (fun i j => i + j) (tMulI (xSt K 2) (tC (.int 48271))) (tMulI (xSt K 3) (tC (.int 69621)))) (tC (.int 7)))) (tC (.int 2147483647))) (gName 4))
      (tSeq (tAsg (tModI (tIn (tInt2 (fun i j => i + j) (tInt2 (fun i j => i + j) (tMulI (tVar 4) (tVar 4)) (tMulI (xSt K 2) (tC (.int 31)))) (xSt K 3))) (tC (.int 1000003))) (gName 4))
      (tRet (tModI (tIn (tVar 4)) (tVar 1)))))))
def tDraw : TS :=
  tSeq (tIfS (tTest (tOp rEq (xSt K 3) (tC (.int 0))))
    (tSeq (tIfS (tTest (tGeI (xSt K 1) (tCB (rLenS K) (tCons (xSt K 0) tNil)))) (tRet (tC (.int 0))) tNext)
    (tSeq (tAsg (tOp (rIxL K) (xSt K 0) (xSt K 1)) (gName 2))
    (tSeq (tIfS (tTest (tLtI (tVar 2) (tC (.int 0)))) (tAsg (tInt2 (fun i j => i - j) (tUn (rU fun i => .int (-i)) (tC (.int 1))) (tVar 2)) (gName 2)) tNext)
    (tSeq (aSt (tInt2 (fun i j => i + j) (xSt K 1) (tC (.int 1))) 1)
    (tSeq (aSt (tVar 2) 2)
    (tSeq (aSt (tGeI (tVar 2) (tOp (rI CPow fun i j => .int (i ^ j.toNat)) (tC (.int 10)) (tC (.int 18)))) 4)
    (tSeq (aSt (tC (.int 6)) 3)
    (tIfS (tTru K (xSt K 4)) (aSt (tC (.int 60)) 3) tNext)))))))) tNext)
  (tSeq (aSt (tInt2 (fun i j => i - j) (xSt K 3) (tC (.int 1))) 3)
  (tSeq (tIfS (tTru K (xSt K 4))
    (tSeq (tAsg (tModI (tIn (xSt K 2)) (tVar 1)) (gName 3))
    (tSeq (aSt (tOp (rI CDivN fun i j => .int (i.fdiv j)) (xSt K 2) (tVar 1)) 2)
    (tSeq (tIfS (tTest (tOp rEq (xSt K 2) (tC (.int 0)))) (aSt (tC (.int 0)) 3) tNext)
    (tRet (tVar 3))))) tNext)
  (tSeq (tAsg (tModI (tIn (tInt2 (fun i j => i + j) (tInt2 (fun i j => i + j) (tMulI (xSt K 2) (tC (.int 48271))) (tMulI (xSt K 3) (tC (.int 69621)))) (tC (.int 7)))) (tC (.int 2147483647))) (gName 4))
  (tSeq (tAsg (tModI (tIn (tInt2 (fun i j => i + j) (tInt2 (fun i j => i + j) (tMulI (tVar 4) (tVar 4)) (tMulI (xSt K 2) (tC (.int 31)))) (xSt K 3))) (tC (.int 1000003))) (gName 4))
  (tRet (tModI (tIn (tVar 4)) (tVar 1)))))))
end
/-- the state's list -/
abbrev stL (v : V) (s : DS) : List V := [v, .int s.pos, .int s.cur, .int s.left, .bl s.big, .int 500]
theorem at0 (v : V) (s : DS) : atI (stL v s) 0 = some v := rfl
theorem at1 (v : V) (s : DS) : atI (stL v s) 1 = some (.int s.pos) := rfl
theorem at2 (v : V) (s : DS) : atI (stL v s) 2 = some (.int s.cur) := rfl
theorem at3 (v : V) (s : DS) : atI (stL v s) 3 = some (.int s.left) := rfl
theorem at4 (v : V) (s : DS) : atI (stL v s) 4 = some (.bl s.big) := rfl
theorem fm_nn (x : Int) : 0 ≤ x.fmod 2147483647 ∧ x.fmod 2147483647 < 2147483647 := by
  rw [Int.fmod_eq_emod_of_nonneg x (by decide)]
  exact ⟨Int.emod_nonneg _ (by decide), Int.emod_lt_of_pos _ (by decide)⟩
section
variable {K : PySem.W.Frag} {p : Addr} {v : V} {s : DS}
theorem x_at {H : Hp} {σ : L2.St} {Q : VK} {k : Int} {w : V} (h0 : σ[0]? = some (some (.ref p))) (hp : H p = some (.lst (stL v s))) (ha : atI (stL v s) k = some w) (q : Q w H) : xSt K k σ H Q :=
  ⟨_, h0, p, _, k, w, rfl, rfl, SqL.of hp, ha, q⟩
/-- the second half: one number is drawn of the cell at hand -/
theorem draw2_rd {H : Hp} {E : Ends} {l : Int} {w2 : Option V} (hl : 0 < l ∧ l < 1073741824) (hp : H p = some (.lst (stL v s)))
    (h : ∀ d s', draw2 l s = .ok (.int d) s' → E.rt (.int d) (upd H p (.lst (stL v s')))) :
    tDraw2 K E [some (.ref p), some (.int l), w2, none, none] H := by
  have hl0 : l ≠ 0 := by omega
  obtain ⟨cells, pos, cur, left, big⟩ := s
  -- state[3] = state[3] - 1
  refine ⟨_, rfl, p, _, 3, _, rfl, rfl, SqL.of hp, at3 v ⟨cells, pos, cur, left, big⟩, _, _, rfl, rfl, _, rfl, p, _, 3, 3, rfl, rfl, hp, rfl, ?_⟩
  have hp1 : (upd H p (.lst (stL v ⟨cells, pos, cur, left - 1, big⟩))) p = some (.lst (stL v ⟨cells, pos, cur, left - 1, big⟩)) := upd_same
  refine ⟨_, rfl, p, _, 4, _, rfl, rfl, SqL.of hp1, at4 v ⟨cells, pos, cur, left - 1, big⟩, big, rfl, ?_⟩
  unfold draw2 at h
  cases big with
  | true =>
    refine iteT ?_
    refine ⟨_, rfl, p, _, 2, _, rfl, rfl, SqL.of hp1, at2 v ⟨cells, pos, cur, left - 1, true⟩, .inl ⟨_, rfl, _, rfl, _, _, rfl, rfl, hl0, ?_⟩⟩
    refine ⟨_, rfl, p, _, 2, _, rfl, rfl, SqL.of hp1, at2 v ⟨cells, pos, cur, left - 1, true⟩, _, rfl, _, _, rfl, rfl, ⟨hl0, by omega⟩, _, rfl, p, _, 2, 2, rfl, rfl, hp1, rfl, ?_⟩
    rw [upd_upd]
    have hp2 : (upd H p (.lst (stL v ⟨cells, pos, cur.fdiv l, left - 1, true⟩))) p = some (.lst (stL v ⟨cells, pos, cur.fdiv l, left - 1, true⟩)) := upd_same
    refine ⟨_, rfl, p, _, 2, _, rfl, rfl, SqL.of hp2, at2 v ⟨cells, pos, cur.fdiv l, left - 1, true⟩, rfl, _, rfl, ?_⟩
    rw [dec_int]
    show if (cur.fdiv l == 0) = true then _ else _
    cases hz : (cur.fdiv l == 0) with
    | true =>
      rw [hz] at h
      refine iteT ?_
      refine ⟨_, rfl, p, _, 3, 3, rfl, rfl, hp2, rfl, ?_⟩
      refine ⟨_, rfl, ?_⟩
      rw [upd_upd]
      exact h _ _ rfl
    | false =>
      rw [hz] at h
      refine iteF ?_
      refine ⟨_, rfl, ?_⟩
      exact h _ _ rfl
  | false =>
    refine iteF ?_
    refine ⟨_, rfl, p, _, 2, _, rfl, rfl, SqL.of hp1, at2 v ⟨cells, pos, cur, left - 1, false⟩, _, _, rfl, rfl, .inr ⟨by decide, by decide⟩, ?_⟩
    refine ⟨_, rfl, p, _, 3, _, rfl, rfl, SqL.of hp1, at3 v ⟨cells, pos, cur, left - 1, false⟩, _, _, rfl, rfl, .inr ⟨by decide, by decide⟩, ?_⟩
    refine ⟨_, _, rfl, rfl, _, _, rfl, rfl, .inl ⟨_, rfl, _, _, rfl, rfl, (show (2147483647 : Int) ≠ 0 by decide), ?_⟩⟩
    have hm := fm_nn (cur * 48271 + (left - 1) * 69621 + 7)
    refine ⟨_, rfl, _, rfl, _, _, rfl, rfl, .inl ⟨Int.lt_of_lt_of_le (by decide) hm.1, Int.lt_trans hm.2 (by decide)⟩, ?_⟩
    refine ⟨_, rfl, p, _, 2, _, rfl, rfl, SqL.of hp1, at2 v ⟨cells, pos, cur, left - 1, false⟩, _, _, rfl, rfl, .inr ⟨by decide, by decide⟩, ?_⟩
    refine ⟨_, _, rfl, rfl, _, rfl, p, _, 3, _, rfl, rfl, SqL.of hp1, at3 v ⟨cells, pos, cur, left - 1, false⟩, _, _, rfl, rfl, .inl ⟨_, rfl, _, _, rfl, rfl, (show (1000003 : Int) ≠ 0 by decide), ?_⟩⟩
    refine ⟨_, rfl, .inl ⟨_, rfl, _, rfl, _, _, rfl, rfl, hl0, ?_⟩⟩
    exact h _ _ rfl
theorem iteC {k : Bool} {A B : Prop} (h : k = true) (a : A) : if k = true then A else B := by rw [if_pos h]; exact a
theorem iteN {k : Bool} {A B : Prop} (h : k = false) (a : B) : if k = true then A else B := by rw [h, if_neg Bool.false_ne_true]; exact a
theorem pow18 : (10 : Int) ^ ((18 : Int)).toNat = 10 ^ 18 := rfl
theorem draw_rd {F H : Hp} {E : Ends} {l : Int} {d : D} {s' : DS} (hF : Ex F H) (fp : F p = none) (hv : Rp K F v (.list (s.cells.map PyData.int))) (hp : H p = some (.lst (stL v s))) (hd : draw [.int l] s = .ok d s')
    (h : ∀ i, d = .int i → E.rt (.int i) (upd H p (.lst (stL v s')))) : tDraw K E [some (.ref p), some (.int l), none, none, none] H := by
  obtain ⟨a, xs, ev, hxs, hr⟩ := hv.list_inv
  have hlen : xs.length = s.cells.length := by rw [hr.length, List.length_map]
  have hxs' : xs = s.cells.map V.int := RpA.ints hr
  have npa : p ≠ a := fun z => by rw [z, hxs] at fp; cases fp
  unfold draw at hd
  dsimp only at hd
  cases hl : decide (0 < l ∧ l < 1073741824) with
  | false => rw [hl] at hd; cases hd
  | true =>
    rw [hl, cond_true] at hd
    have hl := of_decide_eq_true hl
    -- state[3] == 0
    refine ⟨_, rfl, p, _, 3, _, rfl, rfl, SqL.of hp, at3 v s, rfl, _, rfl, ?_⟩
    rw [dec_int]
    show if (s.left == 0) = true then _ else _
    cases hz : (s.left == 0) with
    | false =>
      refine iteF ?_
      rw [if_neg (by simpa using hz)] at hd
      refine draw2_rd hl hp fun d' s2 e => ?_
      rw [e] at hd
      cases hd
      exact h _ rfl
    | true =>
      refine iteT ?_
      rw [if_pos (by simpa using hz)] at hd
      -- state[1] >= len(state[0])
      refine ⟨_, rfl, p, _, 1, _, rfl, rfl, SqL.of hp, at1 v s, _, rfl, p, _, 0, _, rfl, rfl, SqL.of hp, at0 v s, a, xs, by rw [ev], .inl (SqL.of (hF a _ hxs)), _, _, rfl, rfl, _, rfl, ?_⟩
      rw [hlen]
      by_cases hc : (s.cells.length : Int) ≤ s.pos
      · rw [if_pos hc] at hd
        rw [decide_eq_true hc]
        refine iteT ?_
        cases hd
        have e : upd H p (.lst (stL v s)) = H := by
          funext b
          by_cases hb : b = p
          · rw [hb, upd_same, hp]
          · rw [upd_ne hb]
        have := h 0 rfl
        rw [e] at this
        exact this
      · rw [if_neg hc] at hd
        rw [decide_eq_false hc]
        refine iteF ?_
        cases hx : atI s.cells s.pos with
        | none => rw [hx] at hd; cases hd
        | some x =>
          rw [hx] at hd
          dsimp only at hd
          have hx' : atI xs s.pos = some (.int x) := by
            rw [hxs']
            unfold atI at hx ⊢
            rw [List.length_map]
            cases q : ixN s.cells.length s.pos with
            | none => rw [q] at hx; cases hx
            | some j =>
              rw [q] at hx
              show (s.cells.map V.int)[j]? = _
              rw [List.getElem?_map]
              have : s.cells[j]? = some x := hx
              rw [this]; rfl
          -- cell = state[0][state[1]]
          refine ⟨_, rfl, p, _, 0, _, rfl, rfl, SqL.of hp, at0 v s, _, rfl, p, _, 1, _, rfl, rfl, SqL.of hp, at1 v s, a, xs, s.pos, _, ev, rfl, SqL.of (hF a _ hxs), hx', ?_⟩
          -- if cell < 0
          have fin : ∀ (y : Int), y = (if x < 0 then -1 - x else x) → (tSeq (aSt (tInt2 (fun i j => i + j) (xSt K 1) (tC (.int 1))) 1)
              (tSeq (aSt (tVar 2) 2)
              (tSeq (aSt (tGeI (tVar 2) (tOp (rI CPow fun i j => .int (i ^ j.toNat)) (tC (.int 10)) (tC (.int 18)))) 4)
              (tSeq (aSt (tC (.int 6)) 3)
              (tIfS (tTru K (xSt K 4)) (aSt (tC (.int 60)) 3) tNext))))) { E with nx := tDraw2 K E } [some (.ref p), some (.int l), some (.int y), none, none] H := fun y ey => by
            -- state[1] = state[1] + 1; state[2] = cell; state[4] = ..; state[3] = 6
            refine ⟨_, rfl, p, _, 1, _, rfl, rfl, SqL.of hp, at1 v s, _, _, rfl, rfl, _, rfl, p, _, 1, 1, rfl, rfl, hp, rfl, ?_⟩
            refine ⟨_, rfl, _, rfl, p, _, 2, 2, rfl, rfl, upd_same, rfl, ?_⟩
            rw [upd_upd]
            refine ⟨_, rfl, _, _, rfl, rfl, ⟨by decide, by decide, by decide⟩, _, _, rfl, rfl, _, rfl, p, _, 4, 4, rfl, rfl, upd_same, rfl, ?_⟩
            rw [upd_upd]
            refine ⟨_, rfl, p, _, 3, 3, rfl, rfl, upd_same, rfl, ?_⟩
            rw [upd_upd]
            have hp1 : (upd H p (.lst (stL v { s with pos := s.pos + 1, cur := y, big := decide (10 ^ 18 ≤ y), left := 6 }))) p = some (.lst (stL v { s with pos := s.pos + 1, cur := y, big := decide (10 ^ 18 ≤ y), left := 6 })) := upd_same
            refine ⟨_, rfl, p, _, 4, _, rfl, rfl, SqL.of hp1, at4 v _, _, rfl, ?_⟩
            have hd' : draw2 l { s with pos := s.pos + 1, cur := y, big := decide (10 ^ 18 ≤ y), left := if 10 ^ 18 ≤ y then 60 else 6 } = .ok d s' := by
              rw [ey]; exact hd
            by_cases hy : (10 : Int) ^ 18 ≤ y
            · rw [if_pos hy] at hd'
              refine iteC (decide_eq_true hy) ?_
              refine ⟨_, rfl, p, _, 3, 3, rfl, rfl, hp1, rfl, ?_⟩
              rw [upd_upd]
              refine draw2_rd (s := { s with pos := s.pos + 1, cur := y, big := decide (10 ^ 18 ≤ y), left := 60 }) hl upd_same fun d' s2 e => ?_
              rw [upd_upd]
              rw [e] at hd'
              cases hd'
              exact h _ rfl
            · rw [if_neg hy] at hd'
              refine iteN (decide_eq_false hy) ?_
              refine draw2_rd (s := { s with pos := s.pos + 1, cur := y, big := decide (10 ^ 18 ≤ y), left := 6 }) hl upd_same fun d' s2 e => ?_
              rw [upd_upd]
              rw [e] at hd'
              cases hd'
              exact h _ rfl
          refine ⟨_, rfl, _, _, rfl, rfl, _, rfl, ?_⟩
          by_cases hn : x < 0
          · rw [decide_eq_true hn]
            refine iteT ?_
            refine ⟨1, rfl, _, rfl, _, _, rfl, rfl, ?_⟩
            exact fin _ (by rw [if_pos hn])
          · rw [decide_eq_false hn]
            refine iteF ?_
            exact fin _ (by rw [if_neg hn])
end
/-- what a draw gives -/
theorem draw2_ok (l : Int) (hl : 0 < l) (s : DS) : ∃ i s', draw2 l s = .ok (.int i) s' ∧ 0 ≤ i ∧ i < l ∧ s'.pos = s.pos := by
  have key : ∀ x : Int, 0 ≤ x.fmod l ∧ x.fmod l < l := fun x => by
    rw [Int.fmod_eq_emod_of_nonneg x (Int.le_of_lt hl)]
    exact ⟨Int.emod_nonneg _ (by omega), Int.emod_lt_of_pos _ hl⟩
  unfold draw2
  cases s.big with
  | true => exact ⟨_, _, rfl, (key _).1, (key _).2, rfl⟩
  | false => exact ⟨_, _, rfl, (key _).1, (key _).2, rfl⟩
theorem draw_ok (l : Int) (hl : 0 < l) (h2 : l < 1073741824) (s : DS) (hs : 0 ≤ s.pos) : ∃ i s', draw [.int l] s = .ok (.int i) s' ∧ 0 ≤ i ∧ i < l ∧ 0 ≤ s'.pos := by
  unfold draw
  dsimp only
  rw [decide_eq_true ⟨hl, h2⟩, cond_true]
  by_cases h0 : s.left = 0
  · rw [if_pos h0]
    by_cases hc : (s.cells.length : Int) ≤ s.pos
    · rw [if_pos hc]
      exact ⟨0, s, rfl, by omega, hl, hs⟩
    · rw [if_neg hc]
      have hx : ∃ x, atI s.cells s.pos = some x := by
        obtain ⟨k, hk⟩ := Int.eq_ofNat_of_zero_le hs
        have hk2 : k < s.cells.length := by omega
        refine ⟨s.cells[k], ?_⟩
        rw [hk]
        exact atI_nat (by simp [hk2])
      obtain ⟨x, hx⟩ := hx
      rw [hx]
      dsimp only
      obtain ⟨i, s', h1, h2, h3, h4⟩ := draw2_ok l hl ⟨s.cells, s.pos + 1, (if x < 0 then -1 - x else x), (if 10 ^ 18 ≤ (if x < 0 then -1 - x else x) then 60 else 6), decide (10 ^ 18 ≤ (if x < 0 then -1 - x else x))⟩
      exact ⟨i, s', h1, h2, h3, by rw [h4]; show 0 ≤ s.pos + 1; omega⟩
  · rw [if_neg h0]
    obtain ⟨i, s', h1, h2, h3, h4⟩ := draw2_ok l hl s
    exact ⟨i, s', h1, h2, h3, by rw [h4]; exact hs⟩
end M
set_option maxRecDepth 100000
set_option maxHeartbeats 4000000
/-! The mirror layer, part 8: _law_draw, _law_state and law as defs. -/
namespace M
open PySem L2
theorem draw_noer (ds : List D) (s : DS) : (∃ i s', draw ds s = .ok (.int i) s' ∧ ∃ l, ds = [.int l]) ∨ draw ds s = .bad := by
  unfold draw
  split
  · rename_i l
    cases decide (0 < l ∧ l < 1073741824) with
    | false => right; rfl
    | true =>
      rw [cond_true]
      have k2 : ∀ s, ∃ i s', draw2 l s = .ok (.int i) s' := fun s => by
        unfold draw2
        cases s.big with
        | true => exact ⟨_, _, rfl⟩
        | false => exact ⟨_, _, rfl⟩
      split
      · split
        · left; exact ⟨_, _, rfl, l, rfl⟩
        · split
          · obtain ⟨i, s', h⟩ := k2 ⟨s.cells, s.pos + 1, _, _, _⟩
            left; exact ⟨i, s', h, l, rfl⟩
          · right; rfl
      · obtain ⟨i, s', h⟩ := k2 s
        left; exact ⟨i, s', h, l, rfl⟩
  · right; rfl
theorem FnS.ofDraw {B : Gb} {st : Stmt} {f : Addr} {fd : FuncData} (F : Fun B.K "_law_draw" "_law_draw" st f fd) (hm : B.mg "_law_draw" = some (.ref f)) (S : FnScope ["state", "limit", "cell", "digit", "mixed"] ["state", "limit"] (defScope st)) (hb : Binds B.K fd ["state", "limit"] [])
    (h : ∀ E : XK, ∀ X, Fs (gaS B ["state", "limit", "cell", "digit", "mixed"] (defScope st) 0 E) X → PSs X (defBody st) (tDraw B.K)) : FnS B "_law_draw" 1 1 draw := by
  refine ⟨f, fd, ["state", "limit"], hm, F.kp, hb, F.okX S (fun vs H Q E h => ?_) (fun cdv A outer s H vs Q E hr hsp => ?_)⟩
  · obtain ⟨_, _, ws, ds, _, h1, _, h2, h3, _⟩ := h
    rw [h1, List.length_cons, h2.length, h3]; rfl
  · obtain ⟨Fz, p, ws, ds, s0, f0, f1, f2, f3, f5, f4⟩ := hsp
    subst f0
    refine ⟨tDraw B.K, h E _ { prog := rfl, w := rfl, K := rfl, mg := rfl, base := rfl, N := rfl, sc := rfl, nd := S.nd, calm := rfl, fn := fun _ _ => rfl, room := hr, tk := takes_of rfl rfl rfl rfl, stk := rfl, fr := rfl, own := passes_of rfl }, ?_⟩
    rcases draw_noer ds s0 with ⟨i, s', e, l, el⟩ | e
    · rw [e] at f4
      subst el
      cases f2 with
      | cons r1 r2 =>
        cases r2
        have := Rp.int_inv r1
        subst this
        obtain ⟨c1, v, c2, c3⟩ := f5
        refine draw_rd (d := .int i) f1 c1 c3 c2 e fun j ej => ?_
        cases ej
        have np : ∀ a o, Fz a = some o → a ≠ p := fun a o ha z => by rw [z, c1] at ha; cases ha
        refine f4 _ Fz _ ⟨Ex.refl Fz, fun a o ha => by rw [upd_ne (np a o ha)]; exact f1 a o ha, fun a o n ha => by
          have : a ≠ p := fun z => n (by rw [z])
          rw [upd_ne this]; exact ha, fun a n => .inl n⟩ ⟨c1, v, upd_same, ?_⟩ (.int _)
        have ec : s'.cells = s0.cells := by
          have k2 : ∀ s, ∀ d s', draw2 l s = .ok d s' → s'.cells = s.cells := fun s d s' h => by
            unfold draw2 at h
            cases hb : s.big with
            | true => rw [hb] at h; cases h; rfl
            | false => rw [hb] at h; cases h; rfl
          unfold draw at e
          dsimp only at e
          cases hl : decide (0 < l ∧ l < 1073741824) with
          | false => rw [hl] at e; cases e
          | true =>
            rw [hl, cond_true] at e
            split at e
            · split at e
              · cases e; rfl
              · split at e
                · exact (k2 ⟨s0.cells, s0.pos + 1, _, _, _⟩ _ _ e)
                · cases e
            · exact k2 _ _ _ e
        rw [ec]; exact c3
    · rw [e] at f4; exact f4.elim
/-! ### _law_state, law -/
def d0 (ns : List Int) : DS := ⟨ns, 0, 0, 0, false⟩
def spSt (K : PySem.W.Frag) : Sp := fun vs H Q _ => ∃ (a : Addr) (ns : List Int), vs = [.ref a] ∧ SqL K H a (ns.map V.int) ∧ ns.length ≤ 63 ∧ ∀ l p, H l = none → upd H l (.lst (ns.map V.int)) p = none → Q (.ref p) (upd (upd H l (.lst (ns.map V.int))) p (.lst (stL (.ref l) (d0 ns))))
abbrev rListQ (K : PySem.W.Frag) : List V → Hp → VK → Prop := fun xs H Q => ∃ p ys, xs = [.ref p] ∧ (SqL K H p ys ∨ SqT K H p ys) ∧ ∀ l, H l = none → Q (.ref l) (upd H l (.lst ys))
def tState (K : PySem.W.Frag) : TS := tRet (tLst (tCons (tCB (rListQ K) (tCons (tVar 0) tNil)) (tCons (tC (.int 0)) (tCons (tC (.int 0)) (tCons (tC (.int 0)) (tCons (tC (.bl false)) (tCons (tC (.int 500)) tNil)))))))
theorem fn_state {B : Gb} {st : Stmt} {f : Addr} {fd : FuncData} (F : Fun B.K "_law_state" "_law_state" st f fd) (S : FnScope ["script"] ["script"] (defScope st))
    (h : ∀ E : XK, ∀ X, Fs (gaOf B ["script"] (defScope st) 0 E) X → PSs X (defBody st) (tState B.K)) : FnOk B.P B.w B.K B.mg B.base (L2.CX B.P B.w) 1 f fd ["script"] (spSt B.K) := by
  refine F.okX S (fun vs H Q E h => ?_) (fun cdv A outer s H vs Q E hr hsp => ?_)
  · obtain ⟨a, ns, h1, _⟩ := h
    rw [h1]; rfl
  · obtain ⟨a, ns, rfl, hS, hl, hq⟩ := hsp
    refine ⟨tState B.K, h E _ { prog := rfl, w := rfl, K := rfl, mg := rfl, base := rfl, N := rfl, sc := rfl, nd := S.nd, calm := rfl, fn := fun _ _ => rfl, room := hr, tk := takes_of rfl rfl rfl rfl, stk := rfl, fr := rfl, own := passes_of rfl }, ?_⟩
    refine ⟨_, rfl, a, _, rfl, .inl hS, fun l hl => ?_⟩
    refine ⟨by show 6 ≤ sizeLine; decide, fun p hp => ?_⟩
    exact hq l p hl hp
def spLaw (K : PySem.W.Frag) : Sp := fun vs H Q _ => ∃ (a : Addr) (ns : List Int), vs = [.ref a] ∧ SqL K H a (ns.map V.int) ∧ ns.length ≤ 63 ∧ ∀ H', Q (.bl true) H'
def gaL (B : Gb) (N : List Str) (sc : Scope) (k : Nat) (E : XK) (i : Nat) : Ga := { toGb := B, N := N, sc := sc, k := k, W := fun cls d _ H => E cls d H, st := some i, fc := fun _ => true }
theorem ints_rp {K : PySem.W.Frag} {F : Hp} : ∀ ns : List Int, RpA K F (ns.map V.int) (ns.map PyData.int)
  | [] => .nil
  | n :: ns => .cons (.int n) (ints_rp ns)
theorem fn_law {B : Gb} {st s0 : Stmt} {rest : List Stmt} {f : Addr} {fd : FuncData} {N : List Str} {k i : Nat} {ms : Ms} {own' : List Nat} (F : Fun B.K "law" "law" st f fd) (S : FnScope N ["script"] (defScope st)) (hbody : defBody st = s0 :: rest) (hi : i < N.length) (hi0 : 0 < i)
    (h0 : ∀ E : XK, ∀ X, Fs (gaOf B N (defScope st) k E) X → PS X s0 (tAsg (tCall (spSt B.K) [] E0 (tCons (tVar 0) tNil)) (gName i)))
    (h : ∀ E : XK, MSs (gaL B N (defScope st) k E i) [] [] own' rest ms)
    (plain : ∀ ns : List Int, ns.length ≤ 63 → ∃ s', ms (List.replicate N.length none) (d0 ns) = .rt (.bool true) s') : FnOk B.P B.w B.K B.mg B.base (L2.CX B.P B.w) (k + 1) f fd ["script"] (spLaw B.K) := by
  refine F.okX S (fun vs H Q E h => ?_) (fun cdv A outer s H vs Q E hr hsp => ?_)
  · obtain ⟨a, ns, h1, _⟩ := h
    rw [h1]; rfl
  · obtain ⟨a, ns, rfl, hS, hl, hq⟩ := hsp
    obtain ⟨t, h1, h2⟩ := h E
    rw [hbody]
    have mkF : ∀ (sto : Option Nat), Fs { toGb := B, N := N, sc := defScope st, k := k, W := fun cls d _ H => E cls d H, st := sto, fc := fun _ => true } (cxOf (L2.CX B.P B.w) B.P B.w B.K B.mg B.base N "law" (defScope st) f cdv A outer s H E) := fun sto =>
      { prog := rfl, w := rfl, K := rfl, mg := rfl, base := rfl, N := rfl, sc := rfl, nd := S.nd, calm := rfl, fn := fun _ _ => rfl, room := hr, tk := takes_of rfl rfl rfl rfl, stk := rfl, fr := rfl, own := passes_of rfl }
    refine ⟨_, pss_cons (h0 E _ (mkF none)) (h1 _ (mkF (some i))), ?_⟩
    have hN : N.length - 1 + 1 = N.length := by omega
    have hst : L2.start N [V.ref a] = some (V.ref a) :: List.replicate (N.length - 1) none := rfl
    rw [hst]
    refine ⟨_, rfl, a, ns, rfl, hS, hl, fun l p hl' hp => ?_⟩
    have nlp : l ≠ p := fun z => by rw [z, upd_same] at hp; cases hp
    have hlp : (upd (upd H l (.lst (ns.map V.int))) p (.lst (stL (.ref l) (d0 ns)))) l = some (.lst (ns.map V.int)) := by rw [upd_ne nlp, upd_same]
    let F1 : Hp := fun b => if b = l then some (.lst (ns.map V.int)) else none
    have f1 : F1 l = some (.lst (ns.map V.int)) := if_pos rfl
    have f2 : F1 p = none := if_neg (Ne.symm nlp)
    obtain ⟨s', es⟩ := plain ns hl
    have hi2 : i < (some (V.ref a) :: List.replicate (N.length - 1) none).length := by simp; omega
    refine h2 (some p) F1 _ F1 _ _ (List.replicate N.length none) (d0 ns) _ ⟨Ext.refl (fun b o hb => ?_), ⟨f2, .ref l, upd_same, .lst f1 (ints_rp ns)⟩, by simp; omega, fun j d hj _ => ?_, fun j d hj n => by simp at n, fun j k d e q h => by simp at h, fun j hj => ?_⟩ ?_
    · by_cases hb' : b = l
      · subst hb'
        rw [f1] at hb; cases hb
        exact hlp
      · have : F1 b = none := if_neg hb'
        rw [this] at hb; cases hb
    · rw [List.getElem?_replicate] at hj
      split at hj <;> cases hj
    · cases hj
      exact ⟨p, rfl, List.getElem?_set_self hi2⟩
    · rw [es]
      intro v F' H' e c r
      rw [Rp.bool_inv r]
      exact hq H'
theorem cx_no {P : Program} {w : World} {H : Hp} {s : Shared} {e : Value} {s' : Shared} (h : L2.CX P w [] H s (fun _ _ _ => False) e s') : False := by
  obtain ⟨_, _, _, _, _, _, _, _, _, _, _, _, z⟩ := h
  exact z.elim
end M
set_option maxRecDepth 100000
set_option maxHeartbeats 4000000
/-! The mirror layer, part 9: list comprehensions. -/
namespace M
open PySem L2
def wipeR (ρ : Rho) : List Nat → Rho
  | [] => ρ
  | v :: vs => (wipeR ρ vs).set v none
theorem wipeR_length (ρ : Rho) : ∀ vs : List Nat, (wipeR ρ vs).length = ρ.length
  | [] => rfl
  | v :: vs => by unfold wipeR; rw [List.length_set, wipeR_length ρ vs]
theorem wipeR_get {ρ : Rho} {i : Nat} : ∀ {vs : List Nat}, i ∉ vs → (wipeR ρ vs)[i]? = ρ[i]?
  | [], _ => rfl
  | v :: vs, h => by
    unfold wipeR
    rw [List.getElem?_set_ne (fun z => h (by simp [z]))]
    exact wipeR_get fun z => h (List.mem_cons_of_mem _ z)
theorem wipe_get {σ : L2.St} {i : Nat} : ∀ {vs : List Nat}, i ∉ vs → (wipe σ vs)[i]? = σ[i]?
  | [], _ => rfl
  | v :: vs, h => by
    unfold wipe
    rw [List.getElem?_set_ne (fun z => h (by simp [z]))]
    exact wipe_get fun z => h (List.mem_cons_of_mem _ z)
theorem wipeR_some {ρ : Rho} {i : Nat} {d : D} : ∀ {vs : List Nat}, (wipeR ρ vs)[i]? = some (some d) → ρ[i]? = some (some d) ∧ i ∉ vs
  | [], h => ⟨h, by simp⟩
  | v :: vs, h => by
    unfold wipeR at h
    by_cases hi : v = i
    · subst hi
      by_cases hv : v < (wipeR ρ vs).length
      · rw [List.getElem?_set_self hv] at h; cases h
      · rw [List.getElem?_eq_none (by simpa using hv)] at h; cases h
    · rw [List.getElem?_set_ne hi] at h
      obtain ⟨h1, h2⟩ := wipeR_some h
      exact ⟨h1, by simp only [List.mem_cons, not_or]; exact ⟨fun e => hi e.symm, h2⟩⟩
theorem wipe_in {σ : L2.St} {i : Nat} : ∀ {vs : List Nat}, i ∈ vs → i < σ.length → (wipe σ vs)[i]? = some none
  | [], h, _ => by simp at h
  | v :: vs, h, hl => by
    unfold wipe
    by_cases hi : v = i
    · subst hi
      rw [List.getElem?_set_self (by rw [wipe_length]; exact hl)]
    · rw [List.getElem?_set_ne hi]
      exact wipe_in ((List.mem_cons.mp h).resolve_left fun z => hi z.symm) hl
theorem wipe_kept {σ σ' : L2.St} {vs ws : List Nat} (h : Kept ws (wipe σ vs) σ') (hs : ∀ j ∈ ws, j ∈ vs) : wipe σ' vs = wipe σ vs := by
  have hl : σ'.length = σ.length := by rw [h.1, wipe_length]
  refine List.ext_getElem? fun j => ?_
  by_cases hj : j ∈ vs
  · by_cases hjl : j < σ.length
    · rw [wipe_in hj hjl, wipe_in hj (by rw [hl]; exact hjl)]
    · rw [List.getElem?_eq_none (by rw [wipe_length, hl]; omega), List.getElem?_eq_none (by rw [wipe_length]; omega)]
  · rw [wipe_get hj, h.2 j fun z => hj (hs j z)]
section
variable {Γ : Ga} {lo own own' own₁ : List Nat} {e elt tg : Expr} {es : List Expr} {m ma mb : Mr D} {mt : Mr Bool} {pos p1 p2 : Pos}
theorem Good.wipe {c : Option Addr} {F0 H0 F H : Hp} {σ : L2.St} {ρ : Rho} {s : DS} (g : Good Γ c F0 H0 own F H σ ρ s) {vs : List Nat} (hv : ∀ i ∈ vs, i ∉ own) (hst : ∀ i ∈ vs, Γ.st ≠ some i) : Good Γ c F0 H0 own F H (L2.wipe σ vs) (wipeR ρ vs) s where
  ext := g.ext
  cell := g.cell
  len := by rw [wipe_length, wipeR_length, g.len]
  val := fun i d h n => by
    obtain ⟨h1, h2⟩ := wipeR_some h
    rw [wipe_get h2]
    exact g.val i d h1 n
  mine := fun i d h n => by
    obtain ⟨h1, h2⟩ := wipeR_some h
    rw [wipe_get h2]
    exact g.mine i d h1 n
  dist := fun i j d e p hi hj h1 h2 h3 h4 => by
    obtain ⟨a1, a2⟩ := wipeR_some h1
    obtain ⟨b1, b2⟩ := wipeR_some h2
    rw [wipe_get a2] at h3
    rw [wipe_get b2] at h4
    exact g.dist i j d e p hi hj a1 b1 h3 h4
  hdl := fun i h => by
    obtain ⟨p, h1, h2⟩ := g.hdl i h
    exact ⟨p, h1, by rw [wipe_get fun z => hst i z h]; exact h2⟩
/-- an object that none of the names holds is written -/
theorem Good.but {c : Option Addr} {F0 H0 F H : Hp} {σ : L2.St} {ρ : Rho} {s : DS} (g : Good Γ c F0 H0 own F H σ ρ s) {p : Addr} {o : HO} (fp : F p = none) (cp : c ≠ some p) (hp : H0 p = none) (ho : ∀ i d, i ∈ own → ρ[i]? = some (some d) → σ[i]? ≠ some (some (.ref p))) : Good Γ c F0 H0 own F (upd H p o) σ ρ s where
  ext := ⟨g.ext.ff, fun a u h => by
    have : a ≠ p := fun z => by rw [z, fp] at h; cases h
    rw [upd_ne this]; exact g.sub a u h, fun a u n h => by
    have : a ≠ p := fun z => by rw [z, hp] at h; cases h
    rw [upd_ne this]; exact g.ext.hh a u n h, g.ext.nw⟩
  cell := by
    have cl := g.cell
    cases c with
    | none => trivial
    | some q =>
      obtain ⟨c1, v, c2, c3⟩ := cl
      have : q ≠ p := fun z => cp (by rw [z])
      exact ⟨c1, v, by rw [upd_ne this]; exact c2, c3⟩
  len := g.len
  val := g.val
  mine := fun i d h n => by
    obtain ⟨q, vs, ds, k1, k2, k3, k4, k5⟩ := g.mine i d h n
    have : q ≠ p := fun z => ho i d n h (by rw [k1, z])
    exact ⟨q, vs, ds, k1, k2, k3, by rw [upd_ne this]; exact k4, k5⟩
  dist := g.dist
  hdl := g.hdl
/-- within a comprehension's block -/
def relS (o sc : Scope) : Scope := { sc with names := sc.names.map fun (n, k) => if (k == NameKind.free && o.kind == .function && o.names.lookup n == some .cell) then (n, NameKind.cell) else (n, k) }
abbrev Ga.blk (Γ : Ga) (sc : Scope) : Ga := { Γ with sc := relS Γ.sc sc, W := fun _ _ _ _ => False, fc := fun x => sc.names.lookup x == some .cell }
theorem Good.blk {c : Option Addr} {F0 H0 F H : Hp} {σ : L2.St} {ρ : Rho} {s : DS} (g : Good Γ c F0 H0 own F H σ ρ s) (sc : Scope) : Good (Γ.blk sc) c F0 H0 own F H σ ρ s := ⟨g.ext, g.cell, g.len, g.val, g.mine, g.dist, g.hdl⟩
theorem Good.unblk {c : Option Addr} {F0 H0 F H : Hp} {σ : L2.St} {ρ : Rho} {s : DS} {sc : Scope} (g : Good (Γ.blk sc) c F0 H0 own F H σ ρ s) : Good Γ c F0 H0 own F H σ ρ s := ⟨g.ext, g.cell, g.len, g.val, g.mine, g.dist, g.hdl⟩
/-- no error leaves a comprehension -/
def Res.nb {α : Type} (r : Res α) : Res α := match r with
  | .ok a s => .ok a s
  | _ => .bad
def cLoop (g : Gt) (mt : Mr Bool) (me : Mr D) (ρ : Rho) : List D → List D → DS → Res D
  | [], acc, s => .ok (.list acc) s
  | d :: ds, acc, s => match g d ρ with
    | none => .bad
    | some ρ1 => (mt ρ1 s).nb.bind fun b s => bif b then (me ρ1 s).nb.bind fun y s => bif sz (acc.length + 1) then cLoop g mt me ρ ds (acc ++ [y]) s else .bad else cLoop g mt me ρ ds acc s
def mComp (mi : Mr (List D)) (vs : List Nat) (g : Gt) (mt : Mr Bool) (me : Mr D) : Mr D := fun ρ s => (mi ρ s).bind fun ds s => cLoop g mt me (wipeR ρ vs) ds [] s
def MTs (Γ : Ga) (own : List Nat) (es : List Expr) (m : Mr Bool) : Prop := ∃ t : TT, (∀ X, Fm Γ X → PTs X es t) ∧ Snd Γ own (fun _ _ _ v d => v = d) t m
def mYes : Mr Bool := fun _ s => .ok true s
theorem MTs.nil : MTs Γ own [] mYes := ⟨tYes, fun _ _ => pts_nil, fun c F0 H0 F H σ ρ s Q g p => p true F H (Ext.refl g.sub) g.cell rfl⟩
theorem MTs.one (h : MT Γ own e mt) : MTs Γ own [e] mt := by
  obtain ⟨t, h1, h2⟩ := h
  exact ⟨t, fun X hX => pts_one (h1 X hX), h2⟩
/-- what is wanted of a fresh list -/
def PostN (Γ : Ga) (c : Option Addr) (F H : Hp) (σ : L2.St) (r : Res D) (Q : VK) : Prop := match r with
  | .ok d s' => ∀ p vs ds F' H', d = .list ds → Ext c F H F' H' → Cell Γ.K c s' F' H' → F' p = none → H p = none → c ≠ some p → H' p = some (.lst vs) → RpA Γ.K F' vs ds → Q (.ref p) H'
  | .er e s' => ∀ cls dd F' H', Ext c F H F' H' → Cell Γ.K c s' F' H' → Raised Γ.K Γ.mg F' H' e cls dd → Γ.W cls dd σ H'
  | .bad => False
theorem Post.nb {α β : Type} {sc : Scope} {c : Option Addr} {F H : Hp} {σ : L2.St} {R : Hp → Hp → β → α → Prop} {r : Res α} {Q : β → Hp → Prop} (h : Post (Γ.blk sc) c F H σ R r.nb Q) : Post (Γ.blk sc) c F H σ R r Q := by
  cases r with
  | ok a s => exact h
  | er e s => exact h.elim
  | bad => exact h
theorem snd_lc {wi : TI} {g : TG} {tt : TT} {te : TE} {mi : Mr (List D)} {f : Gt} {vs ws : List Nat} {sc : Scope} (hv : ∀ i ∈ vs, i ∉ own) (hst : ∀ i ∈ vs, Γ.st ≠ some i) (hws : ∀ j ∈ ws, j ∈ vs)
    (hi : Snd Γ own (fun _ F _ J ds => ItOk Γ.K F J ds) wi mi)
    (hg : ∀ c F0 H0 F H σ ρ s v d (Q : L2.St → Hp → Prop), Good (Γ.blk sc) c F0 H0 own F H σ ρ s → Rp Γ.K F v d → (match f d ρ with
      | some ρ' => ∀ σ', Kept ws σ σ' → Good (Γ.blk sc) c F0 H0 own F H σ' ρ' s → Q σ' H
      | none => False) → g v σ H Q)
    (ht : Snd (Γ.blk sc) own (fun _ _ _ v d => v = d) tt mt) (he : Snd (Γ.blk sc) own (fun _ F _ v d => Rp Γ.K F v d) te m)
    {c : Option Addr} {F0 H0 F H : Hp} {σ : L2.St} {ρ : Rho} {s : DS} {Q : VK} (gd : Good Γ c F0 H0 own F H σ ρ s) (p : PostN Γ c F H σ (mComp mi vs f mt m ρ s) Q) : tLc wi g tt te vs σ H Q := by
  refine hi c F0 H0 F H σ ρ s _ gd ?_
  unfold mComp Res.bind at p
  cases zi : mi ρ s with
  | er e s' => rw [zi] at p; exact p
  | bad => rw [zi] at p; exact p
  | ok ds s1 =>
    rw [zi] at p
    dsimp only at p
    intro J F1 H1 e1 c1 hI Dl hD
    have g1 := gd.go e1 c1
    have cD : c ≠ some Dl := fun z => (c1.at Dl z).2 hD
    have hD0 : H Dl = none := by
      cases q : H Dl with
      | none => rfl
      | some o => rw [e1.hh Dl o cD q] at hD; cases hD
    have hD00 : H0 Dl = none := by
      cases q : H0 Dl with
      | none => rfl
      | some o => rw [g1.ext.hh Dl o cD q] at hD; cases hD
    have gw := g1.wipe hv hst
    have noD : ∀ i d, i ∈ own → (wipeR ρ vs)[i]? = some (some d) → (wipe σ vs)[i]? ≠ some (some (.ref Dl)) := fun i d hi h z => by
      obtain ⟨q, _, _, k1, _, _, k4, _⟩ := gw.mine i d h hi
      rw [k1] at z
      cases z
      rw [hD] at k4; cases k4
    refine ⟨fun i k H' => k = ds.length - i ∧ i ≤ ds.length ∧ ∃ F' acc accd s', Ex F1 F' ∧ Good Γ c F0 H0 own F' H' (wipe σ vs) (wipeR ρ vs) s' ∧ (∀ a, F' a ≠ none → F1 a ≠ none ∨ H1 a = none) ∧ (∀ a o, c ≠ some a → H1 a = some o → H' a = some o) ∧ F' Dl = none ∧ H' Dl = some (.lst acc) ∧ RpA Γ.K F' acc accd ∧
        (match cLoop f mt m (wipeR ρ vs) (ds.drop i) accd s' with
          | .ok d s'' => ∀ p vs ds F' H', d = .list ds → Ext c F H F' H' → Cell Γ.K c s'' F' H' → F' p = none → H p = none → c ≠ some p → H' p = some (.lst vs) → RpA Γ.K F' vs ds → Q (.ref p) H'
          | _ => False), ⟨ds.length, rfl, Nat.zero_le _, F1, [], [], s1, Ex.refl F1, gw.but (e1.fh.none hD) cD hD00 noD, fun a h => .inl h, fun a o _ h => Ex.new hD a o h, e1.fh.none hD, upd_same, .nil, ?_⟩, ?_⟩
    · rw [List.drop_zero]
      have : ∀ (l : List D) acc s, ∀ x s', cLoop f mt m (wipeR ρ vs) l acc s ≠ .er x s' := fun l => by
        induction l with
        | nil => intro acc s x s' h; cases h
        | cons d l ih =>
          intro acc s x s' h
          unfold cLoop at h
          cases q : f d (wipeR ρ vs) with
          | none => rw [q] at h; cases h
          | some ρ1 =>
            rw [q] at h
            dsimp only at h
            cases q2 : mt ρ1 s with
            | er y t => rw [q2] at h; cases h
            | bad => rw [q2] at h; cases h
            | ok b t =>
              rw [q2] at h
              cases b with
              | false => exact ih acc t x s' h
              | true =>
                have h : (m ρ1 t).nb.bind (fun y s => bif sz (acc.length + 1) then cLoop f mt m (wipeR ρ vs) l (acc ++ [y]) s else .bad) = .er x s' := h
                cases q3 : m ρ1 t with
                | er y t => rw [q3] at h; cases h
                | bad => rw [q3] at h; cases h
                | ok y t2 =>
                  rw [q3] at h
                  have h : (bif sz (acc.length + 1) then cLoop f mt m (wipeR ρ vs) l (acc ++ [y]) t2 else .bad) = .er x s' := h
                  cases q4 : sz (acc.length + 1) with
                  | false => rw [q4] at h; cases h
                  | true => rw [q4] at h; exact ih _ _ x s' h
      cases q : cLoop f mt m (wipeR ρ vs) ds [] s1 with
      | ok d s'' => rw [q] at p; exact p
      | er x s'' => exact (this _ _ _ _ _ q).elim
      | bad => rw [q] at p; exact p.elim
    · rintro i k H2 ⟨rfl, hil, F2, acc, accd, s2, x2, g2, nw2, hh2, fD, hDl, ra, q2⟩
      obtain ⟨hgo, hstop⟩ := hI F2 H2 x2 g2.sub
      have ext2 : Ext c F1 H1 F2 H2 := ⟨x2, g2.sub, hh2, nw2⟩
      by_cases hlt : i < ds.length
      · right
        have hd : ds[i]? = some ds[i] := by simp [hlt]
        obtain ⟨go, hy⟩ := hgo i ds[i] hd
        refine ⟨go, fun H' => ∃ F' acc accd s', Ex F1 F' ∧ Good Γ c F0 H0 own F' H' (wipe σ vs) (wipeR ρ vs) s' ∧ (∀ a, F' a ≠ none → F1 a ≠ none ∨ H1 a = none) ∧ (∀ a o, c ≠ some a → H1 a = some o → H' a = some o) ∧ F' Dl = none ∧ H' Dl = some (.lst acc) ∧ RpA Γ.K F' acc accd ∧
          (match cLoop f mt m (wipeR ρ vs) (ds.drop (i + 1)) accd s' with
            | .ok d s'' => ∀ p vs ds F' H', d = .list ds → Ext c F H F' H' → Cell Γ.K c s'' F' H' → F' p = none → H p = none → c ≠ some p → H' p = some (.lst vs) → RpA Γ.K F' vs ds → Q (.ref p) H'
            | _ => False), fun H' h => ⟨ds.length - (i + 1), by omega, rfl, hlt, h⟩, fun x H3 y => ?_⟩
        obtain ⟨F3, e3, r3⟩ := hy x H3 y
        have g3 := g2.go e3.of0 (g2.cell.keep e3)
        have ext3 : Ext c F1 H1 F3 H3 := ext2.trans e3.of0 g2.cell.at
        have D3 : H3 Dl = some (.lst acc) := e3.hh Dl _ (by simp) hDl
        have keepD : ∀ {Fa Ha : Hp}, Ext c F2 H2 Fa Ha → Fa Dl = none ∧ Ha Dl = some (.lst acc) := fun {Fa Ha} ex => by
          refine ⟨?_, ex.hh Dl _ cD hDl⟩
          cases q : Fa Dl with
          | none => rfl
          | some o =>
            rcases ex.nw Dl (by rw [q]; simp) with z | z
            · exact absurd fD z
            · rw [hDl] at z; cases z
        rw [List.drop_eq_getElem_cons hlt] at q2
        unfold cLoop at q2
        refine hg c F0 H0 F3 H3 (wipe σ vs) (wipeR ρ vs) s2 x ds[i] _ (g3.blk sc) r3 ?_
        cases z : f ds[i] (wipeR ρ vs) with
        | none => rw [z] at q2; exact q2.elim
        | some ρ3 =>
          rw [z] at q2
          dsimp only at q2 ⊢
          intro σ4 kp g4
          refine ⟨wipe_kept kp hws, ht c F0 H0 F3 H3 σ4 ρ3 s2 _ g4 ?_⟩
          cases w : mt ρ3 s2 with
          | er y t => rw [w] at q2; exact q2.elim
          | bad => rw [w] at q2; exact q2.elim
          | ok b s5 =>
            rw [w] at q2
            intro v5 F5 H5 e5 c5 r5
            have r5 : v5 = b := r5
            subst r5
            have g5 := g3.go e5 c5
            have ext5 : Ext c F1 H1 F5 H5 := ext3.trans e5 g3.cell.at
            have e25 : Ext c F2 H2 F5 H5 := e3.of0.trans e5 g3.cell.at
            cases v5 with
            | false =>
              refine iteF ?_
              exact ⟨F5, acc, accd, s5, ext5.ff, g5, ext5.nw, ext5.hh, (keepD e25).1, (keepD e25).2, ra.mono e25.ff, q2⟩
            | true =>
              refine iteT ?_
              refine he c F0 H0 F5 H5 σ4 ρ3 s5 _ (g4.go e5 c5) ?_
              have q2 : (match (m ρ3 s5).nb.bind (fun y s => bif sz (accd.length + 1) then cLoop f mt m (wipeR ρ vs) (ds.drop (i + 1)) (accd ++ [y]) s else .bad) with
                | .ok d s'' => ∀ p vs ds F' H', d = .list ds → Ext c F H F' H' → Cell Γ.K c s'' F' H' → F' p = none → H p = none → c ≠ some p → H' p = some (.lst vs) → RpA Γ.K F' vs ds → Q (.ref p) H'
                | _ => False) := q2
              cases u : m ρ3 s5 with
              | er y t => rw [u] at q2; exact q2.elim
              | bad => rw [u] at q2; exact q2.elim
              | ok y s6 =>
                rw [u] at q2
                have q2 : (match (bif sz (accd.length + 1) then cLoop f mt m (wipeR ρ vs) (ds.drop (i + 1)) (accd ++ [y]) s6 else .bad) with
                  | .ok d s'' => ∀ p vs ds F' H', d = .list ds → Ext c F H F' H' → Cell Γ.K c s'' F' H' → F' p = none → H p = none → c ≠ some p → H' p = some (.lst vs) → RpA Γ.K F' vs ds → Q (.ref p) H'
                  | _ => False) := q2
                intro v6 F6 H6 e6 c6 r6
                have g6 := g5.go e6 c6
                have ext6 : Ext c F1 H1 F6 H6 := ext5.trans e6 g5.cell.at
                have e26 : Ext c F2 H2 F6 H6 := e25.trans e6 g5.cell.at
                cases hz : sz (accd.length + 1) with
                | false => rw [hz] at q2; exact q2.elim
                | true =>
                  rw [hz] at q2
                  refine ⟨acc, (keepD e26).2, by rw [ra.length]; exact sz_ok hz, ?_⟩
                  refine ⟨F6, acc ++ [v6], accd ++ [y], s6, ext6.ff, g6.but (keepD e26).1 cD hD00 noD, ext6.nw, fun a o n h => ?_, (keepD e26).1, upd_same, (ra.mono e26.ff).app (RpA.one r6), q2⟩
                  have : a ≠ Dl := fun z => by rw [z, hD] at h; cases h
                  rw [upd_ne this]
                  exact ext6.hh a o n h
      · left
        have e : i = ds.length := by omega
        subst e
        refine ⟨hstop, ?_⟩
        rw [List.drop_length] at q2
        have q3 : ∀ p vs ds F' H', (PyData.list accd) = .list ds → Ext c F H F' H' → Cell Γ.K c s2 F' H' → F' p = none → H p = none → c ≠ some p → H' p = some (.lst vs) → RpA Γ.K F' vs ds → Q (.ref p) H' := q2
        exact q3 Dl acc accd F2 H2 rfl (e1.trans ext2 c1.at) g2.cell fD hD0 cD hDl ra
/-- the list is frozen | becomes a name's own -/
theorem PostN.of {c : Option Addr} {F H : Hp} {σ : L2.St} {r : Res D} {Q : VK} (h : Post Γ c F H σ (fun F' _ v d => Rp Γ.K F' v d) r Q) : PostN Γ c F H σ r Q := by
  cases r with
  | er e s => exact h
  | bad => exact h
  | ok d s =>
    intro p vs ds F' H' ed ex cl fp hp cp hl ra
    subst ed
    have ex2 : Ext c F H (upd F' p (.lst vs)) H' := ⟨ex.ff.trans (Ex.new fp), fun a o h => by
      by_cases ha : a = p
      · subst ha; rw [upd_same] at h; rw [← h]; exact hl
      · rw [upd_ne ha] at h; exact ex.fh a o h, ex.hh, fun a n => by
      by_cases ha : a = p
      · subst ha; exact .inr hp
      · rw [upd_ne ha] at n; exact ex.nw a n⟩
    refine h _ _ _ ex2 ?_ (.lst upd_same (ra.mono (Ex.new fp)))
    cases c with
    | none => trivial
    | some q =>
      obtain ⟨c1, v, c2, c3⟩ := cl
      have : q ≠ p := fun z => cp (by rw [z])
      exact ⟨by rw [upd_ne this]; exact c1, v, c2, c3.mono (Ex.new fp)⟩
theorem Fm.blk {X : Cx} (hX : Fm Γ X) (s : Shared) (H : Hp) (scope : Scope) (C : Addr) (cl : List (Str × Addr)) (fp : List Addr) : Fm (Γ.blk scope) (X.blk s H scope (compEnvC scope cl C X.env) fp) where
  prog := hX.prog
  w := hX.w
  K := hX.K
  mg := hX.mg
  base := hX.base
  N := hX.N
  sc := by
    show relabel scope X.env = relS Γ.sc scope
    rw [← hX.sc]
    rfl
  nd := hX.nd
  calm := hX.calm
  fn := fun x h => h
  room := hX.room
  tk := takes0
theorem ME.lc {mi : Mr (List D)} {f : Gt} {ws : List Nat} {sc : Scope} {iter : Expr} {ifs : List Expr} (names : List (Str × Nat)) (hb : blkC Γ.N Γ.sc sc names = true) (hv : ∀ i ∈ names.map (·.2), i ∉ own) (hst : ∀ i ∈ names.map (·.2), Γ.st ≠ some i) (hws : ∀ j ∈ ws, j ∈ names.map (·.2))
    (hi : MI Γ own tg iter mi) (hg : MG (Γ.blk sc) own ws tg f) (ht : MTs (Γ.blk sc) own ifs mt) (he : ME (Γ.blk sc) own elt m) (hs : ∀ env x, foldedSetIterable iter env x = pure x) :
    ME Γ own (.ListComp elt [⟨tg, iter, ifs, 0⟩] sc pos) (mComp mi (names.map (·.2)) f mt m) := by
  obtain ⟨wi, i1, i2⟩ := hi
  obtain ⟨g, g1, g2⟩ := hg
  obtain ⟨tt, t1, t2⟩ := ht
  obtain ⟨te, e1, e2⟩ := he
  refine ⟨tLc wi g tt te (names.map (·.2)), fun X hX => pe_lc hX.calm hX.nd (i1 X hX) (blkOk_by (by rw [hX.N, hX.sc]; exact hb)) (fun s H C cl fp => g1 _ (hX.blk s H sc C cl fp)) (fun s H C cl fp => t1 _ (hX.blk s H sc C cl fp)) (fun s H C cl fp => e1 _ (hX.blk s H sc C cl fp)) (hs _), fun c F0 H0 F H σ ρ s Q gd p => ?_⟩
  exact snd_lc hv hst hws i2 g2 t2 e2 gd (PostN.of p)
end
end M
set_option maxRecDepth 100000
set_option maxHeartbeats 4000000
/-! The mirror layer, part 10: signs, orders as values, n += e. -/
namespace M
open PySem L2
section
variable {Γ : Ga} {lo own own' own₁ : List Nat} {e a b : Expr} {es : List Expr} {m ma mb : Mr D} {pos p1 p2 : Pos}
theorem ME.neg (h : MB Γ own e m) : ME Γ own (.UnaryOp .USub e pos) (mOp1 fNeg m) := by
  obtain ⟨t, h1, h2⟩ := h
  refine ⟨tUn (rU fun i => .int (-i)) t, fun X hX => pe_un un_neg (h1 X hX), fun c F0 H0 F H σ ρ s Q g p => ?_⟩
  refine h2 c F0 H0 F H σ ρ s _ g (Post.step p fun d s1 v F1 H1 e1 c1 r' p1 => ?_)
  cases d with
  | int i => exact ⟨i, r'.int_inv, p1 _ F1 H1 (Ext.refl e1.fh) c1 (.int _)⟩
  | _ => exact p1.elim
theorem ME.lt (ha : MB Γ own a ma) (hb : MB Γ own b mb) : ME Γ own (.Compare a [.Lt] [b] pos) (mOp2 fLt ma mb) := ME.cmp (fun _ _ => op_lt) (ops_cmpI _ _) ha hb (nomark _)
theorem ME.le (ha : MB Γ own a ma) (hb : MB Γ own b mb) : ME Γ own (.Compare a [.LtE] [b] pos) (mOp2 fLe ma mb) := ME.cmp (fun _ _ => op_le) (ops_cmpI _ _) ha hb (nomark _)
theorem ME.gt (ha : MB Γ own a ma) (hb : MB Γ own b mb) : ME Γ own (.Compare a [.Gt] [b] pos) (mOp2 fGt ma mb) := ME.cmp (fun _ _ => op_gt) (ops_cmpI _ _) ha hb (nomark _)
theorem ME.ge (ha : MB Γ own a ma) (hb : MB Γ own b mb) : ME Γ own (.Compare a [.GtE] [b] pos) (mOp2 fGe ma mb) := ME.cmp (fun _ _ => op_ge) (ops_cmpI _ _) ha hb (nomark _)
theorem ME.inS (ha : MB Γ own a ma) (hb : MB Γ own b mb) (hm : behindInMarks .In b = false) : ME Γ own (.Compare a [.In] [b] pos) (mOp2 fIn ma mb) := ME.cmp (fun _ _ => op_in_sign) (ops_inS _) ha hb hm
theorem ne_st {a : Option Nat} {i : Nat} (h : (a == some i) = false) : a ≠ some i := by simpa using h
theorem al_st {a : Option Nat} {l : List Nat} (h : l.all (fun i => !(a == some i)) = true) : ∀ i ∈ l, a ≠ some i := fun i hi => ne_st (by simpa using List.all_eq_true.mp h i hi)
def fAddI (x y : D) : Option D := match x, y with
  | .int i, .int j => some (.int (i + j))
  | _, _ => none
theorem ips_add (K : PySem.W.Frag) : IpS K (ipI fun i j => i + j) fAddI := by
  intro c F H x y dx dy Q hF hx hy p
  unfold fAddI at p
  split at p
  · exact ⟨_, _, hx.int_inv, hy.int_inv, p _ F H (Ext.refl hF) (.int _)⟩
  · exact p.elim
theorem MS.augAdd (i : Nat) {x : Str} {p : Pos} (hN : Γ.N[i]? = some x) (hx : LocC Γ x) (ho : i ∉ own) (hst : Γ.st ≠ some i) (he : MB Γ own e m) :
    MS Γ lo own own (.AugAssign (.Name x p) .Add e pos) (mAug i fAddI m) := MS.aug i hN hx ho hst (fun _ _ => ip_add) (ips_add _) he
end
end M
set_option maxRecDepth 100000
set_option maxHeartbeats 4000000
/-! The mirror layer, part 11: what the head tells, the law's first row. -/
namespace M
open PySem L2
/-! ### facts of an own error class -/
section
variable {K : PySem.W.Frag}
def clsB (K : PySem.W.Frag) (C : Addr) : Bool := match K.lookup C with
  | some ⟨.type "type", _, .cls cd, sl⟩ => (match cd.mro, sl.toList with
    | .ref C' :: bm, [_, _, _, _, some (.builtin n), _] => C' == C && (n == "ValueError.__new__" && (!cd.hasDel && (cd.hasDict && PySem.HandSPX.refsVE bm)))
    | _, _ => false)
  | _ => false
theorem clsB_ok {C : Addr} (h : clsB K C = true) : ∃ nm q N bs bm sn sub ab col dd k0 k1 k2 k3 k5, K.lookup C = some (PySem.excClassObj nm q C N bs bm true sn sub ab col dd k0 k1 k2 k3 k5 "ValueError.__new__") ∧ PySem.HandSPX.refsVE bm = true := by
  unfold clsB at h
  split at h
  · rename_i dd cd sl ho
    split at h
    · rename_i C' bm k0 k1 k2 k3 n k5 hm hs
      simp only [Bool.and_eq_true, beq_iff_eq, Bool.not_eq_true'] at h
      obtain ⟨rfl, rfl, hdel, hdi, hr⟩ := h
      obtain ⟨nm, bs, mro, ns, qn, hd, sn, sub, ab, col, del⟩ := cd
      dsimp only at hm hdel hdi
      subst hm hdel hdi
      have hsl : sl = #[k0, k1, k2, k3, some (.builtin "ValueError.__new__"), k5] := by
        obtain ⟨l⟩ := sl
        simp only at hs
        rw [hs]
      subst hsl
      exact ⟨nm, qn, ns, bs, bm, sn, sub, ab, col, dd, k0, k1, k2, k3, k5, ho, hr⟩
    · cases h
  · cases h
abbrev FnI : Type := Option (Str × Str × Arguments × FuncBody × Scope × Addr × List Str × Value × Addr)
def fnI (K : PySem.W.Frag) (p : Str × Option Str) : FnI := match K.lookup (He.fAd K p) with
  | some ⟨_, _, .func fd, _⟩ => some (fd.name, fd.qualname, fd.params, fd.body, fd.scope, fd.globals, fd.closure.map (·.1), fd.defaults, fd.builtins)
  | _ => none
def cellB (K : PySem.W.Frag) (cc C : Addr) : Bool := match K.lookup cc with
  | some ⟨_, _, .cell (some (.ref D)), _⟩ => D == C
  | _ => false
def fileB (P : Program) (K : PySem.W.Frag) (cd : Value) : Bool := match cd with
  | .ref c => (match K.lookup c with
    | some ⟨_, _, .fields vs, _⟩ => (match (vs[2]? : Option Value) with
      | some (.str file _) => (P.main.file : Str) == file
      | _ => false)
    | _ => false)
  | _ => false
def cloB (K : PySem.W.Frag) (C : Addr) (l : List (Str × Addr)) : Bool := match l with
  | [(_, cc)] => cellB K cc C
  | _ => false
def initB (P : Program) (K : PySem.W.Frag) (C f : Addr) : Bool := match K.lookup f with
  | some ⟨_, _, .func fd, _⟩ => PySem.W.codeIn K fd.code "TextError.__init__" && (fileB P K fd.code && cloB K C fd.closure)
  | _ => false
open PySem.W in
/-- all that TE.Txt asks, but for __init__'s own text -/
def teB (P : Program) (K : PySem.W.Frag) : Bool :=
  let C := He.ga K "TextError"
  let f := He.ma K C "__init__"
  clsB K C && (He.eqO (findIn K (.ref C) "__setattr__") (some (some (.builtin "object.__setattr__"))) && (He.eqO (findIn K (.ref C) "__getattribute__") (some (some (.builtin "BaseException.__getattribute__"))) && (He.eqO (findIn K (.ref C) "__getattr__") (some none) && (He.eqO (findIn K (.ref C) "place") (some none) && (He.eqO (findIn K (.ref C) "word") (some none) && (He.eqO (findIn K (.ref C) "__init__") (some (some (.ref f))) &&
  (decide (typeIn K (.ref f) = some (.type "function")) && (keepIn K (.ref C) && (decide (subIn K (.ref C) (.type "BaseException") = some true) && (decide (subIn K (.ref C) (.type "ValueError") = some true) && (decide (typeIn K (.ref C) = some (.type "type")) && (hasDictIn K C && (decide (exmOne K (.ref C) (.ref C) = some true) && (decide (mroIn K C (.ref C) = some true) &&
  (He.eqO (ks_superIn K C C "__init__") (some (some (.builtin "ValueError.__init__"))) && (He.eqO (nsIn K cStatics "thirdparty.any") (some none) && (initB P K C f && !(P.main.scope.names.lookup ("super" : Str)).isSome)))))))))))))))))
def teI (p1 p2 p3 : Pos) : FnI := some ("__init__", "TextError.__init__", TE.iA p1 p2 p3, .stmts (TE.iB TE.pp), TE.iS, mainGlobals, ["__class__"], .none, builtinsNs)
theorem te_ok {P : Program} {h : Heap} {mg : Str → Option Value} {p1 p2 p3 : Pos} (X : K.In h) (G : h.Ns mainGlobals mg) (g : (He.Fa.glo "TextError").ok K = true) (s1 : (He.Fa.free "super").ok K = true) (s2 : (He.Fa.free "str").ok K = true) (c : teB P K = true) (e : fnI K ("TextError", some "__init__") = teI p1 p2 p3) :
    ∃ C fI, TE.Txt P K mg C fI := by
  unfold teB at c
  simp only [Bool.and_eq_true] at c
  obtain ⟨c1, c2, c3, c4, c5, c6, c7, c8, c9, c10, c11, c12, c13, c14, c15, c16, c17, c18, c19⟩ := c
  refine ⟨He.ga K "TextError", He.ma K (He.ga K "TextError") "__init__", He.glo_ok X G g, clsB_ok c1, He.eqO_ok c2, He.eqO_ok c3, He.eqO_ok c4, He.eqO_ok c5, He.eqO_ok c6, He.eqO_ok c7, of_decide_eq_true c8, c9, of_decide_eq_true c10, of_decide_eq_true c11, of_decide_eq_true c12, c13, of_decide_eq_true c14, of_decide_eq_true c15, He.eqO_ok c16, He.eqO_ok c17, He.free_ok X G s1, He.free_ok X G s2, ?_, by simpa using c19⟩
  unfold initB at c18
  unfold fnI at e
  have ef : He.fAd K ("TextError", some "__init__") = He.ma K (He.ga K "TextError") "__init__" := rfl
  rw [ef] at e
  cases q : K.lookup (He.ma K (He.ga K "TextError") "__init__") with
  | none => rw [q] at c18; cases c18
  | some o =>
    obtain ⟨oc, od, dt, osl⟩ := o
    rw [q] at c18 e
    cases dt with
    | func fd =>
      obtain ⟨n1, n2, n3, n4, n5, n6, n7, n8, n9, n10, n11, n12, n13, n14, n15⟩ := fd
      have e2 : (some (n1, n2, n3, n4, n5, n6, n7.map (·.1), n8, n15) : FnI) = teI p1 p2 p3 := e
      unfold teI at e2
      simp only [Option.some.injEq, Prod.mk.injEq] at e2
      obtain ⟨h1, h2, h3, h4, h5, h6, h7, h8, h9⟩ := e2
      subst h1 h2 h3 h4 h5 h6 h8 h9
      have d : (PySem.W.codeIn K n13 "TextError.__init__" && (fileB P K n13 && cloB K (He.ga K "TextError") n7)) = true := c18
      simp only [Bool.and_eq_true] at d
      obtain ⟨d1, d2, d3⟩ := d
      clear e c18
      obtain ⟨y, cc, rfl⟩ : ∃ y cc, n7 = [(y, cc)] := by
        unfold cloB at d3
        split at d3
        · exact ⟨_, _, rfl⟩
        · cases d3
      · have ey : y = "__class__" := by simpa using h7
        subst ey
        have d3 : cellB K cc (He.ga K "TextError") = true := d3
        unfold cellB at d3
        unfold fileB at d2
        cases n13 with
        | ref cda =>
          have d2 : (match K.lookup cda with
            | some ⟨_, _, .fields vs, _⟩ => (match (vs[2]? : Option Value) with
              | some (.str file _) => (P.main.file : Str) == file
              | _ => false)
            | _ => false) = true := d2
          refine ⟨oc, od, n9, n10, n11, n12, n14, osl, cc, cda, p1, p2, p3, rfl, d1, ?_, ?_⟩
          · split at d2
            · rename_i ccl cdd vs ccs hl
              split at d2
              · rename_i file tf hv
                exact ⟨ccl, cdd, vs, ccs, file, tf, hl, hv, d2⟩
              · cases d2
            · cases d2
          · split at d3
            · rename_i cl cld D csl hl
              have : D = He.ga K "TextError" := by simpa using d3
              subst this
              exact ⟨cl, cld, csl, hl⟩
            · cases d3
        | _ => cases d2
    | _ => cases c18
end
/-! ### the Hook -/
abbrev AlM : Type := He.AlD × Bool × List FnI
def obsM (P : Program) (fa : List He.Fa) (fn : List He.DefD) (te : Bool) (K : PySem.W.Frag) : AlM := (He.obsD fa fn K, bif te then teB P K else true, bif te then [fnI K ("TextError", some "__init__")] else [])
def valM (fn : List He.DefD) (fi : List FnI) : AlM := (He.valD fn, true, fi)
def SaysM (P : Program) (fa : List He.Fa) (fn : List He.DefD) (te : Bool) (fi : List FnI) (K : PySem.W.Frag) : Prop := obsM P fa fn te K = valM fn fi
def obsMG (P : Program) (n : Nat) (fa : List He.Fa) (fn : List He.DefD) (te : Bool) (g : Addr → Option Obj) : AlM := obsM P fa fn te (He.frG g (cStatics :: He.asD g n))
def hookM (P : Program) (n : Nat) (fa : List He.Fa) (fn : List He.DefD) (te : Bool) (fi : List FnI) : PySem.W.Hook where
  α := AlM
  obs := fun s => obsMG P n fa fn te s.heap.get?
  val := fun _ => valM fn fi
  says := fun _ h => ∃ K : PySem.W.Frag, K.In h ∧ SaysM P fa fn te fi K
  of := fun _ _ e => ⟨_, He.frG_in, e⟩
  keeps := fun _ _ _ ⟨K, hK, c⟩ k => ⟨K, PySem.W.Frag.In.keeps hK k, c⟩
theorem obsMG_eq {P : Program} {n : Nat} {fa : List He.Fa} {fn : List He.DefD} {te : Bool} {fi : List FnI} {g : Addr → Option Obj} {s : Shared} (h : ∀ a, g a = s.heap.get? a) : obsMG P n fa fn te g = (hookM P n fa fn te fi).obs s := by
  have e : g = s.heap.get? := funext h
  rw [e] <;> rfl
section
variable {P : Program} {fa : List He.Fa} {fn : List He.DefD} {tb : Bool} {fi : List FnI} {K : PySem.W.Frag}
theorem SaysM.d (c : SaysM P fa fn tb fi K) : He.SaysD fa fn K := congrArg (fun z : AlM => z.1) c
theorem SaysM.teB (c : SaysM P fa fn true fi K) : teB P K = true := congrArg (fun z : AlM => z.2.1) c
theorem SaysM.fiI {i : FnI} (c : SaysM P fa fn true [i] K) : fnI K ("TextError", some "__init__") = i := List.singleton_inj.mp (congrArg (fun z : AlM => z.2.2) c)
end
/-! ### the law's first row -/
theorem cx_noA {P : Program} {w : World} {outer : List Env} {H : Hp} {s : Shared} {e : Value} {s' : Shared} (h : L2.CX P w outer H s E0 e s') : False := by
  obtain ⟨_, _, _, _, _, _, _, _, _, _, _, _, z⟩ := h
  exact z.elim
theorem ps_first {B : Gb} {N : List Str} {sc : Scope} {k i : Nat} {E : XK} {X : Cx} {f : Addr} {fd : FuncData} {x : Str} {p1 p2 p3 p4 p5 : Pos} (hX : Fs (gaOf B N sc k E) X) (hF : FnOk B.P B.w B.K B.mg B.base (L2.CX B.P B.w) 1 f fd ["script"] (spSt B.K)) (hm : B.mg "_law_state" = some (.ref f)) (kp : PySem.W.keepIn B.K (.ref f) = true) (hb : Binds B.K fd ["script"] []) (hk : 1 ≤ k)
    (h0 : N[0]? = some ("script" : Str)) (l0 : sc.names.lookup ("script" : Str) = some .local) (hi : N[i]? = some x) (hl : LocC (gaS B N sc k E) x) (hg : GlS sc "_law_state") (hv : Vis sc ("script" : Str) := by exact .inl rfl) :
    PS X (.Assign [.Name x p1] (.Call (.Name "_law_state" p2) [.Name "script" p3] [] p4) p5) (tAsg (tCall (spSt B.K) [] E0 (tCons (tVar 0) tNil)) (gName i)) := by
  have lk : X.env.scope.names.lookup ("script" : Str) = some .local := by rw [hX.sc]; exact l0
  have hF' : FnOk X.prog X.w X.K X.mg X.base (L2.CX X.prog X.w) 1 f fd ["script"] (spSt B.K) := by
    rw [hX.prog, hX.w, hX.K, hX.mg, hX.base]; exact hF
  refine ps_set hX.nd (by rw [hX.N]; exact hi) ?_ (pe_call hF' (hX.room.mono hk) (hg.gl hX.toFm) (by rw [hX.mg]; exact hm) (by rw [hX.K]; exact kp) (by rw [hX.K]; exact hb) .nil (fun _ _ _ _ _ _ _ c => (cx_noA c).elim) (pa_cons (pe_var (by rw [hX.N]; exact h0) (.inl lk) (by decide) (by decide)) pa_nil rfl) (by decide) rfl rfl) rfl ?_
  · rcases hl with h | ⟨h, _⟩
    · exact .inl (by rw [hX.sc]; exact h)
    · exact .inr (by rw [hX.sc]; exact h)
  · rcases hl with h | ⟨h, _⟩
    · exact .inr (by rw [hX.sc]; exact h)
    · exact .inl (hX.fn x rfl)
end M
set_option maxRecDepth 100000
set_option maxHeartbeats 4000000
/-! The mirror layer, part 12: from the head's facts to the walk. -/
namespace M
open PySem L2
theorem fun_of {K : PySem.W.Frag} {x qual : Str} {st : Stmt} {f : Addr} {fd : FuncData} (F : FunD K x qual (defArgs st) (defBody st) (defScope st) [] [] f fd) : Fun K x qual st f fd := by
  obtain ⟨oc, od, dV, kV, doc, pm, an, cdv, ct, osl, rfl, lk, hcd, hD, hK⟩ := F.ex
  rcases hD with ⟨_, rfl⟩ | ⟨e, _⟩
  · exact ⟨⟨oc, od, kV, doc, pm, an, cdv, ct, osl, rfl, lk, hcd⟩, F.kp⟩
  · exact absurd rfl e
def dd (x : Str) (st : Stmt) : He.DefD := ⟨(x, none), x, x, defArgs st, defBody st, defScope st, [], []⟩
theorem dd_fun {fa : List He.Fa} {fn : List He.DefD} {K : PySem.W.Frag} (c : He.SaysD fa fn K) (i : Nat) {x : Str} {st : Stmt} (h : fn[i]? = some (dd x st)) : ∃ fd, Fun K x x st (He.ga K x) fd := by
  obtain ⟨fd, F⟩ := c.def_ i h
  exact ⟨fd, fun_of F⟩
theorem fun_binds {K : PySem.W.Frag} {x qual : Str} {st : Stmt} {f : Addr} {fd : FuncData} (F : Fun K x qual st f fd) {ps : List Str}
    (h : ∀ (kV doc pm : Value) (an : Option Addr) (cdv ct : Value) (us : List Value), us.length = ps.length → bindArgs (PySem.W.fnOf x qual (defArgs st) (defBody st) (defScope st) .none kV doc pm an cdv ct) ⟨us, []⟩ = pure (ps.zip us)) : Binds K fd ps [] := F.binds h
theorem fun_binds1 {K : PySem.W.Frag} {x qual : Str} {st : Stmt} {f : Addr} {fd : FuncData} (F : Fun K x qual st f fd)
    (h : ∀ (kV doc pm : Value) (an : Option Addr) (cdv ct : Value) (u : Value), bindArgs (PySem.W.fnOf x qual (defArgs st) (defBody st) (defScope st) .none kV doc pm an cdv ct) ⟨[u], []⟩ = pure ([("script", u)] : List (Str × Value))) (s : Shared) (v : Value) : BindsTo s fd ⟨[v], []⟩ [("script", v)] := by
  obtain ⟨oc, od, kV, doc, pm, an, cdv, ct, osl, rfl, lk, hcd⟩ := F.ex
  exact .of_eq (h _ _ _ _ _ _ _)
/-- the law's end: the written part is found, the promise holds over every base -/
theorem walk_m {l : PySem.W.OpenLaw} {k : Nat} {q : Program} {loose : List Str} {XP : (Str → Option Value) → Heap → Prop} {YP : World → Heap → Prop} {d : DefRec} (hn : l.most = some 63) (hdf : d.params.defaults = []) (hr : Room k callerA)
    (F : ∀ (w : World) (mg : Str → Option Value) (fa : Addr) (h : Heap), YP w h → h.Ns mainGlobals mg → mg d.name = some (.ref fa) → ∃ (K : PySem.W.Frag) (fd : FuncData), K.In h ∧
      (∀ (s : Shared) (v : Value), BindsTo s fd ⟨[v], []⟩ [("script", v)]) ∧ ∀ base : Heap, K.In base → base.Ns mainGlobals mg → FnOk l.prog w K mg base (L2.CX l.prog w) k fa fd ["script"] (spLaw K)) :
    PySem.W.WalkO q loose XP YP l.row.toRowW d [] (fun f vs => PySem.call f vs) := by
  refine Att.attach_call hn hdf fun w sa sb mg mb fa o pm cd dc a vs ns G Y ho hd hcd hmg hobj hints hlen hg => ?_
  obtain ⟨K, fd, KX, hb, hF⟩ := F w mg fa _ Y G.T.g hmg
  have hl : ns.length ≤ sizeLine := Nat.le_trans hlen (by decide)
  exact law_call KX G.T.g G.T.b G.T.builtins G.T.nolimit hg hobj hints hl hr hF hb (fun H hO hS => ⟨a, ns, rfl, hS, hlen, fun _ => rfl⟩) fun H e s' z => cx_no z
end M
set_option maxRecDepth 100000
set_option maxHeartbeats 4000000
/-! The mirror layer, part 13: what a mirror does, by what is wanted of its ends. -/
namespace M
open PySem
/-! ### ends -/
def We {α : Type} (r : Res α) (P : α → DS → Prop) (E : Err → DS → Prop) : Prop := match r with
  | .ok a s => P a s
  | .er e s => E e s
  | .bad => False
structure Kn where
  nx : Rho → DS → Prop
  rt : D → DS → Prop
  bk : Rho → DS → Prop
  ct : Rho → DS → Prop
  er : Err → DS → Prop
def Wp (o : Out) (K : Kn) : Prop := match o with
  | .nx ρ s => K.nx ρ s
  | .rt d s => K.rt d s
  | .bk ρ s => K.bk ρ s
  | .ct ρ s => K.ct ρ s
  | .er e s => K.er e s
  | .bad => False
section
variable {α β : Type} {P : α → DS → Prop} {Q : β → DS → Prop} {E : Err → DS → Prop} {K : Kn} {ρ : Rho} {s : DS}
theorem We.mono {r : Res α} {P' : α → DS → Prop} {E' : Err → DS → Prop} (h : We r P E) (hp : ∀ a s, P a s → P' a s) (he : ∀ e s, E e s → E' e s) : We r P' E' := by
  cases r with
  | ok a s => exact hp a s h
  | er e s => exact he e s h
  | bad => exact h
theorem we_ok {a : α} : We (.ok a s) P E ↔ P a s := Iff.rfl
theorem we_er {e : Err} : We (α := α) (.er e s) P E ↔ E e s := Iff.rfl
theorem we_bind {r : Res α} {f : α → DS → Res β} : We (r.bind f) Q E ↔ We r (fun a s => We (f a s) Q E) E := by cases r <;> exact Iff.rfl
theorem wp_out {r : Res α} {f : α → DS → Out} : Wp (r.out f) K ↔ We r (fun a s => Wp (f a s) K) K.er := by cases r <;> exact Iff.rfl
theorem wp_nx : Wp (.nx ρ s) K ↔ K.nx ρ s := Iff.rfl
theorem wp_rt {d : D} : Wp (.rt d s) K ↔ K.rt d s := Iff.rfl
theorem wp_er {e : Err} : Wp (.er e s) K ↔ K.er e s := Iff.rfl
/-! ### values -/
theorem we_C {d : D} {P : D → DS → Prop} : We (mC d ρ s) P E ↔ P d s := Iff.rfl
theorem we_name {i : Nat} {P : D → DS → Prop} : We (mName i ρ s) P E ↔ (match ρ[i]? with
  | some (some d) => P d s
  | _ => False) := by
  unfold mName
  cases ρ[i]? with
  | none => exact Iff.rfl
  | some o => cases o <;> exact Iff.rfl
theorem we_nil {P : List D → DS → Prop} : We (mNil ρ s) P E ↔ P [] s := Iff.rfl
theorem we_cons {m : Mr D} {r : Mr (List D)} {P : List D → DS → Prop} : We (mCons m r ρ s) P E ↔ We (m ρ s) (fun x s => We (r ρ s) (fun xs s => P (x :: xs) s) E) E := by
  unfold mCons
  rw [we_bind]
  cases m ρ s with
  | ok a s => exact we_bind
  | er e s => exact Iff.rfl
  | bad => exact Iff.rfl
theorem we_bif {c : Bool} {r : Res α} : We (bif c then r else .bad) P E ↔ c = true ∧ We r P E := by cases c <;> simp [We]
theorem we_ofO {o : Option D} {P : D → DS → Prop} : We (ofO o s) P E ↔ ∃ d, o = some d ∧ P d s := by cases o <;> simp [We, ofO]
theorem we_tup {r : Mr (List D)} {P : D → DS → Prop} : We (mTup r ρ s) P E ↔ We (r ρ s) (fun xs s => sz xs.length = true ∧ P (.tuple xs) s) E := by
  unfold mTup; rw [we_bind]; simp only [we_bif, we_ok]
theorem we_lst {r : Mr (List D)} {P : D → DS → Prop} : We (mLst r ρ s) P E ↔ We (r ρ s) (fun xs s => sz xs.length = true ∧ P (.list xs) s) E := by
  unfold mLst; rw [we_bind]; simp only [we_bif, we_ok]
theorem we_op2 {f : D → D → Option D} {a b : Mr D} {P : D → DS → Prop} : We (mOp2 f a b ρ s) P E ↔ We (a ρ s) (fun x s => We (b ρ s) (fun y s => ∃ d, f x y = some d ∧ P d s) E) E := by
  unfold mOp2; rw [we_bind]; simp only [we_bind, we_ofO]
theorem we_op1 {f : D → Option D} {a : Mr D} {P : D → DS → Prop} : We (mOp1 f a ρ s) P E ↔ We (a ρ s) (fun x s => ∃ d, f x = some d ∧ P d s) E := by
  unfold mOp1; rw [we_bind]; simp only [we_ofO]
theorem we_test {m : Mr D} {P : Bool → DS → Prop} : We (mTest m ρ s) P E ↔ We (m ρ s) (fun d s => ∃ b, d = .bool b ∧ P b s) E := by
  unfold mTest; rw [we_bind]
  cases m ρ s with
  | ok d s => cases d <;> simp [We]
  | er e s => exact Iff.rfl
  | bad => exact Iff.rfl
theorem we_and {a b : Mr Bool} {P : Bool → DS → Prop} : We (mAnd a b ρ s) P E ↔ We (a ρ s) (fun x s => (x = true → We (b ρ s) P E) ∧ (x = false → P false s)) E := by
  unfold mAnd; rw [we_bind]
  cases a ρ s with
  | ok x s => cases x <;> simp [We]
  | er e s => exact Iff.rfl
  | bad => exact Iff.rfl
theorem we_or {a b : Mr Bool} {P : Bool → DS → Prop} : We (mOr a b ρ s) P E ↔ We (a ρ s) (fun x s => (x = true → P true s) ∧ (x = false → We (b ρ s) P E)) E := by
  unfold mOr; rw [we_bind]
  cases a ρ s with
  | ok x s => cases x <;> simp [We]
  | er e s => exact Iff.rfl
  | bad => exact Iff.rfl
theorem we_not {a : Mr Bool} {P : Bool → DS → Prop} : We (mNot a ρ s) P E ↔ We (a ρ s) (fun x s => P (!x) s) E := by
  unfold mNot; rw [we_bind]; simp only [we_ok]
theorem we_if {t : Mr Bool} {a b : Mr D} {P : D → DS → Prop} : We (mIf t a b ρ s) P E ↔ We (t ρ s) (fun x s => (x = true → We (a ρ s) P E) ∧ (x = false → We (b ρ s) P E)) E := by
  unfold mIf; rw [we_bind]
  cases t ρ s with
  | ok x s => cases x <;> simp [We]
  | er e s => exact Iff.rfl
  | bad => exact Iff.rfl
theorem we_andV {a b : Mr D} {P : D → DS → Prop} : We (mAndV a b ρ s) P E ↔ We (a ρ s) (fun d s => ∃ x, d = .bool x ∧ (x = true → We (b ρ s) P E) ∧ (x = false → P (.bool false) s)) E := by
  unfold mAndV; rw [we_bind]
  cases a ρ s with
  | ok d s =>
    cases d with
    | bool x => cases x <;> simp [We]
    | _ => simp [We]
  | er e s => exact Iff.rfl
  | bad => exact Iff.rfl
theorem we_orV {a b : Mr D} {P : D → DS → Prop} : We (mOrV a b ρ s) P E ↔ We (a ρ s) (fun d s => ∃ x, d = .bool x ∧ (x = true → P (.bool true) s) ∧ (x = false → We (b ρ s) P E)) E := by
  unfold mOrV; rw [we_bind]
  cases a ρ s with
  | ok d s =>
    cases d with
    | bool x => cases x <;> simp [We]
    | _ => simp [We]
  | er e s => exact Iff.rfl
  | bad => exact Iff.rfl
theorem we_notV {a : Mr D} {P : D → DS → Prop} : We (mNotV a ρ s) P E ↔ We (a ρ s) (fun d s => ∃ x, d = .bool x ∧ P (.bool !x) s) E := by
  unfold mNotV; rw [we_bind]
  cases a ρ s with
  | ok d s => cases d <;> simp [We]
  | er e s => exact Iff.rfl
  | bad => exact Iff.rfl
theorem we_noPart {P : Option Int → DS → Prop} : We (mNoPart ρ s) P E ↔ P none s := Iff.rfl
theorem we_part {m : Mr D} {P : Option Int → DS → Prop} : We (mPart m ρ s) P E ↔ We (m ρ s) (fun d s => ∃ i, d = .int i ∧ P (some i) s) E := by
  unfold mPart; rw [we_bind]
  cases m ρ s with
  | ok d s => cases d <;> simp [We]
  | er e s => exact Iff.rfl
  | bad => exact Iff.rfl
theorem we_sl {m : Mr D} {l h : Mr (Option Int)} {P : D → DS → Prop} : We (mSl m l h ρ s) P E ↔ We (m ρ s) (fun x s => We (l ρ s) (fun lo s => We (h ρ s) (fun hi s => ∃ d, fSl x lo hi = some d ∧ P d s) E) E) E := by
  unfold mSl; rw [we_bind]; simp only [we_bind, we_ofO]
/-! ### calls -/
theorem we_call {f : Fd} {r : Mr (List D)} {P : D → DS → Prop} : We (mCall f r ρ s) P E ↔ We (r ρ s) (fun ds s => We (f ds) (fun d _ => P d s) (fun e _ => E e s)) E := by
  unfold mCall; rw [we_bind]
  cases r ρ s with
  | ok ds s =>
    show We (match f ds with
      | .ok d _ => .ok d s
      | .er e _ => .er e s
      | .bad => .bad) P E ↔ We (f ds) (fun d _ => P d s) (fun e _ => E e s)
    cases f ds <;> exact Iff.rfl
  | er e s => exact Iff.rfl
  | bad => exact Iff.rfl
theorem we_callS {f : Fg} {r : Mr (List D)} {P : D → DS → Prop} : We (mCallS f r ρ s) P E ↔ We (r ρ s) (fun ds s => We (f ds s) P E) E := we_bind
theorem we_te {r : Mr (List D)} {P : Err → DS → Prop} : We (mTE r ρ s) P E ↔ We (r ρ s) (fun ds s => ∃ n z, ds = [.int n, .str z] ∧ lim n z = true ∧ P (eTE n z) s) E := by
  unfold mTE; rw [we_bind]
  cases r ρ s with
  | ok ds s =>
    show We (match ds with
      | [.int n, .str z] => bif lim n z then .ok (eTE n z) s else .bad
      | _ => .bad) P E ↔ ∃ n z, ds = [.int n, .str z] ∧ lim n z = true ∧ P (eTE n z) s
    split
    · rw [we_bif, we_ok]
      constructor
      · exact fun h => ⟨_, _, rfl, h⟩
      · rintro ⟨n, z, e, h⟩
        cases e; exact h
    · rename_i h
      constructor
      · exact fun z => z.elim
      · rintro ⟨n, z, e, _⟩
        exact (h _ _ e).elim
  | er e s => exact Iff.rfl
  | bad => exact Iff.rfl
def kDef (P : D → DS → Prop) (E : Err → DS → Prop) : Kn := ⟨fun _ s => P .none s, P, fun _ _ => False, fun _ _ => False, E⟩
theorem we_def {n : Nat} {m : Ms} {ds : List D} {P : D → DS → Prop} : We (mDef n m ds) P E ↔ Wp (m (ds.map some ++ List.replicate (n - ds.length) none) DS.d0) (kDef P E) := by
  unfold mDef
  cases m (ds.map some ++ List.replicate (n - ds.length) none) DS.d0 <;> exact Iff.rfl
theorem we_defS {n : Nat} {m : Ms} {ds : List D} {P : D → DS → Prop} : We (mDefS n m ds s) P E ↔ Wp (m (none :: (ds.map some ++ List.replicate (n - 1 - ds.length) none)) s) (kDef P E) := by
  unfold mDefS
  cases m (none :: (ds.map some ++ List.replicate (n - 1 - ds.length) none)) s <;> exact Iff.rfl
/-! ### statements -/
theorem wp_next : Wp (mNext ρ s) K ↔ K.nx ρ s := Iff.rfl
theorem wp_seq {a b : Ms} : Wp (mSeq a b ρ s) K ↔ Wp (a ρ s) { K with nx := fun ρ s => Wp (b ρ s) K } := by
  unfold mSeq
  cases a ρ s <;> exact Iff.rfl
theorem wp_ret {m : Mr D} : Wp (mRet m ρ s) K ↔ We (m ρ s) K.rt K.er := by
  unfold mRet; rw [wp_out]; exact Iff.rfl
theorem wp_set {i : Nat} {m : Mr D} : Wp (mSet i m ρ s) K ↔ We (m ρ s) (fun d s => K.nx (ρ.set i (some d)) s) K.er := by
  unfold mSet; rw [wp_out]; exact Iff.rfl
theorem wp_ifs {t : Mr Bool} {a b : Ms} : Wp (mIfS t a b ρ s) K ↔ We (t ρ s) (fun x s => (x = true → Wp (a ρ s) K) ∧ (x = false → Wp (b ρ s) K)) K.er := by
  unfold mIfS; rw [wp_out]
  cases t ρ s with
  | ok x s => cases x <;> simp [We]
  | er e s => exact Iff.rfl
  | bad => exact Iff.rfl
theorem wp_aug {i : Nat} {f : D → D → Option D} {m : Mr D} : Wp (mAug i f m ρ s) K ↔ ∃ x, ρ[i]? = some (some x) ∧ We (m ρ s) (fun d s => ∃ z, f x d = some z ∧ K.nx (ρ.set i (some z)) s) K.er := by
  unfold mAug
  split
  · rename_i x hx
    rw [wp_out]
    have : ∀ d s, Wp (match f x d with
      | some z => .nx (ρ.set i (some z)) s
      | none => .bad) K ↔ ∃ z, f x d = some z ∧ K.nx (ρ.set i (some z)) s := fun d s => by cases f x d <;> simp [Wp]
    simp only [hx]
    constructor
    · exact fun h => ⟨x, rfl, h.mono (fun d s z => (this d s).mp z) fun _ _ z => z⟩
    · rintro ⟨y, e, h⟩
      cases e; exact h.mono (fun d s z => (this d s).mpr z) fun _ _ z => z
  · rename_i h
    constructor
    · exact fun z => z.elim
    · rintro ⟨x, e, _⟩
      exact (h x e).elim
theorem wp_app {i : Nat} {m : Mr D} : Wp (mApp i m ρ s) K ↔ ∃ ds, ρ[i]? = some (some (.list ds)) ∧ We (m ρ s) (fun d s => sz (ds.length + 1) = true ∧ K.nx (ρ.set i (some (.list (ds ++ [d])))) s) K.er := by
  unfold mApp
  split
  · rename_i ds hx
    rw [wp_out]
    have : ∀ d s, Wp (bif sz (ds.length + 1) then .nx (ρ.set i (some (.list (ds ++ [d])))) s else .bad) K ↔ sz (ds.length + 1) = true ∧ K.nx (ρ.set i (some (.list (ds ++ [d])))) s := fun d s => by cases sz (ds.length + 1) <;> simp [Wp]
    simp only [hx]
    constructor
    · exact fun h => ⟨ds, rfl, h.mono (fun d s z => (this d s).mp z) fun _ _ z => z⟩
    · rintro ⟨y, e, h⟩
      cases e; exact h.mono (fun d s z => (this d s).mpr z) fun _ _ z => z
  · rename_i h
    constructor
    · exact fun z => z.elim
    · rintro ⟨x, e, _⟩
      exact (h x e).elim
theorem wp_raise {m : Mr Err} : Wp (mRaise m ρ s) K ↔ We (m ρ s) K.er K.er := by
  unfold mRaise; rw [wp_out]; exact Iff.rfl
theorem wp_tryTE {m : Mr D} {i : Nat} : Wp (mTryTE m i ρ s) K ↔ We (m ρ s) K.rt (fun e s => e.cls = "TextError" ∧ i < ρ.length ∧ ∃ x y, e.fs.lookup ("place" : Str) = some x ∧ e.fs.lookup ("word" : Str) = some y ∧ K.rt (.list [x, y]) s) := by
  unfold mTryTE
  cases m ρ s with
  | ok d s => exact Iff.rfl
  | bad => exact Iff.rfl
  | er e s =>
    dsimp only [We]
    cases h : (decide (e.cls = "TextError") && decide (i < ρ.length)) with
    | false =>
      constructor
      · exact fun z => z.elim
      · rintro ⟨h1, h2, _⟩
        rw [decide_eq_true h1, decide_eq_true h2] at h
        cases h
    | true =>
      obtain ⟨h1, h2⟩ := Bool.and_eq_true_iff.mp h
      have h1 := of_decide_eq_true h1
      have h2 := of_decide_eq_true h2
      rw [cond_true]
      cases q1 : e.fs.lookup ("place" : Str) with
      | none => simp [Wp]
      | some x =>
        cases q2 : e.fs.lookup ("word" : Str) with
        | none => simp [Wp]
        | some y => simp [Wp, h1, h2]
theorem we_tryD {n z} : (eTE n z).fs.lookup ("place" : Str) = some (.int n) ∧ (eTE n z).fs.lookup ("word" : Str) = some (.str z) ∧ (eTE n z).cls = "TextError" := ⟨rfl, rfl, rfl⟩
/-! ### loops -/
def kLoop (K : Kn) (J : Rho → DS → Prop) : Kn := ⟨J, K.rt, K.nx, J, K.er⟩
theorem Wp.mono {o : Out} {K' : Kn} (h : Wp o K) (h1 : ∀ ρ s, K.nx ρ s → K'.nx ρ s) (h2 : ∀ d s, K.rt d s → K'.rt d s) (h3 : ∀ ρ s, K.bk ρ s → K'.bk ρ s) (h4 : ∀ ρ s, K.ct ρ s → K'.ct ρ s) (h5 : ∀ e s, K.er e s → K'.er e s) : Wp o K' := by
  cases o with
  | nx ρ s => exact h1 _ _ h
  | rt ρ s => exact h2 _ _ h
  | bk ρ s => exact h3 _ _ h
  | ct ρ s => exact h4 _ _ h
  | er ρ s => exact h5 _ _ h
  | bad => exact h
theorem wp_while {c : Mr Bool} {b : Ms} {n : Nat} : Wp (mWhile c b (n + 1) ρ s) K ↔ We (c ρ s) (fun x s => (x = true → Wp (b ρ s) (kLoop K fun ρ s => Wp (mWhile c b n ρ s) K)) ∧ (x = false → K.nx ρ s)) K.er := by
  show Wp ((c ρ s).out _) K ↔ _
  rw [wp_out]
  cases c ρ s with
  | er e s => exact Iff.rfl
  | bad => exact Iff.rfl
  | ok x s =>
    cases x with
    | false => simp [We, Wp]
    | true =>
      simp only [We, cond_true, true_implies, reduceCtorEq, false_implies, and_true]
      cases b ρ s <;> exact Iff.rfl
theorem wp_loop_nil {g : Gt} {b : Ms} : Wp (mLoop g b [] ρ s) K ↔ K.nx ρ s := Iff.rfl
theorem wp_loop_cons {g : Gt} {b : Ms} {d : D} {ds : List D} : Wp (mLoop g b (d :: ds) ρ s) K ↔ ∃ ρ', g d ρ = some ρ' ∧ Wp (b ρ' s) (kLoop K fun ρ s => Wp (mLoop g b ds ρ s) K) := by
  show Wp (match g d ρ with
    | none => .bad
    | some ρ => match b ρ s with
      | .nx ρ s => mLoop g b ds ρ s
      | .ct ρ s => mLoop g b ds ρ s
      | .bk ρ s => .nx ρ s
      | o => o) K ↔ _
  cases g d ρ with
  | none => simp [Wp]
  | some ρ1 =>
    simp only [Option.some.injEq, exists_eq_left']
    cases b ρ1 s <;> exact Iff.rfl
theorem wp_loop_inv {g : Gt} {b : Ms} {ds : List D} (I : Nat → Rho → DS → Prop) (h0 : I 0 ρ s) (step : ∀ k d ρ s, ds[k]? = some d → I k ρ s → ∃ ρ', g d ρ = some ρ' ∧ Wp (b ρ' s) (kLoop K (I (k + 1)))) (hend : ∀ ρ s, I ds.length ρ s → K.nx ρ s) : Wp (mLoop g b ds ρ s) K := by
  induction ds generalizing I ρ s with
  | nil => exact hend _ _ h0
  | cons d ds ih =>
    rw [wp_loop_cons]
    obtain ⟨ρ', h1, h2⟩ := step 0 d ρ s rfl h0
    refine ⟨ρ', h1, h2.mono (fun ρ s h => ?_) (fun _ _ h => h) (fun _ _ h => h) (fun ρ s h => ?_) fun _ _ h => h⟩
    · exact ih (fun k => I (k + 1)) h (fun k d' ρ s hd hi => step (k + 1) d' ρ s hd hi) hend
    · exact ih (fun k => I (k + 1)) h (fun k d' ρ s hd hi => step (k + 1) d' ρ s hd hi) hend
theorem we_cnil {g : Gt} {mt : Mr Bool} {me : Mr D} {acc : List D} {P : D → DS → Prop} : We (cLoop g mt me ρ [] acc s) P E ↔ P (.list acc) s := Iff.rfl
theorem we_nb {r : Res α} : We r.nb P E ↔ We r P (fun _ _ => False) := by cases r <;> exact Iff.rfl
theorem we_ccons {g : Gt} {mt : Mr Bool} {me : Mr D} {d : D} {ds acc : List D} {P : D → DS → Prop} : We (cLoop g mt me ρ (d :: ds) acc s) P E ↔ ∃ ρ1, g d ρ = some ρ1 ∧ We (mt ρ1 s) (fun x s => (x = true → We (me ρ1 s) (fun y s => sz (acc.length + 1) = true ∧ We (cLoop g mt me ρ ds (acc ++ [y]) s) P E) (fun _ _ => False)) ∧ (x = false → We (cLoop g mt me ρ ds acc s) P E)) (fun _ _ => False) := by
  show We (match g d ρ with
    | none => .bad
    | some ρ1 => (mt ρ1 s).nb.bind fun b s => bif b then (me ρ1 s).nb.bind fun y s => bif sz (acc.length + 1) then cLoop g mt me ρ ds (acc ++ [y]) s else .bad else cLoop g mt me ρ ds acc s) P E ↔ _
  cases g d ρ with
  | none => simp [We]
  | some ρ1 =>
    simp only [Option.some.injEq, exists_eq_left', we_bind, we_nb]
    cases mt ρ1 s with
    | er e s => exact Iff.rfl
    | bad => exact Iff.rfl
    | ok x s =>
      cases x with
      | false => simp [We]
      | true =>
        simp only [We, cond_true, true_implies, reduceCtorEq, false_implies, and_true, we_bind, we_nb, we_bif]
        cases me ρ1 s with
        | er e s => exact Iff.rfl
        | bad => exact Iff.rfl
        | ok y s => exact we_bif
theorem we_comp {mi : Mr (List D)} {vs : List Nat} {g : Gt} {mt : Mr Bool} {me : Mr D} {P : D → DS → Prop} : We (mComp mi vs g mt me ρ s) P E ↔ We (mi ρ s) (fun ds s => We (cLoop g mt me (wipeR ρ vs) ds [] s) P E) E := by
  unfold mComp; rw [we_bind]
theorem we_yes {P : Bool → DS → Prop} : We (mYes ρ s) P E ↔ P true s := Iff.rfl
theorem we_rng1 {r : Mr (List D)} {P : List D → DS → Prop} : We (mRng1 r ρ s) P E ↔ We (r ρ s) (fun ds s => ∃ j, ds = [.int j] ∧ (-(2 ^ 62) ≤ j ∧ j < 2 ^ 62) ∧ P (rangeD 0 j.toNat) s) E := by
  unfold mRng1; rw [we_bind]
  cases r ρ s with
  | er e s => exact Iff.rfl
  | bad => exact Iff.rfl
  | ok ds s =>
    show We (match ds with
      | [.int j] => bif decide (-(2 ^ 62) ≤ j ∧ j < 2 ^ 62) then .ok (rangeD 0 j.toNat) s else .bad
      | _ => .bad) P E ↔ ∃ j, ds = [.int j] ∧ (-(2 ^ 62) ≤ j ∧ j < 2 ^ 62) ∧ P (rangeD 0 j.toNat) s
    split
    · rw [we_bif, we_ok, decide_eq_true_eq]
      constructor
      · exact fun h => ⟨_, rfl, h⟩
      · rintro ⟨j, e, h⟩
        cases e; exact h
    · rename_i h
      constructor
      · exact fun z => z.elim
      · rintro ⟨j, e, _⟩
        exact (h _ e).elim
/-! ### draws -/
theorem we_draw {l : Int} {P : D → DS → Prop} (hs : 0 ≤ s.pos) (hl : 0 < l) (h2 : l < 1073741824) (h : ∀ i s', 0 ≤ i → i < l → 0 ≤ s'.pos → P (.int i) s') : We (draw [.int l] s) P E := by
  obtain ⟨i, s', e, h3, h4, h5⟩ := draw_ok l hl h2 s hs
  rw [e]
  exact h i s' h3 h4 h5
theorem wp_for {mi : Mr (List D)} {g : Gt} {b : Ms} : Wp (mFor mi g b ρ s) K ↔ We (mi ρ s) (fun ds s => Wp (mLoop g b ds ρ s) K) K.er := by
  unfold mFor; rw [wp_out]
theorem we_items {m : Mr D} {P : List D → DS → Prop} : We (mItems m ρ s) P E ↔ We (m ρ s) (fun d s => ∃ ds, d = .list ds ∧ P ds s) E := by
  unfold mItems; rw [we_bind]
  cases m ρ s with
  | ok d s => cases d <;> simp [We]
  | er e s => exact Iff.rfl
  | bad => exact Iff.rfl
theorem we_itemsT {m : Mr D} {P : List D → DS → Prop} : We (mItemsT m ρ s) P E ↔ We (m ρ s) (fun d s => ∃ ds, d = .tuple ds ∧ P ds s) E := by
  unfold mItemsT; rw [we_bind]
  cases m ρ s with
  | ok d s => cases d <;> simp [We]
  | er e s => exact Iff.rfl
  | bad => exact Iff.rfl
end
end M
set_option maxRecDepth 100000
set_option maxHeartbeats 4000000
/-! The mirror layer, part 14: texts as lists of numbers, equal data. -/
namespace M
open PySem L2
abbrev S (l : List Nat) : Str := ⟨⟨l⟩⟩
theorem sz_le {n : Nat} (h : n ≤ 16777216) : sz n = true := decide_eq_true (by rw [sizeLine_eq]; exact h)
theorem len_S (l : List Nat) : (S l).length = l.length := rfl
theorem app_S (a b : List Nat) : S a ++ S b = S (a ++ b) := by
  show (⟨(⟨a⟩ : Array Nat) ++ ⟨b⟩⟩ : Str) = S (a ++ b)
  simp
theorem S_inj {a b : List Nat} : S a = S b ↔ a = b := by simp
theorem S_eta (x : Str) : x = S x.cps.toList := rfl
theorem fLen_S {l : List Nat} (h : l.length ≤ 16777216) : fLen (PyData.str (S l)) = some (PyData.int l.length) := by
  show (bif sz (S l).length then some (PyData.int (S l).length) else none) = _
  rw [len_S, sz_le h]; rfl
theorem fLen_L {l : List D} : fLen (PyData.list l) = some (PyData.int l.length) := rfl
theorem fLen_T {l : List D} : fLen (PyData.tuple l) = some (PyData.int l.length) := rfl
theorem fIx_S {l : List Nat} {i : Nat} {c : Nat} (h : l.length ≤ 16777216) (hi : l[i]? = some c) : fIx (PyData.str (S l)) (PyData.int i) = some (PyData.str (S [c])) := by
  show (bif sz (S l).length then (atI l i).map fun c => PyData.str ⟨#[c]⟩ else none) = _
  rw [len_S, sz_le h, atI_nat hi]; rfl
theorem fIx_L {l : List D} {i : Nat} {c : D} (hi : l[i]? = some c) : fIx (PyData.list l) (PyData.int i) = some c := atI_nat hi
theorem fIx_T {l : List D} {i : Nat} {c : D} (hi : l[i]? = some c) : fIx (PyData.tuple l) (PyData.int i) = some c := atI_nat hi
theorem fIn_S {c : Nat} {l : List Nat} : fIn (PyData.str (S [c])) (PyData.str (S l)) = some (PyData.bool (decide (c ∈ l))) := rfl
theorem fAdd_S {a b : List Nat} (h : a.length + b.length ≤ 16777216) : fAdd (PyData.str (S a)) (PyData.str (S b)) = some (PyData.str (S (a ++ b))) := by
  show (bif sz ((S a).length + (S b).length) then some (PyData.str (S a ++ S b)) else none) = _
  rw [len_S, len_S, sz_le h, app_S]; rfl
theorem fAdd_L {a b : List D} (h : a.length + b.length ≤ 16777216) : fAdd (PyData.list a) (PyData.list b) = some (PyData.list (a ++ b)) := by
  show (bif sz (a.length + b.length) then some (PyData.list (a ++ b)) else none) = _
  rw [sz_le h]; rfl
theorem fAdd_I {a b : Int} : fAdd (PyData.int a) (PyData.int b) = some (PyData.int (a + b)) := rfl
theorem fAddI_I {a b : Int} : fAddI (PyData.int a) (PyData.int b) = some (PyData.int (a + b)) := rfl
theorem fSub_I {a b : Int} : fSub (PyData.int a) (PyData.int b) = some (PyData.int (a - b)) := rfl
theorem fNeg_I {a : Int} : fNeg (PyData.int a) = some (PyData.int (-a)) := rfl
theorem fLt_I {a b : Int} : fLt (PyData.int a) (PyData.int b) = some (PyData.bool (decide (a < b))) := rfl
theorem fLe_I {a b : Int} : fLe (PyData.int a) (PyData.int b) = some (PyData.bool (decide (a ≤ b))) := rfl
theorem fGt_I {a b : Int} : fGt (PyData.int a) (PyData.int b) = some (PyData.bool (decide (b < a))) := rfl
theorem fGe_I {a b : Int} : fGe (PyData.int a) (PyData.int b) = some (PyData.bool (decide (b ≤ a))) := rfl
theorem beq_dec {α : Type} [DecidableEq α] (a b : α) : (a == b) = decide (a = b) := rfl
theorem fEq_I {a b : Int} : fEq (PyData.int a) (PyData.int b) = some (PyData.bool (decide (a = b))) := by
  show some (PyData.bool (PyData.eqv (PyData.int a) (PyData.int b))) = _
  rw [PyData.eqv]; rfl
theorem fNe_I {a b : Int} : fNe (PyData.int a) (PyData.int b) = some (PyData.bool (!decide (a = b))) := by
  show some (PyData.bool (!PyData.eqv (PyData.int a) (PyData.int b))) = _
  rw [PyData.eqv]; rfl
theorem fEq_S {a b : Str} : fEq (PyData.str a) (PyData.str b) = some (PyData.bool (decide (a = b))) := by
  show some (PyData.bool (PyData.eqv (PyData.str a) (PyData.str b))) = _
  rw [PyData.eqv]
  congr 2
theorem fNe_S {a b : Str} : fNe (PyData.str a) (PyData.str b) = some (PyData.bool (!decide (a = b))) := by
  show some (PyData.bool (!PyData.eqv (PyData.str a) (PyData.str b))) = _
  rw [PyData.eqv]
  congr 3
theorem fSl_S {l : List Nat} {a b : Nat} (h : l.length ≤ 16777216) : fSl (PyData.str (S l)) (some (a : Int)) (some (b : Int)) = some (PyData.str (S ((l.drop (min a l.length)).take (min b l.length - min a l.length)))) := by
  show (bif sz (S l).length then some (PyData.str (cutS (S l) _ _)) else none) = _
  rw [len_S, sz_le h]
  unfold cutS
  rw [HT.sIx_nat, HT.sIx_nat]
  rfl
/-! ### data that is compared -/
def OkD (n : Nat) (d : D) : Prop := d.canLay0 = true ∧ d.depth ≤ n
theorem OkD.int {n : Nat} {i : Int} : OkD n (PyData.int i) := ⟨by simp [PyData.canLay0], by simp [PyData.depth]⟩
theorem OkD.none {n : Nat} : OkD n PyData.none := ⟨by simp [PyData.canLay0], by simp [PyData.depth]⟩
theorem OkD.bool {n : Nat} {i : Bool} : OkD n (PyData.bool i) := ⟨by simp [PyData.canLay0], by simp [PyData.depth]⟩
theorem OkD.str {n : Nat} {x : Str} (h : PyData.strOk x = true) : OkD n (PyData.str x) := ⟨by simpa [PyData.canLay0] using h, by simp [PyData.depth]⟩
theorem okAll {n : Nat} : ∀ {l : List D}, (∀ d ∈ l, OkD n d) → PyData.canLayAll0 l = true ∧ PyData.depthAll l ≤ n
  | [], _ => ⟨by simp [PyData.canLayAll0], by simp [PyData.depthAll]⟩
  | d :: l, h => by
    obtain ⟨h1, h2⟩ := h d (List.mem_cons_self ..)
    obtain ⟨h3, h4⟩ := okAll (l := l) fun x hx => h x (List.mem_cons_of_mem _ hx)
    exact ⟨by simp [PyData.canLayAll0, h1, h3], by simp only [PyData.depthAll]; omega⟩
theorem OkD.list {n : Nat} {l : List D} (h : ∀ d ∈ l, OkD n d) : OkD (n + 1) (PyData.list l) := by
  obtain ⟨h1, h2⟩ := okAll h
  exact ⟨by simpa [PyData.canLay0] using h1, by simp only [PyData.depth]; omega⟩
theorem OkD.tuple {n : Nat} {l : List D} (h : ∀ d ∈ l, OkD n d) : OkD (n + 1) (PyData.tuple l) := by
  obtain ⟨h1, h2⟩ := okAll h
  exact ⟨by simpa [PyData.canLay0] using h1, by simp only [PyData.depth]; omega⟩
theorem OkD.shaped {d : D} (h : OkD 64 d) : SeqAt.shaped d = true := by
  unfold SeqAt.shaped
  rw [h.1, decide_eq_true h.2]; rfl
theorem OkD.refl {n : Nat} {d : D} (h : OkD n d) : PyData.eqv d d = true := SeqAt.eqv_refl d h.1
theorem fEq_D {a b : D} (ha : OkD 64 a) (hb : OkD 64 b) : fEq a b = some (PyData.bool (PyData.eqv a b)) := by
  unfold fEq
  rw [ha.shaped, hb.shaped, Bool.and_self, Bool.or_true]; rfl
theorem fNe_D {a b : D} (ha : OkD 64 a) (hb : OkD 64 b) : fNe a b = some (PyData.bool (!PyData.eqv a b)) := by
  unfold fNe
  rw [ha.shaped, hb.shaped, Bool.and_self, Bool.or_true]; rfl
theorem fEq_same {a : D} (ha : OkD 64 a) : fEq a a = some (PyData.bool true) := by rw [fEq_D ha ha, ha.refl]
theorem fNe_same {a : D} (ha : OkD 64 a) : fNe a a = some (PyData.bool false) := by rw [fNe_D ha ha, ha.refl]; rfl
end M
set_option maxRecDepth 100000
set_option maxHeartbeats 4000000
namespace M
open PySem L2
/-! ### the text -/
def top (i : Nat) : Stmt := PySem.Challenge.pw_someoneleft_k17_whole_tokens_of_books.main.body.getD i (.Pass ⟨0, 0, 0, 0⟩)
abbrev s__end_of : Stmt := top 9
abbrev s__word_at : Stmt := top 10
abbrev s__number_at : Stmt := top 11
abbrev s__behind_remark : Stmt := top 12
abbrev s_tokens_of : Stmt := top 13
abbrev s__law_state : Stmt := top 15
abbrev s__law_draw : Stmt := top 16
abbrev s__law_told : Stmt := top 17
abbrev s__law_word : Stmt := top 18
abbrev s__law_gap : Stmt := top 19
abbrev s_law : Stmt := top 20
/-- what stands behind the top -/
structure Tx (B : Gb) (C fI : Addr) : Prop where
  te : TE.Txt B.P B.K B.mg C fI
  c_FIGURES : ∃ t, B.mg "FIGURES" = some (.str ("0123456789" : Str) t)
  c_LETTERS : ∃ t, B.mg "LETTERS" = some (.str ("abcdefghijklmnopqrstuvwxyz" : Str) t)
  c_MOST_FIGURES : ∃ t, B.mg "MOST_FIGURES" = some (.int 2 t)
  c_MOST_NAME : ∃ t, B.mg "MOST_NAME" = some (.int 12 t)
  c_SIGNS : ∃ t, B.mg "SIGNS" = some (.str ("=,;:|-" : Str) t)
  b_int : B.mg "int" = none
  b_len : B.mg "len" = none
  b_list : B.mg "list" = none
  b_range : B.mg "range" = none
  b_str : B.mg "str" = none
def FU : Nat := 100000
section
variable {B : Gb} {C fI : Addr}
theorem sc__end_of : FnScope ["text", "at", "allowed"] ["text", "at", "allowed"] (defScope s__end_of) := ⟨rfl, rfl, rfl, by decide +kernel, rfl, by decide +kernel, by decide +kernel⟩
def m__end_of : Ms := mSeq (mWhile (mAnd (mTest (mOp2 fLt (mName 1) (mOp1 fLen (mName 0)))) (mTest (mOp2 fIn (mOp2 fIx (mName 0) (mName 1)) (mName 2)))) (mAug 1 fAddI (mC (.int 1))) FU) (mRet (mName 1))
def d__end_of : Fd := mDef 3 m__end_of
theorem ok__end_of (T : Tx B C fI) {f : Addr} {fd : FuncData} (F : Fun B.K "_end_of" "_end_of" s__end_of f fd) (hm : B.mg "_end_of" = some (.ref f)) (hb : Binds B.K fd ["text", "at", "allowed"] []) : Fn B "_end_of" 1 3 d__end_of :=
  Fn.of F hm sc__end_of rfl hb (fun E => (MSs.cons (MS.whl FU (MW.t (MW.and (MT.lt (ME.b (ME.name 1 rfl (Or.inl rfl) (by decide) (by decide) (by decide))) (ME.b (ME.len rfl T.b_len (ME.b (ME.name 0 rfl (Or.inl rfl) (by decide) (by decide) (by decide))) (fun _ => rfl)))) (MW.and1 (MT.inS (ME.b (ME.ix (ME.b (ME.name 0 rfl (Or.inl rfl) (by decide) (by decide) (by decide))) (ME.b (ME.name 1 rfl (Or.inl rfl) (by decide) (by decide) (by decide))) (fun _ _ => rfl))) (ME.b (ME.name 2 rfl (Or.inl rfl) (by decide) (by decide) (by decide))) rfl)))) (MSs.one (MS.augAdd 1 rfl (Or.inl rfl) (by decide) (ne_st rfl) (ME.b (ME.cint))))) (MSs.one (MS.ret (ME.name 1 rfl (Or.inl rfl) (by decide) (by decide) (by decide)))) : MSs (gaOf B ["text", "at", "allowed"] (defScope s__end_of) 0 E) [] [] [] (defBody s__end_of) m__end_of))
theorem sc__word_at : FnScope ["text", "at", "end"] ["text", "at"] (defScope s__word_at) := ⟨rfl, rfl, rfl, by decide +kernel, rfl, by decide +kernel, by decide +kernel⟩
def m__word_at : Ms := mSeq (mSet 2 (mCall d__end_of (mCons (mName 0) (mCons (mName 1) (mCons (mOp2 fAdd (mC (.str ("abcdefghijklmnopqrstuvwxyz" : Str))) (mC (.str ("0123456789" : Str)))) (mNil)))))) (mSeq (mIfS (mTest (mOp2 fGt (mOp2 fSub (mName 2) (mName 1)) (mC (.int 12)))) (mRaise (mTE (mCons (mName 1) (mCons (mC (.str ("name" : Str))) (mNil))))) (mNext)) (mRet (mTup (mCons (mC (.str ("word" : Str))) (mCons (mSl (mName 0) (mPart (mName 1)) (mPart (mName 2))) (mCons (mName 1) (mNil)))))))
def d__word_at : Fd := mDef 3 m__word_at
theorem ok__word_at (T : Tx B C fI) (f__end_of : Fn B "_end_of" 1 3 d__end_of) {f : Addr} {fd : FuncData} (F : Fun B.K "_word_at" "_word_at" s__word_at f fd) (hm : B.mg "_word_at" = some (.ref f)) (hb : Binds B.K fd ["text", "at"] []) : Fn B "_word_at" 2 2 d__word_at :=
  Fn.of F hm sc__word_at rfl hb (fun E => (MSs.cons (MS.set 2 rfl (Or.inl rfl) (by decide) (ne_st rfl) (ME.call f__end_of (Nat.le_of_ble_eq_true rfl) rfl (mCons_len (mCons_len (mCons_len (mNil_len)))) (by decide) (MA.cons (ME.name 0 rfl (Or.inl rfl) (by decide) (by decide) (by decide)) (MA.cons (ME.name 1 rfl (Or.inl rfl) (by decide) (by decide) (by decide)) (MA.cons (ME.add (ME.b (ME.globS rfl T.c_LETTERS (by decide))) (ME.b (ME.globS rfl T.c_FIGURES (by decide)))) (MA.nil) (fun _ => rfl)) (fun _ => rfl)) (fun _ => rfl)) (fun _ => rfl) (fun _ => rfl)) (fun _ => rfl)) (MSs.cons (MS.ifs (MT.gt (ME.b (ME.sub (ME.b (ME.name 2 rfl (Or.inl rfl) (by decide) (by decide) (by decide))) (ME.b (ME.name 1 rfl (Or.inl rfl) (by decide) (by decide) (by decide))))) (ME.b (ME.globI rfl T.c_MOST_NAME (by decide)))) (MSs.one (MS.raise (MX.te T.te (k := 0) (Nat.le_of_ble_eq_true rfl) rfl (MA.cons (ME.name 1 rfl (Or.inl rfl) (by decide) (by decide) (by decide)) (MA.cons (ME.cstr) (MA.nil) (fun _ => rfl)) (fun _ => rfl)) (fun _ => rfl) (fun _ => rfl)))) (MSs.nil)) (MSs.one (MS.ret (ME.tup (MA.cons (ME.cstr) (MA.cons (ME.slice (ME.b (ME.name 0 rfl (Or.inl rfl) (by decide) (by decide) (by decide))) (MO.some (ME.name 1 rfl (Or.inl rfl) (by decide) (by decide) (by decide))) (MO.some (ME.name 2 rfl (Or.inl rfl) (by decide) (by decide) (by decide)))) (MA.cons (ME.name 1 rfl (Or.inl rfl) (by decide) (by decide) (by decide)) (MA.nil) (fun _ => rfl)) (fun _ => rfl)) (fun _ => rfl)))))) : MSs (gaOf B ["text", "at", "end"] (defScope s__word_at) 1 E) [] [] [] (defBody s__word_at) m__word_at))
theorem sc__number_at : FnScope ["text", "at", "end"] ["text", "at"] (defScope s__number_at) := ⟨rfl, rfl, rfl, by decide +kernel, rfl, by decide +kernel, by decide +kernel⟩
def m__number_at : Ms := mSeq (mSet 2 (mCall d__end_of (mCons (mName 0) (mCons (mName 1) (mCons (mC (.str ("0123456789" : Str))) (mNil)))))) (mSeq (mIfS (mOr (mTest (mOp2 fGt (mOp2 fSub (mName 2) (mName 1)) (mC (.int 2)))) (mTest (mOp2 fNe (mOp1 fStr (mOp1 fInt (mSl (mName 0) (mPart (mName 1)) (mPart (mName 2))))) (mSl (mName 0) (mPart (mName 1)) (mPart (mName 2)))))) (mRaise (mTE (mCons (mName 1) (mCons (mC (.str ("number" : Str))) (mNil))))) (mNext)) (mRet (mTup (mCons (mC (.str ("number" : Str))) (mCons (mOp1 fInt (mSl (mName 0) (mPart (mName 1)) (mPart (mName 2)))) (mCons (mName 1) (mNil)))))))
def d__number_at : Fd := mDef 3 m__number_at
theorem ok__number_at (T : Tx B C fI) (f__end_of : Fn B "_end_of" 1 3 d__end_of) {f : Addr} {fd : FuncData} (F : Fun B.K "_number_at" "_number_at" s__number_at f fd) (hm : B.mg "_number_at" = some (.ref f)) (hb : Binds B.K fd ["text", "at"] []) : Fn B "_number_at" 2 2 d__number_at :=
  Fn.of F hm sc__number_at rfl hb (fun E => (MSs.cons (MS.set 2 rfl (Or.inl rfl) (by decide) (ne_st rfl) (ME.call f__end_of (Nat.le_of_ble_eq_true rfl) rfl (mCons_len (mCons_len (mCons_len (mNil_len)))) (by decide) (MA.cons (ME.name 0 rfl (Or.inl rfl) (by decide) (by decide) (by decide)) (MA.cons (ME.name 1 rfl (Or.inl rfl) (by decide) (by decide) (by decide)) (MA.cons (ME.globS rfl T.c_FIGURES (by decide)) (MA.nil) (fun _ => rfl)) (fun _ => rfl)) (fun _ => rfl)) (fun _ => rfl) (fun _ => rfl)) (fun _ => rfl)) (MSs.cons (MS.ifs (MW.t (MW.or (MT.gt (ME.b (ME.sub (ME.b (ME.name 2 rfl (Or.inl rfl) (by decide) (by decide) (by decide))) (ME.b (ME.name 1 rfl (Or.inl rfl) (by decide) (by decide) (by decide))))) (ME.b (ME.globI rfl T.c_MOST_FIGURES (by decide)))) (MW.or1 (MT.ne (ME.b (ME.str rfl T.b_str (ME.b (ME.int rfl T.b_int (ME.b (ME.slice (ME.b (ME.name 0 rfl (Or.inl rfl) (by decide) (by decide) (by decide))) (MO.some (ME.name 1 rfl (Or.inl rfl) (by decide) (by decide) (by decide))) (MO.some (ME.name 2 rfl (Or.inl rfl) (by decide) (by decide) (by decide))))) (fun _ => rfl))) (fun _ => rfl))) (ME.b (ME.slice (ME.b (ME.name 0 rfl (Or.inl rfl) (by decide) (by decide) (by decide))) (MO.some (ME.name 1 rfl (Or.inl rfl) (by decide) (by decide) (by decide))) (MO.some (ME.name 2 rfl (Or.inl rfl) (by decide) (by decide) (by decide))))))))) (MSs.one (MS.raise (MX.te T.te (k := 0) (Nat.le_of_ble_eq_true rfl) rfl (MA.cons (ME.name 1 rfl (Or.inl rfl) (by decide) (by decide) (by decide)) (MA.cons (ME.cstr) (MA.nil) (fun _ => rfl)) (fun _ => rfl)) (fun _ => rfl) (fun _ => rfl)))) (MSs.nil)) (MSs.one (MS.ret (ME.tup (MA.cons (ME.cstr) (MA.cons (ME.int rfl T.b_int (ME.b (ME.slice (ME.b (ME.name 0 rfl (Or.inl rfl) (by decide) (by decide) (by decide))) (MO.some (ME.name 1 rfl (Or.inl rfl) (by decide) (by decide) (by decide))) (MO.some (ME.name 2 rfl (Or.inl rfl) (by decide) (by decide) (by decide))))) (fun _ => rfl)) (MA.cons (ME.name 1 rfl (Or.inl rfl) (by decide) (by decide) (by decide)) (MA.nil) (fun _ => rfl)) (fun _ => rfl)) (fun _ => rfl)))))) : MSs (gaOf B ["text", "at", "end"] (defScope s__number_at) 1 E) [] [] [] (defBody s__number_at) m__number_at))
theorem sc__behind_remark : FnScope ["text", "at"] ["text", "at"] (defScope s__behind_remark) := ⟨rfl, rfl, rfl, by decide +kernel, rfl, by decide +kernel, by decide +kernel⟩
def m__behind_remark : Ms := mSeq (mWhile (mAnd (mTest (mOp2 fLt (mName 1) (mOp1 fLen (mName 0)))) (mTest (mOp2 fNe (mOp2 fIx (mName 0) (mName 1)) (mC (.str ("\n" : Str)))))) (mAug 1 fAddI (mC (.int 1))) FU) (mRet (mName 1))
def d__behind_remark : Fd := mDef 2 m__behind_remark
theorem ok__behind_remark (T : Tx B C fI) {f : Addr} {fd : FuncData} (F : Fun B.K "_behind_remark" "_behind_remark" s__behind_remark f fd) (hm : B.mg "_behind_remark" = some (.ref f)) (hb : Binds B.K fd ["text", "at"] []) : Fn B "_behind_remark" 1 2 d__behind_remark :=
  Fn.of F hm sc__behind_remark rfl hb (fun E => (MSs.cons (MS.whl FU (MW.t (MW.and (MT.lt (ME.b (ME.name 1 rfl (Or.inl rfl) (by decide) (by decide) (by decide))) (ME.b (ME.len rfl T.b_len (ME.b (ME.name 0 rfl (Or.inl rfl) (by decide) (by decide) (by decide))) (fun _ => rfl)))) (MW.and1 (MT.ne (ME.b (ME.ix (ME.b (ME.name 0 rfl (Or.inl rfl) (by decide) (by decide) (by decide))) (ME.b (ME.name 1 rfl (Or.inl rfl) (by decide) (by decide) (by decide))) (fun _ _ => rfl))) (ME.b (ME.cstr)))))) (MSs.one (MS.augAdd 1 rfl (Or.inl rfl) (by decide) (ne_st rfl) (ME.b (ME.cint))))) (MSs.one (MS.ret (ME.name 1 rfl (Or.inl rfl) (by decide) (by decide) (by decide)))) : MSs (gaOf B ["text", "at"] (defScope s__behind_remark) 0 E) [] [] [] (defBody s__behind_remark) m__behind_remark))
theorem sc_tokens_of : FnScope ["text", "found", "at", "sign"] ["text"] (defScope s_tokens_of) := ⟨rfl, rfl, rfl, by decide +kernel, rfl, by decide +kernel, by decide +kernel⟩
def m_tokens_of : Ms := mSeq (mSet 1 (mLst (mNil))) (mSeq (mSet 2 (mC (.int 0))) (mSeq (mWhile (mTest (mOp2 fLt (mName 2) (mOp1 fLen (mName 0)))) (mSeq (mSet 3 (mOp2 fIx (mName 0) (mName 2))) (mIfS (mTest (mOp2 fIn (mName 3) (mC (.str (" \n" : Str))))) (mAug 2 fAddI (mC (.int 1))) (mIfS (mTest (mOp2 fEq (mName 3) (mC (.str ("#" : Str))))) (mSet 2 (mCall d__behind_remark (mCons (mName 0) (mCons (mName 2) (mNil))))) (mIfS (mTest (mOp2 fIn (mName 3) (mC (.str ("abcdefghijklmnopqrstuvwxyz" : Str))))) (mSeq (mApp 1 (mCall d__word_at (mCons (mName 0) (mCons (mName 2) (mNil))))) (mAug 2 fAddI (mOp1 fLen (mOp2 fIx (mOp2 fIx (mName 1) (mOp1 fNeg (mC (.int 1)))) (mC (.int 1)))))) (mIfS (mTest (mOp2 fIn (mName 3) (mC (.str ("0123456789" : Str))))) (mSeq (mApp 1 (mCall d__number_at (mCons (mName 0) (mCons (mName 2) (mNil))))) (mAug 2 fAddI (mOp1 fLen (mOp1 fStr (mOp2 fIx (mOp2 fIx (mName 1) (mOp1 fNeg (mC (.int 1)))) (mC (.int 1))))))) (mIfS (mTest (mOp2 fIn (mName 3) (mC (.str ("=,;:|-" : Str))))) (mSeq (mApp 1 (mTup (mCons (mC (.str ("sign" : Str))) (mCons (mName 3) (mCons (mName 2) (mNil)))))) (mAug 2 fAddI (mC (.int 1)))) (mRaise (mTE (mCons (mName 2) (mCons (mC (.str ("sign" : Str))) (mNil))))))))))) FU) (mSeq (mApp 1 (mTup (mCons (mC (.str ("end" : Str))) (mCons (mC (.str ("" : Str))) (mCons (mOp1 fLen (mName 0)) (mNil)))))) (mRet (mName 1)))))
def d_tokens_of : Fd := mDef 4 m_tokens_of
theorem ok_tokens_of (T : Tx B C fI) (f__behind_remark : Fn B "_behind_remark" 1 2 d__behind_remark) (f__word_at : Fn B "_word_at" 2 2 d__word_at) (f__number_at : Fn B "_number_at" 2 2 d__number_at) {f : Addr} {fd : FuncData} (F : Fun B.K "tokens_of" "tokens_of" s_tokens_of f fd) (hm : B.mg "tokens_of" = some (.ref f)) (hb : Binds B.K fd ["text"] []) : Fn B "tokens_of" 3 1 d_tokens_of :=
  Fn.of F hm sc_tokens_of rfl hb (fun E => (MSs.cons (MS.newL 1 rfl (Or.inl rfl) (by decide) (ne_st rfl) (MA.nil) (fun _ => rfl)) (MSs.cons (MS.set 2 rfl (Or.inl rfl) (by decide) (ne_st rfl) (ME.cint) (fun _ => rfl)) (MSs.cons (MS.whl FU (MT.lt (ME.b (ME.name 2 rfl (Or.inl rfl) (by decide) (by decide) (by decide))) (ME.b (ME.len rfl T.b_len (ME.b (ME.name 0 rfl (Or.inl rfl) (by decide) (by decide) (by decide))) (fun _ => rfl)))) (MSs.cons (MS.set 3 rfl (Or.inl rfl) (by decide) (ne_st rfl) (ME.ix (ME.b (ME.name 0 rfl (Or.inl rfl) (by decide) (by decide) (by decide))) (ME.b (ME.name 2 rfl (Or.inl rfl) (by decide) (by decide) (by decide))) (fun _ _ => rfl)) (fun _ => rfl)) (MSs.one (MS.ifs (MT.inS (ME.b (ME.name 3 rfl (Or.inl rfl) (by decide) (by decide) (by decide))) (ME.b (ME.cstr)) rfl) (MSs.one (MS.augAdd 2 rfl (Or.inl rfl) (by decide) (ne_st rfl) (ME.b (ME.cint)))) (MSs.one (MS.ifs (MT.eq (ME.b (ME.name 3 rfl (Or.inl rfl) (by decide) (by decide) (by decide))) (ME.b (ME.cstr))) (MSs.one (MS.set 2 rfl (Or.inl rfl) (by decide) (ne_st rfl) (ME.call f__behind_remark (Nat.le_of_ble_eq_true rfl) rfl (mCons_len (mCons_len (mNil_len))) (by decide) (MA.cons (ME.name 0 rfl (Or.inl rfl) (by decide) (by decide) (by decide)) (MA.cons (ME.name 2 rfl (Or.inl rfl) (by decide) (by decide) (by decide)) (MA.nil) (fun _ => rfl)) (fun _ => rfl)) (fun _ => rfl) (fun _ => rfl)) (fun _ => rfl))) (MSs.one (MS.ifs (MT.inS (ME.b (ME.name 3 rfl (Or.inl rfl) (by decide) (by decide) (by decide))) (ME.b (ME.globS rfl T.c_LETTERS (by decide))) rfl) (MSs.cons (MS.app 1 rfl (Or.inl rfl) (by decide) (by decide) (by decide) (ME.call f__word_at (Nat.le_of_ble_eq_true rfl) rfl (mCons_len (mCons_len (mNil_len))) (by decide) (MA.cons (ME.name 0 rfl (Or.inl rfl) (by decide) (by decide) (by decide)) (MA.cons (ME.name 2 rfl (Or.inl rfl) (by decide) (by decide) (by decide)) (MA.nil) (fun _ => rfl)) (fun _ => rfl)) (fun _ => rfl) (fun _ => rfl)) (fun _ => rfl) (fun _ => rfl) (fun _ _ _ h1 h2 => pe_bm PySem.F.plainAttrs_list PySem.F.slot_list_append PySem.F.type_list_append mt_append h1 (pa_cons h2 pa_nil))) (MSs.one (MS.augAdd 2 rfl (Or.inl rfl) (by decide) (ne_st rfl) (ME.b (ME.len rfl T.b_len (ME.b (ME.ix (ME.b (ME.ix (MB.mine 1 rfl (Or.inl rfl) (by decide) (by decide) (by decide)) (ME.b (ME.neg (ME.b (ME.cint)))) (fun _ _ => rfl))) (ME.b (ME.cint)) (fun _ _ => rfl))) (fun _ => rfl)))))) (MSs.one (MS.ifs (MT.inS (ME.b (ME.name 3 rfl (Or.inl rfl) (by decide) (by decide) (by decide))) (ME.b (ME.globS rfl T.c_FIGURES (by decide))) rfl) (MSs.cons (MS.app 1 rfl (Or.inl rfl) (by decide) (by decide) (by decide) (ME.call f__number_at (Nat.le_of_ble_eq_true rfl) rfl (mCons_len (mCons_len (mNil_len))) (by decide) (MA.cons (ME.name 0 rfl (Or.inl rfl) (by decide) (by decide) (by decide)) (MA.cons (ME.name 2 rfl (Or.inl rfl) (by decide) (by decide) (by decide)) (MA.nil) (fun _ => rfl)) (fun _ => rfl)) (fun _ => rfl) (fun _ => rfl)) (fun _ => rfl) (fun _ => rfl) (fun _ _ _ h1 h2 => pe_bm PySem.F.plainAttrs_list PySem.F.slot_list_append PySem.F.type_list_append mt_append h1 (pa_cons h2 pa_nil))) (MSs.one (MS.augAdd 2 rfl (Or.inl rfl) (by decide) (ne_st rfl) (ME.b (ME.len rfl T.b_len (ME.b (ME.str rfl T.b_str (ME.b (ME.ix (ME.b (ME.ix (MB.mine 1 rfl (Or.inl rfl) (by decide) (by decide) (by decide)) (ME.b (ME.neg (ME.b (ME.cint)))) (fun _ _ => rfl))) (ME.b (ME.cint)) (fun _ _ => rfl))) (fun _ => rfl))) (fun _ => rfl)))))) (MSs.one (MS.ifs (MT.inS (ME.b (ME.name 3 rfl (Or.inl rfl) (by decide) (by decide) (by decide))) (ME.b (ME.globS rfl T.c_SIGNS (by decide))) rfl) (MSs.cons (MS.app 1 rfl (Or.inl rfl) (by decide) (by decide) (by decide) (ME.tup (MA.cons (ME.cstr) (MA.cons (ME.name 3 rfl (Or.inl rfl) (by decide) (by decide) (by decide)) (MA.cons (ME.name 2 rfl (Or.inl rfl) (by decide) (by decide) (by decide)) (MA.nil) (fun _ => rfl)) (fun _ => rfl)) (fun _ => rfl))) (fun _ => rfl) (fun _ => rfl) (fun _ _ _ h1 h2 => pe_bm PySem.F.plainAttrs_list PySem.F.slot_list_append PySem.F.type_list_append mt_append h1 (pa_cons h2 pa_nil))) (MSs.one (MS.augAdd 2 rfl (Or.inl rfl) (by decide) (ne_st rfl) (ME.b (ME.cint))))) (MSs.one (MS.raise (MX.te T.te (k := 0) (Nat.le_of_ble_eq_true rfl) rfl (MA.cons (ME.name 2 rfl (Or.inl rfl) (by decide) (by decide) (by decide)) (MA.cons (ME.cstr) (MA.nil) (fun _ => rfl)) (fun _ => rfl)) (fun _ => rfl) (fun _ => rfl)))))))))))))))) (MSs.cons (MS.app 1 rfl (Or.inl rfl) (by decide) (by decide) (by decide) (ME.tup (MA.cons (ME.cstr) (MA.cons (ME.cstr) (MA.cons (ME.len rfl T.b_len (ME.b (ME.name 0 rfl (Or.inl rfl) (by decide) (by decide) (by decide))) (fun _ => rfl)) (MA.nil) (fun _ => rfl)) (fun _ => rfl)) (fun _ => rfl))) (fun _ => rfl) (fun _ => rfl) (fun _ _ _ h1 h2 => pe_bm PySem.F.plainAttrs_list PySem.F.slot_list_append PySem.F.type_list_append mt_append h1 (pa_cons h2 pa_nil))) (MSs.one (MS.retOwn 1 rfl (Or.inl rfl) (by decide) (by decide) (by decide)))))) : MSs (gaOf B ["text", "found", "at", "sign"] (defScope s_tokens_of) 2 E) [] [] [1] (defBody s_tokens_of) m_tokens_of))
theorem sc__law_state : FnScope ["script"] ["script"] (defScope s__law_state) := ⟨rfl, rfl, rfl, by decide +kernel, rfl, by decide +kernel, by decide +kernel⟩
theorem sc__law_draw : FnScope ["state", "limit", "cell", "digit", "mixed"] ["state", "limit"] (defScope s__law_draw) := ⟨rfl, rfl, rfl, by decide +kernel, rfl, by decide +kernel, by decide +kernel⟩
theorem sc__law_told : FnScope ["text", "e"] ["text"] (defScope s__law_told) := ⟨rfl, rfl, rfl, by decide +kernel, rfl, by decide +kernel, by decide +kernel⟩
def m__law_told : Ms := mTryTE (mCall d_tokens_of (mCons (mName 0) (mNil))) 1
def d__law_told : Fd := mDef 2 m__law_told
theorem ok__law_told (T : Tx B C fI) (f_tokens_of : Fn B "tokens_of" 3 1 d_tokens_of) {f : Addr} {fd : FuncData} (F : Fun B.K "_law_told" "_law_told" s__law_told f fd) (hm : B.mg "_law_told" = some (.ref f)) (hb : Binds B.K fd ["text"] []) : Fn B "_law_told" 4 1 d__law_told :=
  Fn.of F hm sc__law_told rfl hb (fun E => (MSs.one (MS.tryTE 1 T.te rfl rfl rfl (by decide) (by decide) (fun _ => ME.call f_tokens_of (Nat.le_of_ble_eq_true rfl) rfl (mCons_len (mNil_len)) (by decide) (MA.cons (ME.name 0 rfl (Or.inl rfl) (by decide) (by decide) (by decide)) (MA.nil) (fun _ => rfl)) (fun _ => rfl) (fun _ => rfl)) (fun _ => rfl) (fun _ => rfl)) : MSs (gaOf B ["text", "e"] (defScope s__law_told) 3 E) [] [] [] (defBody s__law_told) m__law_told))
theorem sc__law_word : FnScope ["state", "text", "turn"] ["state"] (defScope s__law_word) := ⟨rfl, rfl, rfl, by decide +kernel, rfl, by decide +kernel, by decide +kernel⟩
def m__law_word : Ms := mSeq (mSet 1 (mOp2 fIx (mC (.str ("abcdefghijklmnopqrstuvwxyz" : Str))) (mCallS draw (mCons (mC (.int 26)) (mNil))))) (mSeq (mFor (mRng1 (mCons (mCallS draw (mCons (mC (.int 12)) (mNil))) (mNil))) (gN 2) (mSet 1 (mOp2 fAdd (mName 1) (mOp2 fIx (mC (.str ("abcdefghijklmnopqrstuvwxyz0123456789" : Str))) (mCallS draw (mCons (mC (.int 36)) (mNil))))))) (mRet (mName 1)))
def d__law_word : Fg := mDefS 3 m__law_word
theorem ok__law_word (T : Tx B C fI) (f__law_draw : FnS B "_law_draw" 1 1 draw) {f : Addr} {fd : FuncData} (F : Fun B.K "_law_word" "_law_word" s__law_word f fd) (hm : B.mg "_law_word" = some (.ref f)) (hb : Binds B.K fd ["state"] []) : FnS B "_law_word" 2 0 d__law_word :=
  FnS.of F hm sc__law_word rfl hb (fun E => (MSs.cons (MS.set 1 rfl (Or.inl rfl) (by decide) (ne_st rfl) (ME.ix (ME.b (ME.cstr)) (ME.b (ME.callS 0 f__law_draw (Nat.le_of_ble_eq_true rfl) rfl rfl rfl (Or.inl rfl) (by decide) (by decide) (mCons_len (mNil_len)) (by decide) (MA.cons (ME.cint) (MA.nil) (fun _ => rfl)) (fun _ => rfl) (fun _ => rfl))) (fun _ _ => rfl)) (fun _ => rfl)) (MSs.cons (MS.for' (MI.rng1 rfl T.b_range (MA.cons (ME.callS 0 f__law_draw (Nat.le_of_ble_eq_true rfl) rfl rfl rfl (Or.inl rfl) (by decide) (by decide) (mCons_len (mNil_len)) (by decide) (MA.cons (ME.cint) (MA.nil) (fun _ => rfl)) (fun _ => rfl) (fun _ => rfl)) (MA.nil) (fun _ => rfl)) (fun _ => rfl)) (MG.name 2 rfl (Or.inl rfl) (by decide) (ne_st rfl)) (MSs.one (MS.set 1 rfl (Or.inl rfl) (by decide) (ne_st rfl) (ME.add (ME.b (ME.name 1 rfl (Or.inl rfl) (by decide) (by decide) (by decide))) (ME.b (ME.ix (ME.b (ME.cstr)) (ME.b (ME.callS 0 f__law_draw (Nat.le_of_ble_eq_true rfl) rfl rfl rfl (Or.inl rfl) (by decide) (by decide) (mCons_len (mNil_len)) (by decide) (MA.cons (ME.cint) (MA.nil) (fun _ => rfl)) (fun _ => rfl) (fun _ => rfl))) (fun _ _ => rfl)))) (fun _ => rfl))) (fun _ _ => rfl)) (MSs.one (MS.ret (ME.name 1 rfl (Or.inl rfl) (by decide) (by decide) (by decide))))) : MSs (gaS B ["state", "text", "turn"] (defScope s__law_word) 1 E) [] [] [] (defBody s__law_word) m__law_word))
theorem sc__law_gap : FnScope ["state"] ["state"] (defScope s__law_gap) := ⟨rfl, rfl, rfl, by decide +kernel, rfl, by decide +kernel, by decide +kernel⟩
def m__law_gap : Ms := mRet (mOp2 fIx (mLst (mCons (mC (.str (" " : Str))) (mCons (mC (.str ("\n" : Str))) (mCons (mC (.str ("  " : Str))) (mCons (mC (.str (" \n " : Str))) (mCons (mC (.str (" # none: of this;\n" : Str))) (mCons (mC (.str ("\n#\n" : Str))) (mNil)))))))) (mCallS draw (mCons (mC (.int 6)) (mNil))))
def d__law_gap : Fg := mDefS 1 m__law_gap
theorem ok__law_gap (T : Tx B C fI) (f__law_draw : FnS B "_law_draw" 1 1 draw) {f : Addr} {fd : FuncData} (F : Fun B.K "_law_gap" "_law_gap" s__law_gap f fd) (hm : B.mg "_law_gap" = some (.ref f)) (hb : Binds B.K fd ["state"] []) : FnS B "_law_gap" 2 0 d__law_gap :=
  FnS.of F hm sc__law_gap rfl hb (fun E => (MSs.one (MS.ret (ME.ix (ME.b (ME.lst (MA.cons (ME.cstr) (MA.cons (ME.cstr) (MA.cons (ME.cstr) (MA.cons (ME.cstr) (MA.cons (ME.cstr) (MA.cons (ME.cstr) (MA.nil) (fun _ => rfl)) (fun _ => rfl)) (fun _ => rfl)) (fun _ => rfl)) (fun _ => rfl)) (fun _ => rfl)))) (ME.b (ME.callS 0 f__law_draw (Nat.le_of_ble_eq_true rfl) rfl rfl rfl (Or.inl rfl) (by decide) (by decide) (mCons_len (mNil_len)) (by decide) (MA.cons (ME.cint) (MA.nil) (fun _ => rfl)) (fun _ => rfl) (fun _ => rfl))) (fun _ _ => rfl))) : MSs (gaS B ["state"] (defScope s__law_gap) 1 E) [] [] [] (defBody s__law_gap) m__law_gap))
theorem sc_law : FnScope ["script", "state", "text", "due", "turn", "kind", "word", "number", "sign", "wrongs", "wrong", "size"] ["script"] (defScope s_law) := ⟨rfl, rfl, rfl, by decide +kernel, rfl, by decide +kernel, by decide +kernel⟩
def m_law : Ms := mSeq (mSet 2 (mC (.str ("" : Str)))) (mSeq (mSet 3 (mLst (mNil))) (mSeq (mFor (mRng1 (mCons (mCallS draw (mCons (mC (.int 20)) (mNil))) (mNil))) (gN 4) (mSeq (mSet 5 (mCallS draw (mCons (mC (.int 3)) (mNil)))) (mIfS (mTest (mOp2 fEq (mName 5) (mC (.int 0)))) (mSeq (mSet 6 (mCallS d__law_word (mNil))) (mSeq (mApp 3 (mTup (mCons (mC (.str ("word" : Str))) (mCons (mName 6) (mCons (mOp1 fLen (mName 2)) (mNil)))))) (mSet 2 (mOp2 fAdd (mOp2 fAdd (mName 2) (mName 6)) (mCallS d__law_gap (mNil)))))) (mIfS (mTest (mOp2 fEq (mName 5) (mC (.int 1)))) (mSeq (mSet 7 (mOp2 fIx (mLst (mCons (mC (.int 0)) (mCons (mC (.int 9)) (mCons (mC (.int 10)) (mCons (mC (.int 99)) (mCons (mCallS draw (mCons (mC (.int 100)) (mNil))) (mNil))))))) (mCallS draw (mCons (mC (.int 5)) (mNil))))) (mSeq (mApp 3 (mTup (mCons (mC (.str ("number" : Str))) (mCons (mName 7) (mCons (mOp1 fLen (mName 2)) (mNil)))))) (mSet 2 (mOp2 fAdd (mOp2 fAdd (mName 2) (mOp1 fStr (mName 7))) (mCallS d__law_gap (mNil)))))) (mSeq (mSet 8 (mOp2 fIx (mC (.str ("=,;:|-" : Str))) (mCallS draw (mCons (mC (.int 6)) (mNil))))) (mSeq (mApp 3 (mTup (mCons (mC (.str ("sign" : Str))) (mCons (mName 8) (mCons (mOp1 fLen (mName 2)) (mNil)))))) (mSet 2 (mOp2 fAdd (mOp2 fAdd (mName 2) (mName 8)) (mOp2 fIx (mLst (mCons (mC (.str ("" : Str))) (mCons (mCallS d__law_gap (mNil)) (mNil)))) (mCallS draw (mCons (mC (.int 2)) (mNil)))))))))))) (mSeq (mIfS (mTest (mOp2 fNe (mCall d__law_told (mCons (mName 2) (mNil))) (mOp2 fAdd (mName 3) (mLst (mCons (mTup (mCons (mC (.str ("end" : Str))) (mCons (mC (.str ("" : Str))) (mCons (mOp1 fLen (mName 2)) (mNil))))) (mNil)))))) (mRet (mC (.bool false))) (mNext)) (mSeq (mSet 9 (mOp2 fAdd (mComp (mItems (mLst (mCons (mC (.str ("A" : Str))) (mCons (mC (.str ("+" : Str))) (mCons (mC (.str ("?" : Str))) (mCons (mC (.str ("\t" : Str))) (mCons (mC (.str ("_" : Str))) (mCons (mC (.str ("(" : Str))) (mCons (mC (.str ("\"" : Str))) (mCons (mC (.str ("/" : Str))) (mNil))))))))))) [10] (gN 10) (mYes) (mTup (mCons (mName 10) (mCons (mC (.str ("sign" : Str))) (mNil))))) (mLst (mCons (mTup (mCons (mC (.str ("100" : Str))) (mCons (mC (.str ("number" : Str))) (mNil)))) (mCons (mTup (mCons (mC (.str ("01" : Str))) (mCons (mC (.str ("number" : Str))) (mNil)))) (mCons (mTup (mCons (mC (.str ("00" : Str))) (mCons (mC (.str ("number" : Str))) (mNil)))) (mCons (mTup (mCons (mC (.str ("abcdefghijklm" : Str))) (mCons (mC (.str ("name" : Str))) (mNil)))) (mNil)))))))) (mSeq (mFor (mItems (mName 9)) (gT 2 (gsCons (gN 10) (gsCons (gN 6) (gsNil)))) (mIfS (mOr (mTest (mOp2 fNe (mCall d__law_told (mCons (mOp2 fAdd (mName 2) (mName 10)) (mNil))) (mLst (mCons (mOp1 fLen (mName 2)) (mCons (mName 6) (mNil)))))) (mTest (mOp2 fNe (mCall d__law_told (mCons (mOp2 fAdd (mOp2 fAdd (mName 2) (mName 10)) (mC (.str (" ann ?" : Str)))) (mNil))) (mLst (mCons (mOp1 fLen (mName 2)) (mCons (mName 6) (mNil))))))) (mRet (mC (.bool false))) (mNext))) (mSeq (mSet 11 (mOp1 fLen (mName 2))) (mSeq (mIfS (mTest (mOp2 fNe (mCall d__law_told (mCons (mOp2 fAdd (mName 2) (mC (.str ("abcdefghijkl" : Str)))) (mNil))) (mOp2 fAdd (mName 3) (mLst (mCons (mTup (mCons (mC (.str ("word" : Str))) (mCons (mC (.str ("abcdefghijkl" : Str))) (mCons (mName 11) (mNil))))) (mCons (mTup (mCons (mC (.str ("end" : Str))) (mCons (mC (.str ("" : Str))) (mCons (mOp2 fAdd (mName 11) (mC (.int 12))) (mNil))))) (mNil))))))) (mRet (mC (.bool false))) (mNext)) (mSeq (mIfS (mTest (mOp2 fNe (mCall d__law_told (mCons (mOp2 fAdd (mName 2) (mC (.str ("12ann" : Str)))) (mNil))) (mOp2 fAdd (mName 3) (mLst (mCons (mTup (mCons (mC (.str ("number" : Str))) (mCons (mC (.int 12)) (mCons (mName 11) (mNil))))) (mCons (mTup (mCons (mC (.str ("word" : Str))) (mCons (mC (.str ("ann" : Str))) (mCons (mOp2 fAdd (mName 11) (mC (.int 2))) (mNil))))) (mCons (mTup (mCons (mC (.str ("end" : Str))) (mCons (mC (.str ("" : Str))) (mCons (mOp2 fAdd (mName 11) (mC (.int 5))) (mNil))))) (mNil)))))))) (mRet (mC (.bool false))) (mNext)) (mSeq (mIfS (mTest (mOp2 fNe (mCall d__law_told (mCons (mOp2 fAdd (mName 2) (mC (.str ("a1:2|3" : Str)))) (mNil))) (mOp2 fAdd (mName 3) (mLst (mCons (mTup (mCons (mC (.str ("word" : Str))) (mCons (mC (.str ("a1" : Str))) (mCons (mName 11) (mNil))))) (mCons (mTup (mCons (mC (.str ("sign" : Str))) (mCons (mC (.str (":" : Str))) (mCons (mOp2 fAdd (mName 11) (mC (.int 2))) (mNil))))) (mCons (mTup (mCons (mC (.str ("number" : Str))) (mCons (mC (.int 2)) (mCons (mOp2 fAdd (mName 11) (mC (.int 3))) (mNil))))) (mCons (mTup (mCons (mC (.str ("sign" : Str))) (mCons (mC (.str ("|" : Str))) (mCons (mOp2 fAdd (mName 11) (mC (.int 4))) (mNil))))) (mCons (mTup (mCons (mC (.str ("number" : Str))) (mCons (mC (.int 3)) (mCons (mOp2 fAdd (mName 11) (mC (.int 5))) (mNil))))) (mCons (mTup (mCons (mC (.str ("end" : Str))) (mCons (mC (.str ("" : Str))) (mCons (mOp2 fAdd (mName 11) (mC (.int 6))) (mNil))))) (mNil))))))))))) (mRet (mC (.bool false))) (mNext)) (mRet (mAndV (mOp2 fEq (mCall d__law_told (mCons (mC (.str ("" : Str))) (mNil))) (mLst (mCons (mTup (mCons (mC (.str ("end" : Str))) (mCons (mC (.str ("" : Str))) (mCons (mC (.int 0)) (mNil))))) (mNil)))) (mAndV (mOp2 fEq (mCall d__law_told (mCons (mC (.str ("# ?" : Str))) (mNil))) (mLst (mCons (mTup (mCons (mC (.str ("end" : Str))) (mCons (mC (.str ("" : Str))) (mCons (mC (.int 3)) (mNil))))) (mNil)))) (mAndV (mOp2 fEq (mCall d__law_told (mCons (mC (.str ("#\n?" : Str))) (mNil))) (mLst (mCons (mC (.int 2)) (mCons (mC (.str ("sign" : Str))) (mNil))))) (mOp2 fEq (mCall d__law_told (mCons (mC (.str ("99" : Str))) (mNil))) (mLst (mCons (mTup (mCons (mC (.str ("number" : Str))) (mCons (mC (.int 99)) (mCons (mC (.int 0)) (mNil))))) (mCons (mTup (mCons (mC (.str ("end" : Str))) (mCons (mC (.str ("" : Str))) (mCons (mC (.int 2)) (mNil))))) (mNil))))))))))))))))))
theorem ok_law (T : Tx B C fI) (f__law_draw : FnS B "_law_draw" 1 1 draw) (f__law_word : FnS B "_law_word" 2 0 d__law_word) (f__law_gap : FnS B "_law_gap" 2 0 d__law_gap) (f__law_told : Fn B "_law_told" 4 1 d__law_told) (E : XK) : MSs (gaL B ["script", "state", "text", "due", "turn", "kind", "word", "number", "sign", "wrongs", "wrong", "size"] (defScope s_law) 4 E 1) [] [] [3] (defBody s_law).tail m_law :=
  MSs.cons (MS.set 2 rfl (Or.inl rfl) (by decide) (ne_st rfl) (ME.cstr) (fun _ => rfl)) (MSs.cons (MS.newL 3 rfl (Or.inl rfl) (by decide) (ne_st rfl) (MA.nil) (fun _ => rfl)) (MSs.cons (MS.for' (MI.rng1 rfl T.b_range (MA.cons (ME.callS 1 f__law_draw (Nat.le_of_ble_eq_true rfl) rfl rfl rfl (Or.inl rfl) (by decide) (by decide) (mCons_len (mNil_len)) (by decide) (MA.cons (ME.cint) (MA.nil) (fun _ => rfl)) (fun _ => rfl) (fun _ => rfl)) (MA.nil) (fun _ => rfl)) (fun _ => rfl)) (MG.name 4 rfl (Or.inl rfl) (by decide) (ne_st rfl)) (MSs.cons (MS.set 5 rfl (Or.inl rfl) (by decide) (ne_st rfl) (ME.callS 1 f__law_draw (Nat.le_of_ble_eq_true rfl) rfl rfl rfl (Or.inl rfl) (by decide) (by decide) (mCons_len (mNil_len)) (by decide) (MA.cons (ME.cint) (MA.nil) (fun _ => rfl)) (fun _ => rfl) (fun _ => rfl)) (fun _ => rfl)) (MSs.one (MS.ifs (MT.eq (ME.b (ME.name 5 rfl (Or.inl rfl) (by decide) (by decide) (by decide))) (ME.b (ME.cint))) (MSs.cons (MS.set 6 rfl (Or.inl rfl) (by decide) (ne_st rfl) (ME.callS 1 f__law_word (Nat.le_of_ble_eq_true rfl) rfl rfl rfl (Or.inl rfl) (by decide) (by decide) (mNil_len) (by decide) (MA.nil) (fun _ => rfl) (fun _ => rfl)) (fun _ => rfl)) (MSs.cons (MS.app 3 rfl (Or.inl rfl) (by decide) (by decide) (by decide) (ME.tup (MA.cons (ME.cstr) (MA.cons (ME.name 6 rfl (Or.inl rfl) (by decide) (by decide) (by decide)) (MA.cons (ME.len rfl T.b_len (ME.b (ME.name 2 rfl (Or.inl rfl) (by decide) (by decide) (by decide))) (fun _ => rfl)) (MA.nil) (fun _ => rfl)) (fun _ => rfl)) (fun _ => rfl))) (fun _ => rfl) (fun _ => rfl) (fun _ _ _ h1 h2 => pe_bm PySem.F.plainAttrs_list PySem.F.slot_list_append PySem.F.type_list_append mt_append h1 (pa_cons h2 pa_nil))) (MSs.one (MS.set 2 rfl (Or.inl rfl) (by decide) (ne_st rfl) (ME.add (ME.b (ME.add (ME.b (ME.name 2 rfl (Or.inl rfl) (by decide) (by decide) (by decide))) (ME.b (ME.name 6 rfl (Or.inl rfl) (by decide) (by decide) (by decide))))) (ME.b (ME.callS 1 f__law_gap (Nat.le_of_ble_eq_true rfl) rfl rfl rfl (Or.inl rfl) (by decide) (by decide) (mNil_len) (by decide) (MA.nil) (fun _ => rfl) (fun _ => rfl)))) (fun _ => rfl))))) (MSs.one (MS.ifs (MT.eq (ME.b (ME.name 5 rfl (Or.inl rfl) (by decide) (by decide) (by decide))) (ME.b (ME.cint))) (MSs.cons (MS.set 7 rfl (Or.inl rfl) (by decide) (ne_st rfl) (ME.ix (ME.b (ME.lst (MA.cons (ME.cint) (MA.cons (ME.cint) (MA.cons (ME.cint) (MA.cons (ME.cint) (MA.cons (ME.callS 1 f__law_draw (Nat.le_of_ble_eq_true rfl) rfl rfl rfl (Or.inl rfl) (by decide) (by decide) (mCons_len (mNil_len)) (by decide) (MA.cons (ME.cint) (MA.nil) (fun _ => rfl)) (fun _ => rfl) (fun _ => rfl)) (MA.nil) (fun _ => rfl)) (fun _ => rfl)) (fun _ => rfl)) (fun _ => rfl)) (fun _ => rfl)))) (ME.b (ME.callS 1 f__law_draw (Nat.le_of_ble_eq_true rfl) rfl rfl rfl (Or.inl rfl) (by decide) (by decide) (mCons_len (mNil_len)) (by decide) (MA.cons (ME.cint) (MA.nil) (fun _ => rfl)) (fun _ => rfl) (fun _ => rfl))) (fun _ _ => rfl)) (fun _ => rfl)) (MSs.cons (MS.app 3 rfl (Or.inl rfl) (by decide) (by decide) (by decide) (ME.tup (MA.cons (ME.cstr) (MA.cons (ME.name 7 rfl (Or.inl rfl) (by decide) (by decide) (by decide)) (MA.cons (ME.len rfl T.b_len (ME.b (ME.name 2 rfl (Or.inl rfl) (by decide) (by decide) (by decide))) (fun _ => rfl)) (MA.nil) (fun _ => rfl)) (fun _ => rfl)) (fun _ => rfl))) (fun _ => rfl) (fun _ => rfl) (fun _ _ _ h1 h2 => pe_bm PySem.F.plainAttrs_list PySem.F.slot_list_append PySem.F.type_list_append mt_append h1 (pa_cons h2 pa_nil))) (MSs.one (MS.set 2 rfl (Or.inl rfl) (by decide) (ne_st rfl) (ME.add (ME.b (ME.add (ME.b (ME.name 2 rfl (Or.inl rfl) (by decide) (by decide) (by decide))) (ME.b (ME.str rfl T.b_str (ME.b (ME.name 7 rfl (Or.inl rfl) (by decide) (by decide) (by decide))) (fun _ => rfl))))) (ME.b (ME.callS 1 f__law_gap (Nat.le_of_ble_eq_true rfl) rfl rfl rfl (Or.inl rfl) (by decide) (by decide) (mNil_len) (by decide) (MA.nil) (fun _ => rfl) (fun _ => rfl)))) (fun _ => rfl))))) (MSs.cons (MS.set 8 rfl (Or.inl rfl) (by decide) (ne_st rfl) (ME.ix (ME.b (ME.cstr)) (ME.b (ME.callS 1 f__law_draw (Nat.le_of_ble_eq_true rfl) rfl rfl rfl (Or.inl rfl) (by decide) (by decide) (mCons_len (mNil_len)) (by decide) (MA.cons (ME.cint) (MA.nil) (fun _ => rfl)) (fun _ => rfl) (fun _ => rfl))) (fun _ _ => rfl)) (fun _ => rfl)) (MSs.cons (MS.app 3 rfl (Or.inl rfl) (by decide) (by decide) (by decide) (ME.tup (MA.cons (ME.cstr) (MA.cons (ME.name 8 rfl (Or.inl rfl) (by decide) (by decide) (by decide)) (MA.cons (ME.len rfl T.b_len (ME.b (ME.name 2 rfl (Or.inl rfl) (by decide) (by decide) (by decide))) (fun _ => rfl)) (MA.nil) (fun _ => rfl)) (fun _ => rfl)) (fun _ => rfl))) (fun _ => rfl) (fun _ => rfl) (fun _ _ _ h1 h2 => pe_bm PySem.F.plainAttrs_list PySem.F.slot_list_append PySem.F.type_list_append mt_append h1 (pa_cons h2 pa_nil))) (MSs.one (MS.set 2 rfl (Or.inl rfl) (by decide) (ne_st rfl) (ME.add (ME.b (ME.add (ME.b (ME.name 2 rfl (Or.inl rfl) (by decide) (by decide) (by decide))) (ME.b (ME.name 8 rfl (Or.inl rfl) (by decide) (by decide) (by decide))))) (ME.b (ME.ix (ME.b (ME.lst (MA.cons (ME.cstr) (MA.cons (ME.callS 1 f__law_gap (Nat.le_of_ble_eq_true rfl) rfl rfl rfl (Or.inl rfl) (by decide) (by decide) (mNil_len) (by decide) (MA.nil) (fun _ => rfl) (fun _ => rfl)) (MA.nil) (fun _ => rfl)) (fun _ => rfl)))) (ME.b (ME.callS 1 f__law_draw (Nat.le_of_ble_eq_true rfl) rfl rfl rfl (Or.inl rfl) (by decide) (by decide) (mCons_len (mNil_len)) (by decide) (MA.cons (ME.cint) (MA.nil) (fun _ => rfl)) (fun _ => rfl) (fun _ => rfl))) (fun _ _ => rfl)))) (fun _ => rfl)))))))))) (fun _ _ => rfl)) (MSs.cons (MS.ifs (MT.ne (ME.b (ME.call f__law_told (Nat.le_of_ble_eq_true rfl) rfl (mCons_len (mNil_len)) (by decide) (MA.cons (ME.name 2 rfl (Or.inl rfl) (by decide) (by decide) (by decide)) (MA.nil) (fun _ => rfl)) (fun _ => rfl) (fun _ => rfl))) (ME.b (ME.add (MB.mine 3 rfl (Or.inl rfl) (by decide) (by decide) (by decide)) (ME.b (ME.lst (MA.cons (ME.tup (MA.cons (ME.cstr) (MA.cons (ME.cstr) (MA.cons (ME.len rfl T.b_len (ME.b (ME.name 2 rfl (Or.inl rfl) (by decide) (by decide) (by decide))) (fun _ => rfl)) (MA.nil) (fun _ => rfl)) (fun _ => rfl)) (fun _ => rfl))) (MA.nil) (fun _ => rfl))))))) (MSs.one (MS.ret (ME.cbool))) (MSs.nil)) (MSs.cons (MS.set 9 rfl (Or.inl rfl) (by decide) (ne_st rfl) (ME.add (ME.b (ME.lc [("wrong", 10)] rfl (by decide) (al_st rfl) (by decide) (MI.list (ME.lst (MA.cons (ME.cstr) (MA.cons (ME.cstr) (MA.cons (ME.cstr) (MA.cons (ME.cstr) (MA.cons (ME.cstr) (MA.cons (ME.cstr) (MA.cons (ME.cstr) (MA.cons (ME.cstr) (MA.nil) (fun _ => rfl)) (fun _ => rfl)) (fun _ => rfl)) (fun _ => rfl)) (fun _ => rfl)) (fun _ => rfl)) (fun _ => rfl)) (fun _ => rfl)))) (MG.name 10 rfl (Or.inl rfl) (by decide) (ne_st rfl)) (MTs.nil) (ME.tup (MA.cons (ME.name 10 rfl (Or.inl rfl) (by decide) (by decide) (by decide)) (MA.cons (ME.cstr) (MA.nil) (fun _ => rfl)) (fun _ => rfl))) (fun _ _ => rfl))) (ME.b (ME.lst (MA.cons (ME.tup (MA.cons (ME.cstr) (MA.cons (ME.cstr) (MA.nil) (fun _ => rfl)) (fun _ => rfl))) (MA.cons (ME.tup (MA.cons (ME.cstr) (MA.cons (ME.cstr) (MA.nil) (fun _ => rfl)) (fun _ => rfl))) (MA.cons (ME.tup (MA.cons (ME.cstr) (MA.cons (ME.cstr) (MA.nil) (fun _ => rfl)) (fun _ => rfl))) (MA.cons (ME.tup (MA.cons (ME.cstr) (MA.cons (ME.cstr) (MA.nil) (fun _ => rfl)) (fun _ => rfl))) (MA.nil) (fun _ => rfl)) (fun _ => rfl)) (fun _ => rfl)) (fun _ => rfl))))) (fun _ => rfl)) (MSs.cons (MS.for' (MI.list (ME.name 9 rfl (Or.inl rfl) (by decide) (by decide) (by decide))) (MG.tup 2 (MGs.cons (MG.name 10 rfl (Or.inl rfl) (by decide) (ne_st rfl)) (MGs.cons (MG.name 6 rfl (Or.inl rfl) (by decide) (ne_st rfl)) (MGs.nil) (fun _ => rfl)) (fun _ => rfl)) (fun _ => rfl) (fun _ => rfl)) (MSs.one (MS.ifs (MW.t (MW.or (MT.ne (ME.b (ME.call f__law_told (Nat.le_of_ble_eq_true rfl) rfl (mCons_len (mNil_len)) (by decide) (MA.cons (ME.add (ME.b (ME.name 2 rfl (Or.inl rfl) (by decide) (by decide) (by decide))) (ME.b (ME.name 10 rfl (Or.inl rfl) (by decide) (by decide) (by decide)))) (MA.nil) (fun _ => rfl)) (fun _ => rfl) (fun _ => rfl))) (ME.b (ME.lst (MA.cons (ME.len rfl T.b_len (ME.b (ME.name 2 rfl (Or.inl rfl) (by decide) (by decide) (by decide))) (fun _ => rfl)) (MA.cons (ME.name 6 rfl (Or.inl rfl) (by decide) (by decide) (by decide)) (MA.nil) (fun _ => rfl)) (fun _ => rfl))))) (MW.or1 (MT.ne (ME.b (ME.call f__law_told (Nat.le_of_ble_eq_true rfl) rfl (mCons_len (mNil_len)) (by decide) (MA.cons (ME.add (ME.b (ME.add (ME.b (ME.name 2 rfl (Or.inl rfl) (by decide) (by decide) (by decide))) (ME.b (ME.name 10 rfl (Or.inl rfl) (by decide) (by decide) (by decide))))) (ME.b (ME.cstr))) (MA.nil) (fun _ => rfl)) (fun _ => rfl) (fun _ => rfl))) (ME.b (ME.lst (MA.cons (ME.len rfl T.b_len (ME.b (ME.name 2 rfl (Or.inl rfl) (by decide) (by decide) (by decide))) (fun _ => rfl)) (MA.cons (ME.name 6 rfl (Or.inl rfl) (by decide) (by decide) (by decide)) (MA.nil) (fun _ => rfl)) (fun _ => rfl)))))))) (MSs.one (MS.ret (ME.cbool))) (MSs.nil))) (fun _ _ => rfl)) (MSs.cons (MS.set 11 rfl (Or.inl rfl) (by decide) (ne_st rfl) (ME.len rfl T.b_len (ME.b (ME.name 2 rfl (Or.inl rfl) (by decide) (by decide) (by decide))) (fun _ => rfl)) (fun _ => rfl)) (MSs.cons (MS.ifs (MT.ne (ME.b (ME.call f__law_told (Nat.le_of_ble_eq_true rfl) rfl (mCons_len (mNil_len)) (by decide) (MA.cons (ME.add (ME.b (ME.name 2 rfl (Or.inl rfl) (by decide) (by decide) (by decide))) (ME.b (ME.cstr))) (MA.nil) (fun _ => rfl)) (fun _ => rfl) (fun _ => rfl))) (ME.b (ME.add (MB.mine 3 rfl (Or.inl rfl) (by decide) (by decide) (by decide)) (ME.b (ME.lst (MA.cons (ME.tup (MA.cons (ME.cstr) (MA.cons (ME.cstr) (MA.cons (ME.name 11 rfl (Or.inl rfl) (by decide) (by decide) (by decide)) (MA.nil) (fun _ => rfl)) (fun _ => rfl)) (fun _ => rfl))) (MA.cons (ME.tup (MA.cons (ME.cstr) (MA.cons (ME.cstr) (MA.cons (ME.add (ME.b (ME.name 11 rfl (Or.inl rfl) (by decide) (by decide) (by decide))) (ME.b (ME.cint))) (MA.nil) (fun _ => rfl)) (fun _ => rfl)) (fun _ => rfl))) (MA.nil) (fun _ => rfl)) (fun _ => rfl))))))) (MSs.one (MS.ret (ME.cbool))) (MSs.nil)) (MSs.cons (MS.ifs (MT.ne (ME.b (ME.call f__law_told (Nat.le_of_ble_eq_true rfl) rfl (mCons_len (mNil_len)) (by decide) (MA.cons (ME.add (ME.b (ME.name 2 rfl (Or.inl rfl) (by decide) (by decide) (by decide))) (ME.b (ME.cstr))) (MA.nil) (fun _ => rfl)) (fun _ => rfl) (fun _ => rfl))) (ME.b (ME.add (MB.mine 3 rfl (Or.inl rfl) (by decide) (by decide) (by decide)) (ME.b (ME.lst (MA.cons (ME.tup (MA.cons (ME.cstr) (MA.cons (ME.cint) (MA.cons (ME.name 11 rfl (Or.inl rfl) (by decide) (by decide) (by decide)) (MA.nil) (fun _ => rfl)) (fun _ => rfl)) (fun _ => rfl))) (MA.cons (ME.tup (MA.cons (ME.cstr) (MA.cons (ME.cstr) (MA.cons (ME.add (ME.b (ME.name 11 rfl (Or.inl rfl) (by decide) (by decide) (by decide))) (ME.b (ME.cint))) (MA.nil) (fun _ => rfl)) (fun _ => rfl)) (fun _ => rfl))) (MA.cons (ME.tup (MA.cons (ME.cstr) (MA.cons (ME.cstr) (MA.cons (ME.add (ME.b (ME.name 11 rfl (Or.inl rfl) (by decide) (by decide) (by decide))) (ME.b (ME.cint))) (MA.nil) (fun _ => rfl)) (fun _ => rfl)) (fun _ => rfl))) (MA.nil) (fun _ => rfl)) (fun _ => rfl)) (fun _ => rfl))))))) (MSs.one (MS.ret (ME.cbool))) (MSs.nil)) (MSs.cons (MS.ifs (MT.ne (ME.b (ME.call f__law_told (Nat.le_of_ble_eq_true rfl) rfl (mCons_len (mNil_len)) (by decide) (MA.cons (ME.add (ME.b (ME.name 2 rfl (Or.inl rfl) (by decide) (by decide) (by decide))) (ME.b (ME.cstr))) (MA.nil) (fun _ => rfl)) (fun _ => rfl) (fun _ => rfl))) (ME.b (ME.add (MB.mine 3 rfl (Or.inl rfl) (by decide) (by decide) (by decide)) (ME.b (ME.lst (MA.cons (ME.tup (MA.cons (ME.cstr) (MA.cons (ME.cstr) (MA.cons (ME.name 11 rfl (Or.inl rfl) (by decide) (by decide) (by decide)) (MA.nil) (fun _ => rfl)) (fun _ => rfl)) (fun _ => rfl))) (MA.cons (ME.tup (MA.cons (ME.cstr) (MA.cons (ME.cstr) (MA.cons (ME.add (ME.b (ME.name 11 rfl (Or.inl rfl) (by decide) (by decide) (by decide))) (ME.b (ME.cint))) (MA.nil) (fun _ => rfl)) (fun _ => rfl)) (fun _ => rfl))) (MA.cons (ME.tup (MA.cons (ME.cstr) (MA.cons (ME.cint) (MA.cons (ME.add (ME.b (ME.name 11 rfl (Or.inl rfl) (by decide) (by decide) (by decide))) (ME.b (ME.cint))) (MA.nil) (fun _ => rfl)) (fun _ => rfl)) (fun _ => rfl))) (MA.cons (ME.tup (MA.cons (ME.cstr) (MA.cons (ME.cstr) (MA.cons (ME.add (ME.b (ME.name 11 rfl (Or.inl rfl) (by decide) (by decide) (by decide))) (ME.b (ME.cint))) (MA.nil) (fun _ => rfl)) (fun _ => rfl)) (fun _ => rfl))) (MA.cons (ME.tup (MA.cons (ME.cstr) (MA.cons (ME.cint) (MA.cons (ME.add (ME.b (ME.name 11 rfl (Or.inl rfl) (by decide) (by decide) (by decide))) (ME.b (ME.cint))) (MA.nil) (fun _ => rfl)) (fun _ => rfl)) (fun _ => rfl))) (MA.cons (ME.tup (MA.cons (ME.cstr) (MA.cons (ME.cstr) (MA.cons (ME.add (ME.b (ME.name 11 rfl (Or.inl rfl) (by decide) (by decide) (by decide))) (ME.b (ME.cint))) (MA.nil) (fun _ => rfl)) (fun _ => rfl)) (fun _ => rfl))) (MA.nil) (fun _ => rfl)) (fun _ => rfl)) (fun _ => rfl)) (fun _ => rfl)) (fun _ => rfl)) (fun _ => rfl))))))) (MSs.one (MS.ret (ME.cbool))) (MSs.nil)) (MSs.one (MS.ret (ME.andV (ME.eq (ME.b (ME.call f__law_told (Nat.le_of_ble_eq_true rfl) rfl (mCons_len (mNil_len)) (by decide) (MA.cons (ME.cstr) (MA.nil) (fun _ => rfl)) (fun _ => rfl) (fun _ => rfl))) (ME.b (ME.lst (MA.cons (ME.tup (MA.cons (ME.cstr) (MA.cons (ME.cstr) (MA.cons (ME.cint) (MA.nil) (fun _ => rfl)) (fun _ => rfl)) (fun _ => rfl))) (MA.nil) (fun _ => rfl))))) (ME.andV (ME.eq (ME.b (ME.call f__law_told (Nat.le_of_ble_eq_true rfl) rfl (mCons_len (mNil_len)) (by decide) (MA.cons (ME.cstr) (MA.nil) (fun _ => rfl)) (fun _ => rfl) (fun _ => rfl))) (ME.b (ME.lst (MA.cons (ME.tup (MA.cons (ME.cstr) (MA.cons (ME.cstr) (MA.cons (ME.cint) (MA.nil) (fun _ => rfl)) (fun _ => rfl)) (fun _ => rfl))) (MA.nil) (fun _ => rfl))))) (ME.andV (ME.eq (ME.b (ME.call f__law_told (Nat.le_of_ble_eq_true rfl) rfl (mCons_len (mNil_len)) (by decide) (MA.cons (ME.cstr) (MA.nil) (fun _ => rfl)) (fun _ => rfl) (fun _ => rfl))) (ME.b (ME.lst (MA.cons (ME.cint) (MA.cons (ME.cstr) (MA.nil) (fun _ => rfl)) (fun _ => rfl))))) (ME.one (ME.eq (ME.b (ME.call f__law_told (Nat.le_of_ble_eq_true rfl) rfl (mCons_len (mNil_len)) (by decide) (MA.cons (ME.cstr) (MA.nil) (fun _ => rfl)) (fun _ => rfl) (fun _ => rfl))) (ME.b (ME.lst (MA.cons (ME.tup (MA.cons (ME.cstr) (MA.cons (ME.cint) (MA.cons (ME.cint) (MA.nil) (fun _ => rfl)) (fun _ => rfl)) (fun _ => rfl))) (MA.cons (ME.tup (MA.cons (ME.cstr) (MA.cons (ME.cstr) (MA.cons (ME.cint) (MA.nil) (fun _ => rfl)) (fun _ => rfl)) (fun _ => rfl))) (MA.nil) (fun _ => rfl)) (fun _ => rfl))))))))))))))))))))
def drawN : List Str := ["state", "limit", "cell", "digit", "mixed"]
theorem ps_draw (T : Tx B C fI) (E : XK) (X : Cx) (hX : Fs (gaS B drawN (defScope s__law_draw) 0 E) X) : PSs X (defBody s__law_draw) (tDraw B.K) := by
  have lk : ∀ x, (defScope s__law_draw).names.lookup x = some .local → X.env.scope.names.lookup x = some .local := fun x h => by rw [hX.sc]; exact h
  have lcl : ∀ (i : Nat) (x : Str), drawN[i]? = some x → (defScope s__law_draw).names.lookup x = some .local → (x == ("__debug__" : Str)) = false → (x == ("__classdict__" : Str)) = false → ∀ pos, PE X (.Name x pos) (tVar i) := fun i x h1 h2 h3 h4 pos =>
    pe_var (by rw [hX.N]; exact h1) (.inl (lk x h2)) h3 h4
  have N0 := lcl 0 "state" rfl rfl (by decide) (by decide)
  have N1 := lcl 1 "limit" rfl rfl (by decide) (by decide)
  have N2 := lcl 2 "cell" rfl rfl (by decide) (by decide)
  have N3 := lcl 3 "digit" rfl rfl (by decide) (by decide)
  have N4 := lcl 4 "mixed" rfl rfl (by decide) (by decide)
  have set : ∀ (i : Nat) (x : Str) (e : Expr) (te : L2.TE) (p p2 : Pos), drawN[i]? = some x → (defScope s__law_draw).names.lookup x = some .local → PE X e te → (∀ env, swapsWith e (some (.Name x p)) p2.line env = pure false) → PS X (.Assign [.Name x p] e p2) (tAsg te (gName i)) := fun i x e te p p2 h1 h2 he hs =>
    ps_set hX.nd (by rw [hX.N]; exact h1) (.inl (lk x h2)) he (hs _) (.inr (lk x h2))
  have ix : ∀ (k : Int) (j : Nat) (p p2 p3 : Pos), PE X (.Subscript (.Name "state" p) (.Constant (.int k) j p2) p3) (xSt B.K k) := fun k j p p2 p3 => by
    have := pe_ix (pos := p3) (ix_list (X := X)) (N0 p) (pe_int (X := X) (i := k) (j := j) (pos := p2)) (fun _ _ => rfl)
    rw [hX.K] at this
    exact this
  have ix2 : ∀ (a b : Expr) (ta tb : L2.TE) (p3 : Pos), PE X a ta → PE X b tb → PlainIx b → PE X (.Subscript a b p3) (tOp (rIxL B.K) ta tb) := fun a b ta tb p3 ha hb hs => by
    have := pe_ix (pos := p3) (ix_list (X := X)) ha hb hs
    rw [hX.K] at this
    exact this
  have gs : ∀ (k : Int) (j : Nat) (p p2 p3 : Pos), PG X (.Subscript (.Name "state" p) (.Constant (.int k) j p2) p3) (gSub (tVar 0) (tC (.int k)) rSetL) := fun k j p p2 p3 =>
    pg_sub (N0 p) pe_int set_list (fun _ => rfl)
  have tru : ∀ (k : Int) (j : Nat) (p p2 p3 : Pos), PT X (.Subscript (.Name "state" p) (.Constant (.int k) j p2) p3) (tTru B.K (xSt B.K k)) := fun k j p p2 p3 => by
    have := pt_truth (ix k j p p2 p3) (fun _ => rfl)
    rw [hX.K] at this
    exact this
  have int : ∀ (e : Expr) (te : L2.TE) (p p2 : Pos), PE X e te → (∀ env, starEach [e] env = [(false, eval e env)]) → PE X (.Call (.Name "int" p) [e] [] p2) (tIn te) := fun e te p p2 he hs =>
    pe_callTy call_int1 ((show GlS (defScope s__law_draw) "int" from rfl).gl hX.toFm) (by rw [hX.mg]; exact T.b_int) (by decide +kernel) (pa_cons he pa_nil (hs _)) (by decide) (by decide) (hs _) (by rfl)
  have len : ∀ (e : Expr) (te : L2.TE) (p p2 : Pos), PE X e te → (∀ env, starEach [e] env = [(false, eval e env)]) → PE X (.Call (.Name "len" p) [e] [] p2) (tCB (rLenS B.K) (tCons te tNil)) := fun e te p p2 he hs => by
    have := pe_callB (pos := p2) (p := p) (call_len_seq (X := X)) ((show GlS (defScope s__law_draw) "len" from rfl).gl hX.toFm) (by rw [hX.mg]; exact T.b_len) boot_len (pa_cons he pa_nil (hs _)) (by decide) (by decide) (hs _) (by rfl)
    rw [hX.K] at this
    exact this
  exact pss_cons (ps_if (pt_cmpR op_eq (ix 3 _ _ _ _) pe_int (nomark _))
      (pss_cons (ps_if (pt_cmpR op_ge (ix 1 _ _ _ _) (len _ _ _ _ (ix 0 _ _ _ _) (fun _ => rfl)) (nomark _)) (pss_one (ps_ret pe_int)) pss_nil)
      (pss_cons (set 2 "cell" _ _ _ _ rfl rfl (ix2 _ _ _ _ _ (ix 0 _ _ _ _) (ix 1 _ _ _ _) (fun _ _ => rfl)) (fun _ => rfl))
      (pss_cons (ps_if (pt_cmpR op_lt (N2 _) pe_int (nomark _)) (pss_one (set 2 "cell" _ _ _ _ rfl rfl (pe_op op_sub (pe_un un_neg pe_int) (N2 _)) (fun _ => rfl))) pss_nil)
      (pss_cons (ps_asg (pe_op op_add (ix 1 _ _ _ _) pe_int) (gs 1 _ _ _ _) (by rfl) (by rfl) (by rfl))
      (pss_cons (ps_asg (N2 _) (gs 2 _ _ _ _) (by rfl) (by rfl) (by rfl))
      (pss_cons (ps_asg (pe_cmpR op_ge (N2 _) (pe_op op_pow pe_int pe_int) (nomark _)) (gs 4 _ _ _ _) (by rfl) (by rfl) (by rfl))
      (pss_cons (ps_asg pe_int (gs 3 _ _ _ _) (by rfl) (by rfl) (by rfl))
      (pss_one (ps_if (tru 4 _ _ _ _) (pss_one (ps_asg pe_int (gs 3 _ _ _ _) (by rfl) (by rfl) (by rfl))) pss_nil))))))))) pss_nil)
    (pss_cons (ps_asg (pe_op op_sub (ix 3 _ _ _ _) pe_int) (gs 3 _ _ _ _) (by rfl) (by rfl) (by rfl))
    (pss_cons (ps_if (tru 4 _ _ _ _)
      (pss_cons (set 3 "digit" _ _ _ _ rfl rfl (pe_op op_modN (int _ _ _ _ (ix 2 _ _ _ _) (fun _ => rfl)) (N1 _)) (fun _ => rfl))
      (pss_cons (ps_asg (pe_op op_fdivN (ix 2 _ _ _ _) (N1 _)) (gs 2 _ _ _ _) (by rfl) (by rfl) (by rfl))
      (pss_cons (ps_if (pt_cmpR op_eq (ix 2 _ _ _ _) pe_int (nomark _)) (pss_one (ps_asg pe_int (gs 3 _ _ _ _) (by rfl) (by rfl) (by rfl))) pss_nil)
      (pss_one (ps_ret (N3 _)))))) pss_nil)
    (pss_cons (set 4 "mixed" _ _ _ _ rfl rfl (pe_op op_modN (int _ _ _ _ (pe_op op_add (pe_op op_add (pe_op op_mul (ix 2 _ _ _ _) pe_int) (pe_op op_mul (ix 3 _ _ _ _) pe_int)) pe_int) (fun _ => rfl)) pe_int) (fun _ => rfl))
    (pss_cons (set 4 "mixed" _ _ _ _ rfl rfl (pe_op op_modN (int _ _ _ _ (pe_op op_add (pe_op op_add (pe_op op_mul (N4 _) (N4 _)) (pe_op op_mul (ix 2 _ _ _ _) pe_int)) (ix 3 _ _ _ _)) (fun _ => rfl)) pe_int) (fun _ => rfl))
    (pss_one (ps_ret (pe_op op_modN (int _ _ _ _ (N4 _) (fun _ => rfl)) (N1 _))))))))
theorem ps_state (T : Tx B C fI) (E : XK) (X : Cx) (hX : Fs (gaOf B ["script"] (defScope s__law_state) 0 E) X) : PSs X (defBody s__law_state) (tState B.K) := by
  have N0 : ∀ pos, PE X (.Name "script" pos) (tVar 0) := fun pos => pe_var (by rw [hX.N]; rfl) (.inl (by show X.env.scope.names.lookup _ = _; rw [hX.sc]; rfl)) (by decide) (by decide)
  have lst : ∀ (e : Expr) (te : L2.TE) (p p2 : Pos), PE X e te → (∀ env, starEach [e] env = [(false, eval e env)]) → PE X (.Call (.Name "list" p) [e] [] p2) (tCB (rListQ B.K) (tCons te tNil)) := fun e te p p2 he hs => by
    have := pe_callTy (pos := p2) (p := p) (call_list_of (X := X)) ((show GlS (defScope s__law_state) "list" from rfl).gl hX.toFm) (by rw [hX.mg]; exact T.b_list) (by decide +kernel) (pa_cons he pa_nil (hs _)) (by decide) (by decide) (hs _) (by rfl)
    rw [hX.K] at this
    exact this
  exact pss_one (ps_ret (pe_lst (pa_cons (lst _ _ _ _ (N0 _) (fun _ => rfl)) (pa_cons pe_int (pa_cons pe_int (pa_cons pe_int (pa_cons pe_bl (pa_cons pe_int pa_nil))))))))
end
def nLaw : Nat := 12
end M
set_option maxRecDepth 100000
set_option maxHeartbeats 1000000
namespace M
open PySem L2
theorem drop_cons {l : List Nat} {i : Nat} (h : i < l.length) : l.drop i = l[i] :: l.drop (i + 1) := List.drop_eq_getElem_cons h
theorem end_loop (l al : List Nat) (hl : l.length ≤ 50000) : ∀ n (at_ : Nat) s, at_ ≤ l.length → l.length - at_ < n → ∀ K : Kn, (∀ s, K.nx [some (.str (S l)), some (.int ((at_ + ((l.drop at_).takeWhile (· ∈ al)).length : Nat) : Int)), some (.str (S al))] s) →
      Wp (mWhile (mAnd (mTest (mOp2 fLt (mName 1) (mOp1 fLen (mName 0)))) (mTest (mOp2 fIn (mOp2 fIx (mName 0) (mName 1)) (mName 2)))) (mAug 1 fAddI (mC (.int 1))) n [some (.str (S l)), some (.int (at_ : Nat)), some (.str (S al))] s) K := by
  intro n
  induction n with
  | zero => intro at_ s h1 h2; omega
  | succ n ih =>
    intro at_ s h1 h2 K hK
    rw [wp_while]
    have L : l.length ≤ 16777216 := by omega
    simp only [we_ok, we_er, we_C, we_name, we_nil, we_cons, we_tup, we_lst, we_op2, we_op1, we_test, we_and, we_or, we_not, we_if, we_andV, we_orV, we_notV, we_noPart, we_part, we_sl, we_call, we_callS, we_te, we_def, we_defS, wp_next, wp_seq, wp_ret, wp_set, wp_ifs, wp_aug, wp_app, wp_raise, wp_tryTE, wp_for, wp_nx, wp_rt, wp_er, we_items, we_itemsT, we_comp, we_yes, we_rng1, kLoop, kDef, List.set_cons_zero, List.set_cons_succ, List.getElem?_cons_zero, List.getElem?_cons_succ, Option.some.injEq, exists_eq_left', exists_eq_left, PyData.bool.injEq, PyData.int.injEq, PyData.str.injEq, PyData.list.injEq, PyData.tuple.injEq, true_and, and_true, true_implies, reduceCtorEq, false_implies, exists_eq_right, Option.map_some, List.cons.injEq, List.length_cons, List.length_nil, fLen_S L, fLt_I]
    by_cases h : at_ < l.length
    · have e : l[at_]? = some l[at_] := by simp [h]
      have ed := drop_cons h
      simp only [we_ok, we_er, we_C, we_name, we_nil, we_cons, we_tup, we_lst, we_op2, we_op1, we_test, we_and, we_or, we_not, we_if, we_andV, we_orV, we_notV, we_noPart, we_part, we_sl, we_call, we_callS, we_te, we_def, we_defS, wp_next, wp_seq, wp_ret, wp_set, wp_ifs, wp_aug, wp_app, wp_raise, wp_tryTE, wp_for, wp_nx, wp_rt, wp_er, we_items, we_itemsT, we_comp, we_yes, we_rng1, kLoop, kDef, List.set_cons_zero, List.set_cons_succ, List.getElem?_cons_zero, List.getElem?_cons_succ, Option.some.injEq, exists_eq_left', exists_eq_left, PyData.bool.injEq, PyData.int.injEq, PyData.str.injEq, PyData.list.injEq, PyData.tuple.injEq, true_and, and_true, true_implies, reduceCtorEq, false_implies, exists_eq_right, Option.map_some, List.cons.injEq, List.length_cons, List.length_nil, fIx_S L e, fIn_S, fAddI_I, show ((at_ : Int) < (l.length : Int)) by omega, decide_true]
      refine ⟨fun hm => ?_, fun hm => ?_⟩
      · have := of_decide_eq_true hm
        have c : ((at_ : Int) + 1) = ((at_ + 1 : Nat) : Int) := by omega
        rw [c]
        refine ih (at_ + 1) _ (by omega) (by omega) _ fun s => ?_
        have := hK s
        rw [ed, List.takeWhile_cons, if_pos hm] at this
        rw [List.length_cons] at this
        rw [show at_ + 1 + (List.takeWhile (fun x => decide (x ∈ al)) (List.drop (at_ + 1) l)).length = at_ + ((List.takeWhile (fun x => decide (x ∈ al)) (List.drop (at_ + 1) l)).length + 1) by omega]
        exact this
      · have := hK s
        rw [ed, List.takeWhile_cons, if_neg (by rw [hm]; exact Bool.false_ne_true)] at this
        exact this
    · have : l.drop at_ = [] := List.drop_eq_nil_of_le (by omega)
      simp only [we_ok, we_er, we_C, we_name, we_nil, we_cons, we_tup, we_lst, we_op2, we_op1, we_test, we_and, we_or, we_not, we_if, we_andV, we_orV, we_notV, we_noPart, we_part, we_sl, we_call, we_callS, we_te, we_def, we_defS, wp_next, wp_seq, wp_ret, wp_set, wp_ifs, wp_aug, wp_app, wp_raise, wp_tryTE, wp_for, wp_nx, wp_rt, wp_er, we_items, we_itemsT, we_comp, we_yes, we_rng1, kLoop, kDef, List.set_cons_zero, List.set_cons_succ, List.getElem?_cons_zero, List.getElem?_cons_succ, Option.some.injEq, exists_eq_left', exists_eq_left, PyData.bool.injEq, PyData.int.injEq, PyData.str.injEq, PyData.list.injEq, PyData.tuple.injEq, true_and, and_true, true_implies, reduceCtorEq, false_implies, exists_eq_right, Option.map_some, List.cons.injEq, List.length_cons, List.length_nil, show ¬ ((at_ : Int) < (l.length : Int)) by omega, decide_false]
      have k := hK s
      rw [this] at k
      simpa using k
theorem end_of (l al : List Nat) (at_ : Nat) (h : at_ ≤ l.length) (hl : l.length ≤ 50000) (P : D → DS → Prop) (E : Err → DS → Prop) (hp : ∀ s, P (.int ((at_ + ((l.drop at_).takeWhile (· ∈ al)).length : Nat) : Int)) s) : We (d__end_of [.str (S l), .int at_, .str (S al)]) P E := by
  unfold d__end_of m__end_of
  simp only [we_ok, we_er, we_C, we_name, we_nil, we_cons, we_tup, we_lst, we_op2, we_op1, we_test, we_and, we_or, we_not, we_if, we_andV, we_orV, we_notV, we_noPart, we_part, we_sl, we_call, we_callS, we_te, we_def, we_defS, wp_next, wp_seq, wp_ret, wp_set, wp_ifs, wp_aug, wp_app, wp_raise, wp_tryTE, wp_for, wp_nx, wp_rt, wp_er, we_items, we_itemsT, we_comp, we_yes, we_rng1, kLoop, kDef, List.set_cons_zero, List.set_cons_succ, List.getElem?_cons_zero, List.getElem?_cons_succ, Option.some.injEq, exists_eq_left', exists_eq_left, PyData.bool.injEq, PyData.int.injEq, PyData.str.injEq, PyData.list.injEq, PyData.tuple.injEq, true_and, and_true, true_implies, reduceCtorEq, false_implies, exists_eq_right, Option.map_some, List.cons.injEq, List.length_cons, List.length_nil, List.map_cons, List.map_nil, List.nil_append, List.cons_append, Nat.sub_self, List.replicate_zero]
  refine end_loop l al hl FU at_ _ h (by unfold FU; omega) _ fun s => ?_
  simp only [we_ok, we_er, we_C, we_name, we_nil, we_cons, we_tup, we_lst, we_op2, we_op1, we_test, we_and, we_or, we_not, we_if, we_andV, we_orV, we_notV, we_noPart, we_part, we_sl, we_call, we_callS, we_te, we_def, we_defS, wp_next, wp_seq, wp_ret, wp_set, wp_ifs, wp_aug, wp_app, wp_raise, wp_tryTE, wp_for, wp_nx, wp_rt, wp_er, we_items, we_itemsT, we_comp, we_yes, we_rng1, kLoop, kDef, List.set_cons_zero, List.set_cons_succ, List.getElem?_cons_zero, List.getElem?_cons_succ, Option.some.injEq, exists_eq_left', exists_eq_left, PyData.bool.injEq, PyData.int.injEq, PyData.str.injEq, PyData.list.injEq, PyData.tuple.injEq, true_and, and_true, true_implies, reduceCtorEq, false_implies, exists_eq_right, Option.map_some, List.cons.injEq, List.length_cons, List.length_nil]
  exact hp s
def LET : List Nat := [97, 98, 99, 100, 101, 102, 103, 104, 105, 106, 107, 108, 109, 110, 111, 112, 113, 114, 115, 116, 117, 118, 119, 120, 121, 122]
def FIG : List Nat := [48, 49, 50, 51, 52, 53, 54, 55, 56, 57]
def LF : List Nat := LET ++ FIG
def SIG : List Nat := [61, 44, 59, 58, 124, 45]
def BL : List Nat := [32, 10]
theorem let_S : ("abcdefghijklmnopqrstuvwxyz" : Str) = S LET := by decide +kernel
theorem fig_S : ("0123456789" : Str) = S FIG := by decide +kernel
theorem sig_S : ("=,;:|-" : Str) = S SIG := by decide +kernel
theorem bl_S : (" \n" : Str) = S BL := by decide +kernel
theorem nl_S : ("\n" : Str) = S [10] := by decide +kernel
theorem rem_S : ("#" : Str) = S [35] := by decide +kernel
theorem fig_le : ∀ a ∈ FIG, a ≤ 57 := by decide
theorem one_dig : ∀ a ∈ FIG, PySem.intText? (S [a]) = some ((a - 48 : Nat) : Int) ∧ (toString ((a - 48 : Nat) : Int) : Str) = S [a] := by decide +kernel
theorem two_dig : ∀ a ∈ FIG, ∀ b ∈ FIG, PySem.intText? (S [a, b]) = some (((a - 48) * 10 + (b - 48) : Nat) : Int) ∧ ((toString (((a - 48) * 10 + (b - 48) : Nat) : Int) : Str) = S [a, b] ↔ a ≠ 48) := by decide +kernel
theorem numtext (n : Nat) : (toString ((n : Nat) : Int) : Str) = S ((Nat.toDigits 10 n).map Char.toNat) := by
  have h := PySem.W.KIN.signs_num n
  rw [← h]
theorem lim_ok {n : Nat} {z : Str} (h : n ≤ 100000) (hz : z.length ≤ 100) : lim (n : Int) z = true := by
  unfold lim
  have h1 : ((n : Int).natAbs.log2 < 1920) := by
    rw [Int.natAbs_natCast]
    by_cases h0 : n = 0
    · subst h0; decide
    · exact (Nat.log2_lt h0).mpr (Nat.lt_of_le_of_lt (Nat.le_trans h (by decide)) (Nat.pow_lt_pow_right (a := 2) (m := 17) (by decide) (by decide)))
  rw [decide_eq_true h1, numtext, len_S, List.length_map]
  have := PyProof.Rows.tDigits_len_le 10 n
  rw [sz_le (by omega)]; rfl
theorem take_tw {p : Nat → Bool} (l : List Nat) : l.take (l.takeWhile p).length = l.takeWhile p := by
  exact (List.prefix_iff_eq_take.mp (List.takeWhile_prefix p)).symm
theorem tw_le {p : Nat → Bool} (l : List Nat) : (l.takeWhile p).length ≤ l.length := (List.takeWhile_prefix p).length_le
theorem drop_tw {p : Nat → Bool} (l : List Nat) : l.drop (l.takeWhile p).length = l.dropWhile p := by
  induction l with
  | nil => rfl
  | cons a l ih =>
    by_cases h : p a = true
    · rw [List.takeWhile_cons, if_pos h, List.dropWhile_cons, if_pos h, List.length_cons, List.drop_succ_cons, ih]
    · rw [List.takeWhile_cons, if_neg h, List.dropWhile_cons, if_neg h]; rfl
theorem sl_tw {l : List Nat} {at_ : Nat} {p : Nat → Bool} (h : at_ ≤ l.length) (hl : l.length ≤ 50000) : fSl (.str (S l)) (some (at_ : Int)) (some ((at_ + ((l.drop at_).takeWhile p).length : Nat) : Int)) = some (.str (S ((l.drop at_).takeWhile p))) := by
  have h2 := tw_le (p := p) (l.drop at_)
  rw [List.length_drop] at h2
  rw [fSl_S (by omega), Nat.min_eq_left h, Nat.min_eq_left (by omega), show at_ + ((l.drop at_).takeWhile p).length - at_ = ((l.drop at_).takeWhile p).length by omega, take_tw]
theorem word_at (l : List Nat) (at_ : Nat) (h : at_ ≤ l.length) (hl : l.length ≤ 50000) (P : D → DS → Prop) (E : Err → DS → Prop)
    (hok : ((l.drop at_).takeWhile (· ∈ LF)).length ≤ 12 → ∀ s, P (.tuple [.str "word", .str (S ((l.drop at_).takeWhile (· ∈ LF))), .int at_]) s) (hno : 12 < ((l.drop at_).takeWhile (· ∈ LF)).length → ∀ s, E (eTE at_ "name") s) : We (d__word_at [.str (S l), .int at_]) P E := by
  unfold d__word_at m__word_at
  simp only [we_ok, we_er, we_C, we_name, we_nil, we_cons, we_tup, we_lst, we_op2, we_op1, we_test, we_and, we_or, we_not, we_if, we_andV, we_orV, we_notV, we_noPart, we_part, we_sl, we_call, we_callS, we_te, we_def, we_defS, wp_next, wp_seq, wp_ret, wp_set, wp_ifs, wp_aug, wp_app, wp_raise, wp_tryTE, wp_for, wp_nx, wp_rt, wp_er, we_items, we_itemsT, we_comp, we_yes, we_rng1, kLoop, kDef, List.set_cons_zero, List.set_cons_succ, List.getElem?_cons_zero, List.getElem?_cons_succ, Option.some.injEq, exists_eq_left', exists_eq_left, PyData.bool.injEq, PyData.int.injEq, PyData.str.injEq, PyData.list.injEq, PyData.tuple.injEq, true_and, and_true, true_implies, reduceCtorEq, false_implies, exists_eq_right, Option.map_some, List.cons.injEq, List.length_cons, List.length_nil, List.map_cons, List.map_nil, List.nil_append, List.cons_append, Nat.reduceSub, List.replicate_succ, List.replicate_zero, let_S, fig_S, fAdd_S (show LET.length + FIG.length ≤ 16777216 by decide)]
  refine end_of l LF at_ h hl _ _ fun s => ?_
  simp only [we_ok, we_er, we_C, we_name, we_nil, we_cons, we_tup, we_lst, we_op2, we_op1, we_test, we_and, we_or, we_not, we_if, we_andV, we_orV, we_notV, we_noPart, we_part, we_sl, we_call, we_callS, we_te, we_def, we_defS, wp_next, wp_seq, wp_ret, wp_set, wp_ifs, wp_aug, wp_app, wp_raise, wp_tryTE, wp_for, wp_nx, wp_rt, wp_er, we_items, we_itemsT, we_comp, we_yes, we_rng1, kLoop, kDef, List.set_cons_zero, List.set_cons_succ, List.getElem?_cons_zero, List.getElem?_cons_succ, Option.some.injEq, exists_eq_left', exists_eq_left, PyData.bool.injEq, PyData.int.injEq, PyData.str.injEq, PyData.list.injEq, PyData.tuple.injEq, true_and, and_true, true_implies, reduceCtorEq, false_implies, exists_eq_right, Option.map_some, List.cons.injEq, List.length_cons, List.length_nil, fSub_I, fGt_I]
  refine ⟨fun z => ?_, fun z => ?_⟩
  · have z := of_decide_eq_true z
    refine ⟨_, _, ⟨rfl, rfl⟩, lim_ok (by omega) (by decide), hno (by omega) _⟩
  · have z := of_decide_eq_false z
    simp only [we_ok, we_er, we_C, we_name, we_nil, we_cons, we_tup, we_lst, we_op2, we_op1, we_test, we_and, we_or, we_not, we_if, we_andV, we_orV, we_notV, we_noPart, we_part, we_sl, we_call, we_callS, we_te, we_def, we_defS, wp_next, wp_seq, wp_ret, wp_set, wp_ifs, wp_aug, wp_app, wp_raise, wp_tryTE, wp_for, wp_nx, wp_rt, wp_er, we_items, we_itemsT, we_comp, we_yes, we_rng1, kLoop, kDef, List.set_cons_zero, List.set_cons_succ, List.getElem?_cons_zero, List.getElem?_cons_succ, Option.some.injEq, exists_eq_left', exists_eq_left, PyData.bool.injEq, PyData.int.injEq, PyData.str.injEq, PyData.list.injEq, PyData.tuple.injEq, true_and, and_true, true_implies, reduceCtorEq, false_implies, exists_eq_right, Option.map_some, List.cons.injEq, List.length_cons, List.length_nil, sl_tw h hl]
    exact ⟨by decide, hok (by omega) _⟩
/-- a written number's worth -/
def numW (w : List Nat) : Option Nat := match w with
  | [a] => some (a - 48)
  | [a, b] => if a = 48 then none else some ((a - 48) * 10 + (b - 48))
  | _ => none
theorem tw_all {p : Nat → Bool} {l : List Nat} : ∀ x ∈ l.takeWhile p, p x = true := fun x hx => by
  induction l with
  | nil => simp at hx
  | cons a l ih =>
    rw [List.takeWhile_cons] at hx
    split at hx
    · rename_i h
      rcases List.mem_cons.mp hx with rfl | h'
      · exact h
      · exact ih h'
    · simp at hx
theorem fInt_S {l : List Nat} {n : Int} (h : PySem.intText? (S l) = some n) (hl : l.length ≤ 640) : fInt (.str (S l)) = some (.int n) := by
  show (bif decide ((S l).length ≤ 640) then (PySem.intText? (S l)).map fun n => PyData.int n else none) = _
  rw [len_S, decide_eq_true hl, h]; rfl
theorem fStr_N {n : Nat} (h : n ≤ 100000) : fStr (.int (n : Int)) = some (.str (toString (n : Int) : Str)) := by
  show (bif decide ((n : Int).natAbs.log2 < 1920) then some (PyData.str (toString (n : Int) : Str)) else none) = _
  have := lim_ok (z := S []) h (by decide)
  unfold lim at this
  rw [(Bool.and_eq_true_iff.mp this).1]; rfl
theorem number_at (l : List Nat) (at_ : Nat) (h : at_ ≤ l.length) (hl : l.length ≤ 50000) (hw : (l.drop at_).takeWhile (· ∈ FIG) ≠ []) (P : D → DS → Prop) (E : Err → DS → Prop)
    (hok : ∀ n, numW ((l.drop at_).takeWhile (· ∈ FIG)) = some n → ∀ s, P (.tuple [.str "number", .int (n : Int), .int at_]) s) (hno : numW ((l.drop at_).takeWhile (· ∈ FIG)) = none → ∀ s, E (eTE at_ "number") s) : We (d__number_at [.str (S l), .int at_]) P E := by
  unfold d__number_at m__number_at
  simp only [we_ok, we_er, we_C, we_name, we_nil, we_cons, we_tup, we_lst, we_op2, we_op1, we_test, we_and, we_or, we_not, we_if, we_andV, we_orV, we_notV, we_noPart, we_part, we_sl, we_call, we_callS, we_te, we_def, we_defS, wp_next, wp_seq, wp_ret, wp_set, wp_ifs, wp_aug, wp_app, wp_raise, wp_tryTE, wp_for, wp_nx, wp_rt, wp_er, we_items, we_itemsT, we_comp, we_yes, we_rng1, kLoop, kDef, List.set_cons_zero, List.set_cons_succ, List.getElem?_cons_zero, List.getElem?_cons_succ, Option.some.injEq, exists_eq_left', exists_eq_left, PyData.bool.injEq, PyData.int.injEq, PyData.str.injEq, PyData.list.injEq, PyData.tuple.injEq, true_and, and_true, true_implies, reduceCtorEq, false_implies, exists_eq_right, Option.map_some, List.cons.injEq, List.length_cons, List.length_nil, List.map_cons, List.map_nil, List.nil_append, List.cons_append, Nat.reduceSub, List.replicate_succ, List.replicate_zero, fig_S]
  refine end_of l FIG at_ h hl _ _ fun s => ?_
  simp only [we_ok, we_er, we_C, we_name, we_nil, we_cons, we_tup, we_lst, we_op2, we_op1, we_test, we_and, we_or, we_not, we_if, we_andV, we_orV, we_notV, we_noPart, we_part, we_sl, we_call, we_callS, we_te, we_def, we_defS, wp_next, wp_seq, wp_ret, wp_set, wp_ifs, wp_aug, wp_app, wp_raise, wp_tryTE, wp_for, wp_nx, wp_rt, wp_er, we_items, we_itemsT, we_comp, we_yes, we_rng1, kLoop, kDef, List.set_cons_zero, List.set_cons_succ, List.getElem?_cons_zero, List.getElem?_cons_succ, Option.some.injEq, exists_eq_left', exists_eq_left, PyData.bool.injEq, PyData.int.injEq, PyData.str.injEq, PyData.list.injEq, PyData.tuple.injEq, true_and, and_true, true_implies, reduceCtorEq, false_implies, exists_eq_right, Option.map_some, List.cons.injEq, List.length_cons, List.length_nil, fSub_I, fGt_I, sl_tw h hl]
  have hall : ∀ x ∈ (l.drop at_).takeWhile (· ∈ FIG), x ∈ FIG := fun x hx => of_decide_eq_true (tw_all x hx)
  generalize hg : (l.drop at_).takeWhile (· ∈ FIG) = w at *
  match w, hw, hall, hok, hno with
  | [a], _, hall, hok, hno =>
    obtain ⟨k1, k2⟩ := one_dig a (hall a (by simp))
    have ha := fig_le a (hall a (by simp))
    refine ⟨fun z => ?_, fun _ => ?_⟩
    · have := of_decide_eq_true z
      simp only [List.length_cons, List.length_nil] at this
      omega
    · simp only [we_ok, we_er, we_C, we_name, we_nil, we_cons, we_tup, we_lst, we_op2, we_op1, we_test, we_and, we_or, we_not, we_if, we_andV, we_orV, we_notV, we_noPart, we_part, we_sl, we_call, we_callS, we_te, we_def, we_defS, wp_next, wp_seq, wp_ret, wp_set, wp_ifs, wp_aug, wp_app, wp_raise, wp_tryTE, wp_for, wp_nx, wp_rt, wp_er, we_items, we_itemsT, we_comp, we_yes, we_rng1, kLoop, kDef, List.set_cons_zero, List.set_cons_succ, List.getElem?_cons_zero, List.getElem?_cons_succ, Option.some.injEq, exists_eq_left', exists_eq_left, PyData.bool.injEq, PyData.int.injEq, PyData.str.injEq, PyData.list.injEq, PyData.tuple.injEq, true_and, and_true, true_implies, reduceCtorEq, false_implies, exists_eq_right, Option.map_some, List.cons.injEq, List.length_cons, List.length_nil, fInt_S k1 (show [a].length ≤ 640 by simp), fStr_N (show a - 48 ≤ 100000 by omega), k2, fNe_S, decide_true, Bool.not_true]
      exact ⟨by decide, hok _ rfl _⟩
  | [a, b], _, hall, hok, hno =>
    obtain ⟨k1, k2⟩ := two_dig a (hall a (by simp)) b (hall b (by simp))
    have ha := fig_le a (hall a (by simp))
    have hb := fig_le b (hall b (by simp))
    refine ⟨fun z => ?_, fun _ => ?_⟩
    · have := of_decide_eq_true z
      simp only [List.length_cons, List.length_nil] at this
      omega
    · simp only [we_ok, we_er, we_C, we_name, we_nil, we_cons, we_tup, we_lst, we_op2, we_op1, we_test, we_and, we_or, we_not, we_if, we_andV, we_orV, we_notV, we_noPart, we_part, we_sl, we_call, we_callS, we_te, we_def, we_defS, wp_next, wp_seq, wp_ret, wp_set, wp_ifs, wp_aug, wp_app, wp_raise, wp_tryTE, wp_for, wp_nx, wp_rt, wp_er, we_items, we_itemsT, we_comp, we_yes, we_rng1, kLoop, kDef, List.set_cons_zero, List.set_cons_succ, List.getElem?_cons_zero, List.getElem?_cons_succ, Option.some.injEq, exists_eq_left', exists_eq_left, PyData.bool.injEq, PyData.int.injEq, PyData.str.injEq, PyData.list.injEq, PyData.tuple.injEq, true_and, and_true, true_implies, reduceCtorEq, false_implies, exists_eq_right, Option.map_some, List.cons.injEq, List.length_cons, List.length_nil, fInt_S k1 (show [a, b].length ≤ 640 by simp), fStr_N (show (a - 48) * 10 + (b - 48) ≤ 100000 by omega), fNe_S]
      refine ⟨fun z => ?_, fun z => ?_⟩
      · have e : a = 48 := by
          by_cases q : a = 48
          · exact q
          · rw [decide_eq_true (k2.mpr q)] at z; cases z
        refine ⟨_, _, ⟨rfl, rfl⟩, lim_ok (by omega) (by decide), hno ?_ _⟩
        show (if a = 48 then none else _) = none
        rw [if_pos e]
      · have e : a ≠ 48 := fun q => by
          have : ¬ ((toString (((a - 48) * 10 + (b - 48) : Nat) : Int) : Str) = S [a, b]) := fun y => k2.mp y q
          rw [decide_eq_false this] at z; cases z
        refine ⟨by decide, hok _ ?_ _⟩
        show (if a = 48 then none else _) = _
        rw [if_neg e]
  | a :: b :: c :: r, _, hall, hok, hno =>
    refine ⟨fun _ => ?_, fun z => ?_⟩
    · exact ⟨_, _, ⟨rfl, rfl⟩, lim_ok (by omega) (by decide), hno rfl _⟩
    · have := of_decide_eq_false z
      simp only [List.length_cons] at this
      omega
theorem remark_loop (l : List Nat) (hl : l.length ≤ 50000) : ∀ n (at_ : Nat) s, at_ ≤ l.length → l.length - at_ < n → ∀ K : Kn, (∀ s, K.nx [some (.str (S l)), some (.int ((at_ + ((l.drop at_).takeWhile (· ≠ 10)).length : Nat) : Int))] s) →
      Wp (mWhile (mAnd (mTest (mOp2 fLt (mName 1) (mOp1 fLen (mName 0)))) (mTest (mOp2 fNe (mOp2 fIx (mName 0) (mName 1)) (mC (.str ("\n" : Str)))))) (mAug 1 fAddI (mC (.int 1))) n [some (.str (S l)), some (.int (at_ : Nat))] s) K := by
  intro n
  induction n with
  | zero => intro at_ s h1 h2; omega
  | succ n ih =>
    intro at_ s h1 h2 K hK
    rw [wp_while]
    have L : l.length ≤ 16777216 := by omega
    simp only [we_ok, we_er, we_C, we_name, we_nil, we_cons, we_tup, we_lst, we_op2, we_op1, we_test, we_and, we_or, we_not, we_if, we_andV, we_orV, we_notV, we_noPart, we_part, we_sl, we_call, we_callS, we_te, we_def, we_defS, wp_next, wp_seq, wp_ret, wp_set, wp_ifs, wp_aug, wp_app, wp_raise, wp_tryTE, wp_for, wp_nx, wp_rt, wp_er, we_items, we_itemsT, we_comp, we_yes, we_rng1, kLoop, kDef, List.set_cons_zero, List.set_cons_succ, List.getElem?_cons_zero, List.getElem?_cons_succ, Option.some.injEq, exists_eq_left', exists_eq_left, PyData.bool.injEq, PyData.int.injEq, PyData.str.injEq, PyData.list.injEq, PyData.tuple.injEq, true_and, and_true, true_implies, reduceCtorEq, false_implies, exists_eq_right, Option.map_some, List.cons.injEq, List.length_cons, List.length_nil, fLen_S L, fLt_I]
    by_cases h : at_ < l.length
    · have e : l[at_]? = some l[at_] := by simp [h]
      have ed := drop_cons h
      simp only [we_ok, we_er, we_C, we_name, we_nil, we_cons, we_tup, we_lst, we_op2, we_op1, we_test, we_and, we_or, we_not, we_if, we_andV, we_orV, we_notV, we_noPart, we_part, we_sl, we_call, we_callS, we_te, we_def, we_defS, wp_next, wp_seq, wp_ret, wp_set, wp_ifs, wp_aug, wp_app, wp_raise, wp_tryTE, wp_for, wp_nx, wp_rt, wp_er, we_items, we_itemsT, we_comp, we_yes, we_rng1, kLoop, kDef, List.set_cons_zero, List.set_cons_succ, List.getElem?_cons_zero, List.getElem?_cons_succ, Option.some.injEq, exists_eq_left', exists_eq_left, PyData.bool.injEq, PyData.int.injEq, PyData.str.injEq, PyData.list.injEq, PyData.tuple.injEq, true_and, and_true, true_implies, reduceCtorEq, false_implies, exists_eq_right, Option.map_some, List.cons.injEq, List.length_cons, List.length_nil, fIx_S L e, nl_S, fNe_S, S_inj, fAddI_I, show ((at_ : Int) < (l.length : Int)) by omega, decide_true]
      refine ⟨fun hm => ?_, fun hm => ?_⟩
      · have c : ((at_ : Int) + 1) = ((at_ + 1 : Nat) : Int) := by omega
        rw [c]
        refine ih (at_ + 1) _ (by omega) (by omega) _ fun s => ?_
        have := hK s
        have hm : l[at_] ≠ 10 := fun q => by simp [q] at hm
        rw [ed, List.takeWhile_cons, if_pos (decide_eq_true hm)] at this
        rw [List.length_cons] at this
        rw [show at_ + 1 + (List.takeWhile (fun x => decide (x ≠ 10)) (List.drop (at_ + 1) l)).length = at_ + ((List.takeWhile (fun x => decide (x ≠ 10)) (List.drop (at_ + 1) l)).length + 1) by omega]
        exact this
      · have := hK s
        have hm : ¬ (l[at_] ≠ 10) := fun q => by simp [q] at hm
        rw [ed, List.takeWhile_cons, if_neg (by rw [decide_eq_false hm]; exact Bool.false_ne_true)] at this
        exact this
    · have : l.drop at_ = [] := List.drop_eq_nil_of_le (by omega)
      simp only [we_ok, we_er, we_C, we_name, we_nil, we_cons, we_tup, we_lst, we_op2, we_op1, we_test, we_and, we_or, we_not, we_if, we_andV, we_orV, we_notV, we_noPart, we_part, we_sl, we_call, we_callS, we_te, we_def, we_defS, wp_next, wp_seq, wp_ret, wp_set, wp_ifs, wp_aug, wp_app, wp_raise, wp_tryTE, wp_for, wp_nx, wp_rt, wp_er, we_items, we_itemsT, we_comp, we_yes, we_rng1, kLoop, kDef, List.set_cons_zero, List.set_cons_succ, List.getElem?_cons_zero, List.getElem?_cons_succ, Option.some.injEq, exists_eq_left', exists_eq_left, PyData.bool.injEq, PyData.int.injEq, PyData.str.injEq, PyData.list.injEq, PyData.tuple.injEq, true_and, and_true, true_implies, reduceCtorEq, false_implies, exists_eq_right, Option.map_some, List.cons.injEq, List.length_cons, List.length_nil, show ¬ ((at_ : Int) < (l.length : Int)) by omega, decide_false]
      have k := hK s
      rw [this] at k
      simpa using k
theorem behind_remark (l : List Nat) (at_ : Nat) (h : at_ ≤ l.length) (hl : l.length ≤ 50000) (P : D → DS → Prop) (E : Err → DS → Prop) (hp : ∀ s, P (.int ((at_ + ((l.drop at_).takeWhile (· ≠ 10)).length : Nat) : Int)) s) : We (d__behind_remark [.str (S l), .int at_]) P E := by
  unfold d__behind_remark m__behind_remark
  simp only [we_ok, we_er, we_C, we_name, we_nil, we_cons, we_tup, we_lst, we_op2, we_op1, we_test, we_and, we_or, we_not, we_if, we_andV, we_orV, we_notV, we_noPart, we_part, we_sl, we_call, we_callS, we_te, we_def, we_defS, wp_next, wp_seq, wp_ret, wp_set, wp_ifs, wp_aug, wp_app, wp_raise, wp_tryTE, wp_for, wp_nx, wp_rt, wp_er, we_items, we_itemsT, we_comp, we_yes, we_rng1, kLoop, kDef, List.set_cons_zero, List.set_cons_succ, List.getElem?_cons_zero, List.getElem?_cons_succ, Option.some.injEq, exists_eq_left', exists_eq_left, PyData.bool.injEq, PyData.int.injEq, PyData.str.injEq, PyData.list.injEq, PyData.tuple.injEq, true_and, and_true, true_implies, reduceCtorEq, false_implies, exists_eq_right, Option.map_some, List.cons.injEq, List.length_cons, List.length_nil, List.map_cons, List.map_nil, List.nil_append, List.cons_append, Nat.sub_self, List.replicate_zero]
  refine remark_loop l hl FU at_ _ h (by unfold FU; omega) _ fun s => ?_
  simp only [we_ok, we_er, we_C, we_name, we_nil, we_cons, we_tup, we_lst, we_op2, we_op1, we_test, we_and, we_or, we_not, we_if, we_andV, we_orV, we_notV, we_noPart, we_part, we_sl, we_call, we_callS, we_te, we_def, we_defS, wp_next, wp_seq, wp_ret, wp_set, wp_ifs, wp_aug, wp_app, wp_raise, wp_tryTE, wp_for, wp_nx, wp_rt, wp_er, we_items, we_itemsT, we_comp, we_yes, we_rng1, kLoop, kDef, List.set_cons_zero, List.set_cons_succ, List.getElem?_cons_zero, List.getElem?_cons_succ, Option.some.injEq, exists_eq_left', exists_eq_left, PyData.bool.injEq, PyData.int.injEq, PyData.str.injEq, PyData.list.injEq, PyData.tuple.injEq, true_and, and_true, true_implies, reduceCtorEq, false_implies, exists_eq_right, Option.map_some, List.cons.injEq, List.length_cons, List.length_nil]
  exact hp s
/-! ### the tokens -/
def kWord (w : List Nat) (at_ : Nat) : D := .tuple [.str "word", .str (S w), .int at_]
def kNum (n at_ : Nat) : D := .tuple [.str "number", .int (n : Int), .int at_]
def kSign (c at_ : Nat) : D := .tuple [.str "sign", .str (S [c]), .int at_]
def kEnd (at_ : Nat) : D := .tuple [.str "end", .str "", .int at_]
inductive Tks where
  | ok (l : List D)
  | no (p : Nat) (w : Str)
def Tks.pre (d : D) : Tks → Tks
  | .ok l => .ok (d :: l)
  | .no p w => .no p w
def tk : Nat → List Nat → Nat → Tks
  | 0, _, _ => .ok []
  | _ + 1, [], _ => .ok []
  | n + 1, c :: r, at_ =>
    if c ∈ BL then tk n r (at_ + 1)
    else if c = 35 then tk n ((c :: r).dropWhile (· ≠ 10)) (at_ + ((c :: r).takeWhile (· ≠ 10)).length)
    else if c ∈ LET then (if ((c :: r).takeWhile (· ∈ LF)).length ≤ 12 then (tk n ((c :: r).dropWhile (· ∈ LF)) (at_ + ((c :: r).takeWhile (· ∈ LF)).length)).pre (kWord ((c :: r).takeWhile (· ∈ LF)) at_) else .no at_ "name")
    else if c ∈ FIG then (match numW ((c :: r).takeWhile (· ∈ FIG)) with
      | some k => (tk n ((c :: r).dropWhile (· ∈ FIG)) (at_ + ((c :: r).takeWhile (· ∈ FIG)).length)).pre (kNum k at_)
      | none => .no at_ "number")
    else if c ∈ SIG then (tk n r (at_ + 1)).pre (kSign c at_)
    else .no at_ "sign"
/-- str of what a number's text is worth has its length -/
theorem numW_str {w : List Nat} {k : Nat} (h : numW w = some k) (hall : ∀ x ∈ w, x ∈ FIG) : (toString (k : Int) : Str) = S w ∧ k ≤ 99 ∧ w.length ≤ 2 := by
  match w, h, hall with
  | [a], h, hall =>
    have e : k = a - 48 := (Option.some.inj h).symm
    have := fig_le a (hall a (by simp))
    subst e
    exact ⟨(one_dig a (hall a (by simp))).2, by omega, by simp⟩
  | [a, b], h, hall =>
    have h : (if a = 48 then none else some ((a - 48) * 10 + (b - 48))) = some k := h
    by_cases q : a = 48
    · rw [if_pos q] at h; cases h
    · rw [if_neg q] at h
      have e : k = (a - 48) * 10 + (b - 48) := (Option.some.inj h).symm
      have h1 := fig_le a (hall a (by simp))
      have h2 := fig_le b (hall b (by simp))
      subst e
      exact ⟨(two_dig a (hall a (by simp)) b (hall b (by simp))).2.mpr q, by omega, by simp⟩
def cTok : Mr Bool := mTest (mOp2 fLt (mName 2) (mOp1 fLen (mName 0)))
def bTok : Ms := (mSeq (mSet 3 (mOp2 fIx (mName 0) (mName 2))) (mIfS (mTest (mOp2 fIn (mName 3) (mC (.str (" \n" : Str))))) (mAug 2 fAddI (mC (.int 1))) (mIfS (mTest (mOp2 fEq (mName 3) (mC (.str ("#" : Str))))) (mSet 2 (mCall d__behind_remark (mCons (mName 0) (mCons (mName 2) (mNil))))) (mIfS (mTest (mOp2 fIn (mName 3) (mC (.str ("abcdefghijklmnopqrstuvwxyz" : Str))))) (mSeq (mApp 1 (mCall d__word_at (mCons (mName 0) (mCons (mName 2) (mNil))))) (mAug 2 fAddI (mOp1 fLen (mOp2 fIx (mOp2 fIx (mName 1) (mOp1 fNeg (mC (.int 1)))) (mC (.int 1)))))) (mIfS (mTest (mOp2 fIn (mName 3) (mC (.str ("0123456789" : Str))))) (mSeq (mApp 1 (mCall d__number_at (mCons (mName 0) (mCons (mName 2) (mNil))))) (mAug 2 fAddI (mOp1 fLen (mOp1 fStr (mOp2 fIx (mOp2 fIx (mName 1) (mOp1 fNeg (mC (.int 1)))) (mC (.int 1))))))) (mIfS (mTest (mOp2 fIn (mName 3) (mC (.str ("=,;:|-" : Str))))) (mSeq (mApp 1 (mTup (mCons (mC (.str ("sign" : Str))) (mCons (mName 3) (mCons (mName 2) (mNil)))))) (mAug 2 fAddI (mC (.int 1)))) (mRaise (mTE (mCons (mName 2) (mCons (mC (.str ("sign" : Str))) (mNil)))))))))))
theorem fIx_last {l : List D} {d : D} : fIx (.list (l ++ [d])) (.int (-1)) = some d := by
  show atI (l ++ [d]) (-1) = some d
  unfold atI
  have : ixN (l ++ [d]).length (-1) = some l.length := by
    unfold ixN
    rw [List.length_append, if_neg (by decide), if_pos (by simp; omega)]
    simp only [List.length_cons, List.length_nil]
    congr 1
    omega
  rw [this]
  simp
theorem drop_tw2 {p : Nat → Bool} {l : List Nat} {at_ : Nat} : l.drop (at_ + ((l.drop at_).takeWhile p).length) = (l.drop at_).dropWhile p := by
  rw [← List.drop_drop, drop_tw]
theorem tok_loop (l : List Nat) (hl : l.length ≤ 50000) : ∀ n (at_ : Nat) (acc : List D) sg s, at_ ≤ l.length → l.length - at_ < n → acc.length ≤ at_ → ∀ K : Kn, (match tk n (l.drop at_) at_ with
    | .ok ts => ∀ sg s, acc.length + ts.length ≤ l.length → K.nx [some (.str (S l)), some (.list (acc ++ ts)), some (.int (l.length : Nat)), sg] s
    | .no p w => ∀ s, K.er (eTE p w) s) →
      Wp (mWhile cTok bTok n [some (.str (S l)), some (.list acc), some (.int (at_ : Nat)), sg] s) K := by
  intro n
  induction n with
  | zero => intro at_ acc sg s h1 h2; omega
  | succ n ih =>
    intro at_ acc sg s h1 h2 h3 K hK
    rw [wp_while]
    generalize mWhile cTok bTok n = W at ih ⊢
    have L : l.length ≤ 16777216 := by omega
    unfold cTok
    simp only [we_ok, we_er, we_C, we_name, we_nil, we_cons, we_tup, we_lst, we_op2, we_op1, we_test, we_and, we_or, we_not, we_if, we_andV, we_orV, we_notV, we_noPart, we_part, we_sl, we_call, we_callS, we_te, we_def, we_defS, wp_next, wp_seq, wp_ret, wp_set, wp_ifs, wp_aug, wp_app, wp_raise, wp_tryTE, wp_for, wp_nx, wp_rt, wp_er, we_items, we_itemsT, we_comp, we_yes, we_rng1, kLoop, kDef, List.set_cons_zero, List.set_cons_succ, List.getElem?_cons_zero, List.getElem?_cons_succ, Option.some.injEq, exists_eq_left', exists_eq_left, PyData.bool.injEq, PyData.int.injEq, PyData.str.injEq, PyData.list.injEq, PyData.tuple.injEq, true_and, and_true, true_implies, reduceCtorEq, false_implies, exists_eq_right, Option.map_some, List.cons.injEq, List.length_cons, List.length_nil, fLen_S L, fLt_I]
    by_cases h : at_ < l.length
    · have e : l[at_]? = some l[at_] := by simp [h]
      have ed := drop_cons h
      have c1 : ((at_ : Int) + 1) = ((at_ + 1 : Nat) : Int) := by omega
      unfold bTok
      simp only [we_ok, we_er, we_C, we_name, we_nil, we_cons, we_tup, we_lst, we_op2, we_op1, we_test, we_and, we_or, we_not, we_if, we_andV, we_orV, we_notV, we_noPart, we_part, we_sl, we_call, we_callS, we_te, we_def, we_defS, wp_next, wp_seq, wp_ret, wp_set, wp_ifs, wp_aug, wp_app, wp_raise, wp_tryTE, wp_for, wp_nx, wp_rt, wp_er, we_items, we_itemsT, we_comp, we_yes, we_rng1, kLoop, kDef, List.set_cons_zero, List.set_cons_succ, List.getElem?_cons_zero, List.getElem?_cons_succ, Option.some.injEq, exists_eq_left', exists_eq_left, PyData.bool.injEq, PyData.int.injEq, PyData.str.injEq, PyData.list.injEq, PyData.tuple.injEq, true_and, and_true, true_implies, reduceCtorEq, false_implies, exists_eq_right, Option.map_some, List.cons.injEq, List.length_cons, List.length_nil, fIx_S L e, fIn_S, bl_S, rem_S, let_S, fig_S, sig_S, fEq_S, S_inj, show ((at_ : Int) < (l.length : Int)) by omega, decide_true, fAddI_I, fNeg_I, c1]
      rw [ed] at hK
      unfold tk at hK
      rw [← ed] at hK
      have twp : ∀ (p : Nat → Bool), p l[at_] = true → 1 ≤ ((l.drop at_).takeWhile p).length := fun p hp => by
        rw [ed, List.takeWhile_cons, if_pos hp, List.length_cons]; omega
      have twl : ∀ (p : Nat → Bool), at_ + ((l.drop at_).takeWhile p).length ≤ l.length := fun p => by
        have := tw_le (p := p) (l.drop at_)
        rw [List.length_drop] at this; omega
      have fin : ∀ (k : Nat) (d : D) sg s, at_ + k ≤ l.length → 1 ≤ k → (match (tk n (l.drop (at_ + k)) (at_ + k)).pre d with
          | .ok ts => ∀ sg s, acc.length + ts.length ≤ l.length → K.nx [some (.str (S l)), some (.list (acc ++ ts)), some (.int (l.length : Nat)), sg] s
          | .no p w => ∀ s, K.er (eTE p w) s) → Wp (W [some (.str (S l)), some (.list (acc ++ [d])), some (.int ((at_ + k : Nat) : Int)), sg] s) K := fun k d sg s k1 k2 k3 => by
        refine ih (at_ + k) (acc ++ [d]) sg s k1 (by omega) (by rw [List.length_append]; simp; omega) K ?_
        cases q : tk n (l.drop (at_ + k)) (at_ + k) with
        | no p w => rw [q] at k3; exact k3
        | ok us =>
          rw [q] at k3
          intro sg s hz
          rw [List.append_assoc]
          exact k3 sg s (by rw [List.length_append] at hz; simp at hz ⊢; omega)
      refine ⟨fun m1 => ?_, fun m1 => ⟨fun m2 => ?_, fun m2 => ⟨fun m3 => ?_, fun m3 => ⟨fun m4 => ?_, fun m4 => ⟨fun m5 => ?_, fun m5 => ?_⟩⟩⟩⟩⟩
      · rw [if_pos (of_decide_eq_true m1)] at hK
        exact ih (at_ + 1) acc _ s (by omega) (by omega) (by omega) K hK
      · rw [if_neg (of_decide_eq_false m1), if_pos (of_decide_eq_true m2)] at hK
        have hne : decide (l[at_] ≠ 10) = true := by rw [of_decide_eq_true m2]; decide
        have k1 := twp (fun x => decide (x ≠ 10)) hne
        have k2 := twl (fun x => decide (x ≠ 10))
        refine behind_remark l at_ h1 hl _ _ fun s1 => ?_
        refine ih _ acc _ s k2 (by omega) (by omega) K ?_
        rw [drop_tw2]
        exact hK
      · rw [if_neg (of_decide_eq_false m1), if_neg (of_decide_eq_false m2), if_pos (of_decide_eq_true m3)] at hK
        have hne : decide (l[at_] ∈ LF) = true := decide_eq_true (List.mem_append_left _ (of_decide_eq_true m3))
        have k1 := twp (fun x => decide (x ∈ LF)) hne
        have k2 := twl (fun x => decide (x ∈ LF))
        refine word_at l at_ h1 hl _ _ (fun k s1 => ?_) (fun k s1 => ?_)
        · rw [if_pos k] at hK
          have k3 : ((l.drop at_).takeWhile (· ∈ LF)).length ≤ 16777216 := by omega
          refine ⟨sz_le (by omega), _, fIx_last, _, fIx_T (i := 1) rfl, _, fLen_S k3, _, fAddI_I, ?_⟩
          rw [show ((at_ : Int) + (((l.drop at_).takeWhile (· ∈ LF)).length : Int)) = ((at_ + ((l.drop at_).takeWhile (· ∈ LF)).length : Nat) : Int) by omega]
          refine fin _ _ _ s k2 k1 ?_
          rw [drop_tw2]
          exact hK
        · rw [if_neg (by omega)] at hK
          exact hK s
      · rw [if_neg (of_decide_eq_false m1), if_neg (of_decide_eq_false m2), if_neg (of_decide_eq_false m3), if_pos (of_decide_eq_true m4)] at hK
        have k1 := twp (fun x => decide (x ∈ FIG)) m4
        have k2 := twl (fun x => decide (x ∈ FIG))
        refine number_at l at_ h1 hl (fun z => by rw [z] at k1; simp at k1) _ _ (fun k hk s1 => ?_) (fun hk s1 => ?_)
        · rw [hk] at hK
          obtain ⟨w1, w2, w3⟩ := numW_str hk fun x hx => of_decide_eq_true (tw_all x hx)
          have k3 : ((l.drop at_).takeWhile (· ∈ FIG)).length ≤ 16777216 := by omega
          refine ⟨sz_le (by omega), _, fIx_last, _, fIx_T (i := 1) rfl, _, fStr_N (by omega), _, (by rw [w1]; exact fLen_S k3), _, fAddI_I, ?_⟩
          rw [show ((at_ : Int) + (((l.drop at_).takeWhile (· ∈ FIG)).length : Int)) = ((at_ + ((l.drop at_).takeWhile (· ∈ FIG)).length : Nat) : Int) by omega]
          refine fin _ _ _ s k2 k1 ?_
          rw [drop_tw2]
          exact hK
        · rw [hk] at hK
          exact hK s
      · rw [if_neg (of_decide_eq_false m1), if_neg (of_decide_eq_false m2), if_neg (of_decide_eq_false m3), if_neg (of_decide_eq_false m4), if_pos (of_decide_eq_true m5)] at hK
        exact ⟨by decide, sz_le (by omega), fin 1 _ _ s (by omega) (by omega) hK⟩
      · rw [if_neg (of_decide_eq_false m1), if_neg (of_decide_eq_false m2), if_neg (of_decide_eq_false m3), if_neg (of_decide_eq_false m4), if_neg (of_decide_eq_false m5)] at hK
        exact ⟨_, _, ⟨rfl, rfl⟩, lim_ok (by omega) (by decide), hK s⟩
    · have : l.drop at_ = [] := List.drop_eq_nil_of_le (by omega)
      simp only [we_ok, we_er, we_C, we_name, we_nil, we_cons, we_tup, we_lst, we_op2, we_op1, we_test, we_and, we_or, we_not, we_if, we_andV, we_orV, we_notV, we_noPart, we_part, we_sl, we_call, we_callS, we_te, we_def, we_defS, wp_next, wp_seq, wp_ret, wp_set, wp_ifs, wp_aug, wp_app, wp_raise, wp_tryTE, wp_for, wp_nx, wp_rt, wp_er, we_items, we_itemsT, we_comp, we_yes, we_rng1, kLoop, kDef, List.set_cons_zero, List.set_cons_succ, List.getElem?_cons_zero, List.getElem?_cons_succ, Option.some.injEq, exists_eq_left', exists_eq_left, PyData.bool.injEq, PyData.int.injEq, PyData.str.injEq, PyData.list.injEq, PyData.tuple.injEq, true_and, and_true, true_implies, reduceCtorEq, false_implies, exists_eq_right, Option.map_some, List.cons.injEq, List.length_cons, List.length_nil, show ¬ ((at_ : Int) < (l.length : Int)) by omega, decide_false]
      rw [this] at hK
      have e : at_ = l.length := by omega
      have k : ∀ sg s, acc.length + 0 ≤ l.length → K.nx [some (.str (S l)), some (.list (acc ++ [])), some (.int (l.length : Nat)), sg] s := hK
      rw [List.append_nil] at k
      rw [e]
      exact k sg s (by omega)
end M
set_option maxRecDepth 100000
set_option maxHeartbeats 1000000
namespace M
open PySem L2
theorem tk_fuel : ∀ n m (l : List Nat) at_, l.length ≤ n → l.length ≤ m → tk n l at_ = tk m l at_ := by
  intro n
  induction n with
  | zero =>
    intro m l at_ h1 h2
    have : l = [] := List.length_eq_zero_iff.mp (by omega)
    subst this
    cases m <;> rfl
  | succ n ih =>
    intro m l at_ h1 h2
    cases l with
    | nil => cases m <;> rfl
    | cons c r =>
      cases m with
      | zero => simp at h2
      | succ m =>
        have hr : r.length ≤ n ∧ r.length ≤ m := by simp at h1 h2; omega
        have hd : ∀ (p : Nat → Bool), p c = true → ((c :: r).dropWhile p).length ≤ n ∧ ((c :: r).dropWhile p).length ≤ m := fun p hp => by
          rw [List.dropWhile_cons, if_pos hp]
          have := (List.dropWhile_suffix p (l := r)).length_le
          omega
        unfold tk
        by_cases k1 : c ∈ BL
        · rw [if_pos k1, if_pos k1, ih m r _ hr.1 hr.2]
        · rw [if_neg k1, if_neg k1]
          by_cases k2 : c = 35
          · have := hd (fun x => decide (x ≠ 10)) (by rw [k2]; decide)
            rw [if_pos k2, if_pos k2, ih m _ _ this.1 this.2]
          · rw [if_neg k2, if_neg k2]
            by_cases k3 : c ∈ LET
            · have := hd (fun x => decide (x ∈ LF)) (decide_eq_true (List.mem_append_left _ k3))
              rw [if_pos k3, if_pos k3, ih m _ _ this.1 this.2]
            · rw [if_neg k3, if_neg k3]
              by_cases k4 : c ∈ FIG
              · have := hd (fun x => decide (x ∈ FIG)) (decide_eq_true k4)
                rw [if_pos k4, if_pos k4]
                cases numW ((c :: r).takeWhile (· ∈ FIG)) with
                | none => rfl
                | some k => dsimp only; rw [ih m _ _ this.1 this.2]
              · rw [if_neg k4, if_neg k4]
                by_cases k5 : c ∈ SIG
                · rw [if_pos k5, if_pos k5, ih m r _ hr.1 hr.2]
                · rw [if_neg k5, if_neg k5]
def tok (l : List Nat) (at_ : Nat) : Tks := tk l.length l at_
def Tks.app (ds : List D) : Tks → Tks
  | .ok l => .ok (ds ++ l)
  | .no p w => .no p w
theorem app_nil (t : Tks) : t.app [] = t := by cases t <;> rfl
theorem app_app (t : Tks) (a b : List D) : (t.app a).app b = t.app (b ++ a) := by
  cases t with
  | ok l => show Tks.ok _ = Tks.ok _; rw [List.append_assoc]
  | no p w => rfl
theorem pre_app (t : Tks) (d : D) : t.pre d = t.app [d] := by cases t <;> rfl
theorem tok_nil (at_ : Nat) : tok [] at_ = .ok [] := rfl
theorem tok_blank {c : Nat} (h : c ∈ BL) (r : List Nat) (at_ : Nat) : tok (c :: r) at_ = tok r (at_ + 1) := by
  show tk (r.length + 1) (c :: r) at_ = _
  unfold tk
  rw [if_pos h]; rfl
theorem bl_no {c : Nat} (h : c ∈ BL) : c ∉ LET ∧ c ∉ FIG ∧ c ∉ SIG ∧ c ≠ 35 := by revert c; decide
theorem let_no : ∀ c ∈ LET, c ∉ BL ∧ c ≠ 35 := by decide
theorem fig_no : ∀ c ∈ FIG, c ∉ BL ∧ c ≠ 35 ∧ c ∉ LET := by decide
theorem sig_no : ∀ c ∈ SIG, c ∉ BL ∧ c ≠ 35 ∧ c ∉ LET ∧ c ∉ FIG := by decide
theorem tok_rem {x r : List Nat} (hx : ∀ c ∈ x, c ≠ 10) (at_ : Nat) : tok (35 :: x ++ 10 :: r) at_ = tok r (at_ + x.length + 2) := by
  show tk (x ++ 10 :: r).length.succ (35 :: (x ++ 10 :: r)) at_ = _
  unfold tk
  rw [if_neg (by decide), if_pos rfl]
  have h1 : ∀ (y : List Nat), (∀ c ∈ y, c ≠ 10) → (y ++ 10 :: r).takeWhile (· ≠ 10) = y ∧ (y ++ 10 :: r).dropWhile (· ≠ 10) = 10 :: r := fun y hy => by
    induction y with
    | nil => exact ⟨by simp, by simp⟩
    | cons a y ih =>
      obtain ⟨i1, i2⟩ := ih fun c hc => hy c (List.mem_cons_of_mem _ hc)
      have := hy a (List.mem_cons_self ..)
      refine ⟨?_, ?_⟩
      · rw [List.cons_append, List.takeWhile_cons, if_pos (decide_eq_true this), i1]
      · rw [List.cons_append, List.dropWhile_cons, if_pos (decide_eq_true this), i2]
  obtain ⟨i1, i2⟩ := h1 (35 :: x) fun c hc => by
    rcases List.mem_cons.mp hc with rfl | h
    · decide
    · exact hx c h
  rw [List.cons_append] at i1 i2
  rw [i1, i2, tk_fuel _ (10 :: r).length _ _ (by simp) (Nat.le_refl _)]
  have := tok_blank (c := 10) (by decide) r (at_ + (35 :: x).length)
  unfold tok at this
  rw [this, List.length_cons]
  rfl
/-- what does not start so -/
def NoStart (A : List Nat) (r : List Nat) : Prop := ∀ c, r.head? = some c → c ∉ A
theorem tw_all_app {A w r : List Nat} (hw : ∀ c ∈ w, c ∈ A) (hr : NoStart A r) : (w ++ r).takeWhile (· ∈ A) = w ∧ (w ++ r).dropWhile (· ∈ A) = r := by
  induction w with
  | nil =>
    cases r with
    | nil => exact ⟨rfl, rfl⟩
    | cons c r =>
      have := hr c rfl
      refine ⟨?_, ?_⟩
      · rw [List.nil_append, List.takeWhile_cons, if_neg (by simpa using this)]
      · rw [List.nil_append, List.dropWhile_cons, if_neg (by simpa using this)]
  | cons a w ih =>
    obtain ⟨i1, i2⟩ := ih fun c hc => hw c (List.mem_cons_of_mem _ hc)
    have := decide_eq_true (hw a (List.mem_cons_self ..))
    refine ⟨?_, ?_⟩
    · rw [List.cons_append, List.takeWhile_cons, if_pos this, i1]
    · rw [List.cons_append, List.dropWhile_cons, if_pos this, i2]
theorem tok_word {c : Nat} {w r : List Nat} (hc : c ∈ LET) (hw : ∀ x ∈ w, x ∈ LF) (hl : w.length ≤ 11) (hr : NoStart LF r) (at_ : Nat) : tok (c :: w ++ r) at_ = (tok r (at_ + (w.length + 1))).app [kWord (c :: w) at_] := by
  show tk (w ++ r).length.succ (c :: (w ++ r)) at_ = _
  unfold tk
  obtain ⟨n1, n2⟩ := let_no c hc
  obtain ⟨i1, i2⟩ := tw_all_app (w := c :: w) (A := LF) (fun x hx => by
    rcases List.mem_cons.mp hx with rfl | h
    · exact List.mem_append_left _ hc
    · exact hw x h) hr
  rw [List.cons_append] at i1 i2
  rw [if_neg n1, if_neg n2, if_pos hc, i1, i2, if_pos (by simp; omega), pre_app, tk_fuel _ r.length _ _ (by simp) (Nat.le_refl _)]
  rfl
theorem tok_num {w r : List Nat} {k : Nat} (hw : ∀ x ∈ w, x ∈ FIG) (hk : numW w = some k) (hr : NoStart FIG r) (at_ : Nat) : tok (w ++ r) at_ = (tok r (at_ + w.length)).app [kNum k at_] := by
  cases w with
  | nil => cases hk
  | cons c w =>
    show tk (w ++ r).length.succ (c :: (w ++ r)) at_ = _
    unfold tk
    obtain ⟨n1, n2, n3⟩ := fig_no c (hw c (List.mem_cons_self ..))
    obtain ⟨i1, i2⟩ := tw_all_app (w := c :: w) (A := FIG) hw hr
    rw [List.cons_append] at i1 i2
    rw [if_neg n1, if_neg n2, if_neg n3, if_pos (hw c (List.mem_cons_self ..)), i1, i2, hk]
    dsimp only
    rw [pre_app, tk_fuel _ r.length _ _ (by simp) (Nat.le_refl _)]
    rfl
theorem tok_sign {c : Nat} {r : List Nat} (hc : c ∈ SIG) (at_ : Nat) : tok (c :: r) at_ = (tok r (at_ + 1)).app [kSign c at_] := by
  show tk (r.length + 1) (c :: r) at_ = _
  unfold tk
  obtain ⟨n1, n2, n3, n4⟩ := sig_no c hc
  rw [if_neg n1, if_neg n2, if_neg n3, if_neg n4, if_pos hc, pre_app]
  rfl
/-! ### tokens_of, told -/
theorem tokens_of (l : List Nat) (hl : l.length ≤ 50000) (P : D → DS → Prop) (E : Err → DS → Prop) (h : match tok l 0 with
    | .ok ts => ts.length ≤ l.length → ∀ s, P (.list (ts ++ [kEnd l.length])) s
    | .no p w => ∀ s, E (eTE p w) s) : We (d_tokens_of [.str (S l)]) P E := by
  unfold d_tokens_of m_tokens_of
  simp only [we_ok, we_er, we_C, we_name, we_nil, we_cons, we_tup, we_lst, we_op2, we_op1, we_test, we_and, we_or, we_not, we_if, we_andV, we_orV, we_notV, we_noPart, we_part, we_sl, we_call, we_callS, we_te, we_def, we_defS, wp_next, wp_seq, wp_ret, wp_set, wp_ifs, wp_aug, wp_app, wp_raise, wp_tryTE, wp_for, wp_nx, wp_rt, wp_er, we_items, we_itemsT, we_comp, we_yes, we_rng1, kLoop, kDef, List.set_cons_zero, List.set_cons_succ, List.getElem?_cons_zero, List.getElem?_cons_succ, Option.some.injEq, exists_eq_left', exists_eq_left, PyData.bool.injEq, PyData.int.injEq, PyData.str.injEq, PyData.list.injEq, PyData.tuple.injEq, true_and, and_true, true_implies, reduceCtorEq, false_implies, exists_eq_right, Option.map_some, List.cons.injEq, List.length_cons, List.length_nil, List.map_cons, List.map_nil, List.nil_append, List.cons_append, Nat.reduceSub, List.replicate_succ, List.replicate_zero]
  refine ⟨by decide, ?_⟩
  refine tok_loop l hl FU 0 [] none _ (by omega) (by unfold FU; omega) (by simp) _ ?_
  rw [List.drop_zero, tk_fuel FU l.length l 0 (by unfold FU; omega) (Nat.le_refl _)]
  show match tok l 0 with
    | .ok ts => _
    | .no p w => _
  cases q : tok l 0 with
  | no p w => rw [q] at h; exact h
  | ok ts =>
    rw [q] at h
    intro sg s hz
    simp only [List.length_nil, Nat.zero_add] at hz
    simp only [we_ok, we_er, we_C, we_name, we_nil, we_cons, we_tup, we_lst, we_op2, we_op1, we_test, we_and, we_or, we_not, we_if, we_andV, we_orV, we_notV, we_noPart, we_part, we_sl, we_call, we_callS, we_te, we_def, we_defS, wp_next, wp_seq, wp_ret, wp_set, wp_ifs, wp_aug, wp_app, wp_raise, wp_tryTE, wp_for, wp_nx, wp_rt, wp_er, we_items, we_itemsT, we_comp, we_yes, we_rng1, kLoop, kDef, List.set_cons_zero, List.set_cons_succ, List.getElem?_cons_zero, List.getElem?_cons_succ, Option.some.injEq, exists_eq_left', exists_eq_left, PyData.bool.injEq, PyData.int.injEq, PyData.str.injEq, PyData.list.injEq, PyData.tuple.injEq, true_and, and_true, true_implies, reduceCtorEq, false_implies, exists_eq_right, Option.map_some, List.cons.injEq, List.length_cons, List.length_nil, fLen_S (show l.length ≤ 16777216 by omega), List.nil_append]
    exact ⟨by decide, sz_le (by omega), h hz _⟩
def tres (l : List Nat) : D := match tok l 0 with
  | .ok ts => .list (ts ++ [kEnd l.length])
  | .no p w => .list [.int p, .str w]
theorem told (l : List Nat) (hl : l.length ≤ 50000) (P : D → DS → Prop) (E : Err → DS → Prop) (h : ∀ s, P (tres l) s) : We (d__law_told [.str (S l)]) P E := by
  unfold d__law_told m__law_told
  simp only [we_ok, we_er, we_C, we_name, we_nil, we_cons, we_tup, we_lst, we_op2, we_op1, we_test, we_and, we_or, we_not, we_if, we_andV, we_orV, we_notV, we_noPart, we_part, we_sl, we_call, we_callS, we_te, we_def, we_defS, wp_next, wp_seq, wp_ret, wp_set, wp_ifs, wp_aug, wp_app, wp_raise, wp_tryTE, wp_for, wp_nx, wp_rt, wp_er, we_items, we_itemsT, we_comp, we_yes, we_rng1, kLoop, kDef, List.set_cons_zero, List.set_cons_succ, List.getElem?_cons_zero, List.getElem?_cons_succ, Option.some.injEq, exists_eq_left', exists_eq_left, PyData.bool.injEq, PyData.int.injEq, PyData.str.injEq, PyData.list.injEq, PyData.tuple.injEq, true_and, and_true, true_implies, reduceCtorEq, false_implies, exists_eq_right, Option.map_some, List.cons.injEq, List.length_cons, List.length_nil, List.map_cons, List.map_nil, List.nil_append, List.cons_append, Nat.reduceSub, List.replicate_succ, List.replicate_zero]
  refine tokens_of l hl _ _ ?_
  unfold tres at h
  cases q : tok l 0 with
  | ok ts => rw [q] at h; exact fun _ s => h _
  | no p w =>
    rw [q] at h
    exact fun s => ⟨rfl, by decide, _, _, rfl, rfl, h _⟩
end M
set_option maxRecDepth 100000
set_option maxHeartbeats 1000000
namespace M
open PySem L2
theorem toI {i : Int} (h : 0 ≤ i) : ∃ k : Nat, i = k := ⟨i.toNat, by omega⟩
theorem lf_S : ("abcdefghijklmnopqrstuvwxyz0123456789" : Str) = S LF := by decide +kernel
theorem em_S : ("" : Str) = S [] := by decide +kernel
theorem rangeD_at {lo : Int} {n k : Nat} {d : D} (h : (rangeD lo n)[k]? = some d) : d = .int (lo + (k : Nat)) ∧ k < n := by
  unfold rangeD at h
  rw [List.getElem?_map] at h
  cases q : (List.range n)[k]? with
  | none => rw [q] at h; cases h
  | some x =>
    rw [q] at h
    have hk : k < n := by
      have := (List.getElem?_eq_some_iff.mp q).1
      simpa using this
    rw [List.getElem?_range hk] at q
    cases q
    cases h
    exact ⟨rfl, hk⟩
theorem rangeD_len {lo : Int} {n : Nat} : (rangeD lo n).length = n := by unfold rangeD; simp
theorem law_word (s : DS) (hs : 0 ≤ s.pos) (P : D → DS → Prop) (E : Err → DS → Prop) (h : ∀ c w s', c ∈ LET → (∀ x ∈ w, x ∈ LF) → w.length ≤ 11 → 0 ≤ s'.pos → P (.str (S (c :: w))) s') : We (d__law_word [] s) P E := by
  unfold d__law_word m__law_word
  simp only [we_ok, we_er, we_C, we_name, we_nil, we_cons, we_tup, we_lst, we_op2, we_op1, we_test, we_and, we_or, we_not, we_if, we_andV, we_orV, we_notV, we_noPart, we_part, we_sl, we_call, we_callS, we_te, we_def, we_defS, wp_next, wp_seq, wp_ret, wp_set, wp_ifs, wp_aug, wp_app, wp_raise, wp_tryTE, wp_for, wp_nx, wp_rt, wp_er, we_items, we_itemsT, we_comp, we_yes, we_rng1, kLoop, kDef, List.set_cons_zero, List.set_cons_succ, List.getElem?_cons_zero, List.getElem?_cons_succ, Option.some.injEq, exists_eq_left', exists_eq_left, PyData.bool.injEq, PyData.int.injEq, PyData.str.injEq, PyData.list.injEq, PyData.tuple.injEq, true_and, and_true, true_implies, reduceCtorEq, false_implies, exists_eq_right, Option.map_some, List.cons.injEq, List.length_cons, List.length_nil, List.map_cons, List.map_nil, List.nil_append, List.cons_append, Nat.reduceSub, List.replicate_succ, List.replicate_zero, let_S, lf_S]
  refine we_draw hs (by decide) (by decide) fun i s1 h0 h1 hs1 => ?_
  obtain ⟨k, rfl⟩ := toI h0
  have hk : k < LET.length := by show k < 26; omega
  refine ⟨_, fIx_S (by decide) (List.getElem?_eq_getElem hk), ?_⟩
  have hc : LET[k] ∈ LET := List.getElem_mem hk
  generalize LET[k] = c at hc
  refine we_draw hs1 (by decide) (by decide) fun j s2 h2 h3 hs2 => ?_
  obtain ⟨n, rfl⟩ := toI h2
  refine ⟨_, rfl, ⟨by omega, by omega⟩, ?_⟩
  rw [Int.toNat_natCast]
  refine wp_loop_inv (fun k ρ s => 0 ≤ s.pos ∧ ∃ w sg, (∀ x ∈ w, x ∈ LF) ∧ w.length = k ∧ ρ = [none, some (.str (S (c :: w))), sg]) ⟨hs2, [], _, by simp, rfl, rfl⟩ ?_ ?_
  · rintro k d ρ s hd ⟨hp, w, sg, hw, hl, rfl⟩
    obtain ⟨rfl, hk⟩ := rangeD_at hd
    refine ⟨_, rfl, ?_⟩
    simp only [we_ok, we_er, we_C, we_name, we_nil, we_cons, we_tup, we_lst, we_op2, we_op1, we_test, we_and, we_or, we_not, we_if, we_andV, we_orV, we_notV, we_noPart, we_part, we_sl, we_call, we_callS, we_te, we_def, we_defS, wp_next, wp_seq, wp_ret, wp_set, wp_ifs, wp_aug, wp_app, wp_raise, wp_tryTE, wp_for, wp_nx, wp_rt, wp_er, we_items, we_itemsT, we_comp, we_yes, we_rng1, kLoop, kDef, List.set_cons_zero, List.set_cons_succ, List.getElem?_cons_zero, List.getElem?_cons_succ, Option.some.injEq, exists_eq_left', exists_eq_left, PyData.bool.injEq, PyData.int.injEq, PyData.str.injEq, PyData.list.injEq, PyData.tuple.injEq, true_and, and_true, true_implies, reduceCtorEq, false_implies, exists_eq_right, Option.map_some, List.cons.injEq, List.length_cons, List.length_nil]
    refine we_draw hp (by decide) (by decide) fun i s3 h0 h1 hs3 => ?_
    obtain ⟨m, rfl⟩ := toI h0
    have hm : m < LF.length := by show m < 36; omega
    refine ⟨_, fIx_S (by decide) (List.getElem?_eq_getElem hm), _, fAdd_S (by simp; omega), hs3, w ++ [LF[m]], _, ?_, by simp [hl], rfl, rfl⟩
    intro x hx
    rcases List.mem_append.mp hx with z | z
    · exact hw x z
    · rw [List.mem_singleton.mp z]; exact List.getElem_mem hm
  · rintro ρ s ⟨hp, w, sg, hw, hl, rfl⟩
    rw [rangeD_len] at hl
    simp only [we_ok, we_er, we_C, we_name, we_nil, we_cons, we_tup, we_lst, we_op2, we_op1, we_test, we_and, we_or, we_not, we_if, we_andV, we_orV, we_notV, we_noPart, we_part, we_sl, we_call, we_callS, we_te, we_def, we_defS, wp_next, wp_seq, wp_ret, wp_set, wp_ifs, wp_aug, wp_app, wp_raise, wp_tryTE, wp_for, wp_nx, wp_rt, wp_er, we_items, we_itemsT, we_comp, we_yes, we_rng1, kLoop, kDef, List.set_cons_zero, List.set_cons_succ, List.getElem?_cons_zero, List.getElem?_cons_succ, Option.some.injEq, exists_eq_left', exists_eq_left, PyData.bool.injEq, PyData.int.injEq, PyData.str.injEq, PyData.list.injEq, PyData.tuple.injEq, true_and, and_true, true_implies, reduceCtorEq, false_implies, exists_eq_right, Option.map_some, List.cons.injEq, List.length_cons, List.length_nil]
    exact h c w s hc hw (by omega) hp
/-- the gaps -/
def GAPS : List (List Nat) := [[32], [10], [32, 32], [32, 10, 32], 32 :: 35 :: [32, 110, 111, 110, 101, 58, 32, 111, 102, 32, 116, 104, 105, 115, 59] ++ [10], 10 :: 35 :: [] ++ [10]]
theorem gaps_S : (" " : Str) = S [32] ∧ ("\n" : Str) = S [10] ∧ ("  " : Str) = S [32, 32] ∧ (" \n " : Str) = S [32, 10, 32] ∧ (" # none: of this;\n" : Str) = S (32 :: 35 :: [32, 110, 111, 110, 101, 58, 32, 111, 102, 32, 116, 104, 105, 115, 59] ++ [10]) ∧ ("\n#\n" : Str) = S (10 :: 35 :: [] ++ [10]) := by decide +kernel
theorem law_gap (s : DS) (hs : 0 ≤ s.pos) (P : D → DS → Prop) (E : Err → DS → Prop) (h : ∀ g s', g ∈ GAPS → 0 ≤ s'.pos → P (.str (S g)) s') : We (d__law_gap [] s) P E := by
  unfold d__law_gap m__law_gap
  obtain ⟨g1, g2, g3, g4, g5, g6⟩ := gaps_S
  simp only [we_ok, we_er, we_C, we_name, we_nil, we_cons, we_tup, we_lst, we_op2, we_op1, we_test, we_and, we_or, we_not, we_if, we_andV, we_orV, we_notV, we_noPart, we_part, we_sl, we_call, we_callS, we_te, we_def, we_defS, wp_next, wp_seq, wp_ret, wp_set, wp_ifs, wp_aug, wp_app, wp_raise, wp_tryTE, wp_for, wp_nx, wp_rt, wp_er, we_items, we_itemsT, we_comp, we_yes, we_rng1, kLoop, kDef, List.set_cons_zero, List.set_cons_succ, List.getElem?_cons_zero, List.getElem?_cons_succ, Option.some.injEq, exists_eq_left', exists_eq_left, PyData.bool.injEq, PyData.int.injEq, PyData.str.injEq, PyData.list.injEq, PyData.tuple.injEq, true_and, and_true, true_implies, reduceCtorEq, false_implies, exists_eq_right, Option.map_some, List.cons.injEq, List.length_cons, List.length_nil, List.map_cons, List.map_nil, List.nil_append, List.cons_append, Nat.reduceSub, List.replicate_succ, List.replicate_zero, g1, g2, g3, g4, g5, g6]
  refine ⟨by decide, ?_⟩
  refine we_draw hs (by decide) (by decide) fun i s1 h0 h1 hs1 => ?_
  obtain ⟨k, rfl⟩ := toI h0
  match k, h1 with
  | 0, _ => exact ⟨_, fIx_L (i := 0) rfl, h _ _ (by decide) hs1⟩
  | 1, _ => exact ⟨_, fIx_L (i := 1) rfl, h _ _ (by decide) hs1⟩
  | 2, _ => exact ⟨_, fIx_L (i := 2) rfl, h _ _ (by decide) hs1⟩
  | 3, _ => exact ⟨_, fIx_L (i := 3) rfl, h _ _ (by decide) hs1⟩
  | 4, _ => exact ⟨_, fIx_L (i := 4) rfl, h _ _ (by decide) hs1⟩
  | 5, _ => exact ⟨_, fIx_L (i := 5) rfl, h _ _ (by decide) hs1⟩
  | k + 6, z => omega
theorem tok_gap {g : List Nat} (hg : g ∈ GAPS) (r : List Nat) (at_ : Nat) : tok (g ++ r) at_ = tok r (at_ + g.length) := by
  have b1 : ∀ r at_, tok (32 :: r) at_ = tok r (at_ + 1) := fun r at_ => tok_blank (by decide) r at_
  have b2 : ∀ r at_, tok (10 :: r) at_ = tok r (at_ + 1) := fun r at_ => tok_blank (by decide) r at_
  simp only [GAPS, List.mem_cons, List.not_mem_nil, or_false] at hg
  rcases hg with rfl | rfl | rfl | rfl | rfl | rfl
  · exact b1 r at_
  · exact b2 r at_
  · show tok (32 :: 32 :: r) at_ = _
    rw [b1, b1]; rfl
  · show tok (32 :: 10 :: 32 :: r) at_ = _
    rw [b1, b2, b1]; rfl
  · show tok (32 :: (35 :: [32, 110, 111, 110, 101, 58, 32, 111, 102, 32, 116, 104, 105, 115, 59] ++ 10 :: r)) at_ = _
    rw [b1, tok_rem (by decide)]
    rfl
  · show tok (10 :: (35 :: [] ++ 10 :: r)) at_ = _
    rw [b2, tok_rem (by decide)]
    rfl
theorem gap_start {g : List Nat} (hg : g ∈ GAPS) (r : List Nat) : NoStart LF (g ++ r) ∧ g.length ≤ 18 := by
  have : ∃ c g', g = c :: g' ∧ c ∈ BL ∧ g.length ≤ 18 := by
    simp only [GAPS, List.mem_cons, List.not_mem_nil, or_false] at hg
    rcases hg with rfl | rfl | rfl | rfl | rfl | rfl <;> exact ⟨_, _, rfl, by decide, by decide⟩
  obtain ⟨c, g', rfl, hc, hl⟩ := this
  refine ⟨fun x hx hm => ?_, hl⟩
  have : x = c := by simpa using hx.symm
  subst this
  revert hm
  clear hx hl hg
  revert x
  decide
theorem nostart_fig {r : List Nat} (h : NoStart LF r) : NoStart FIG r := fun c hc hm => h c hc (List.mem_append_right _ hm)
/-- the text so far -/
structure Inv17 (k : Nat) (t : List Nat) (ds : List D) : Prop where
  len : t.length ≤ 40 * k
  num : ds.length ≤ k
  ok : ∀ d ∈ ds, OkD 3 d
  tk : ∀ r, tok (t ++ r) 0 = (tok r t.length).app ds
theorem inv0 : Inv17 0 [] [] := ⟨by simp, by simp, by simp, fun r => (app_nil _).symm⟩
theorem Inv17.add {k : Nat} {t u : List Nat} {ds : List D} {d : D} (I : Inv17 k t ds) (hu : u.length ≤ 40) (hd : OkD 3 d) (h : ∀ r, tok (u ++ r) t.length = (tok r (t.length + u.length)).app [d]) : Inv17 (k + 1) (t ++ u) (ds ++ [d]) :=
  ⟨by rw [List.length_append]; have := I.len; omega, by rw [List.length_append]; have := I.num; simp; omega, fun e he => by
    rcases List.mem_append.mp he with z | z
    · exact I.ok e z
    · rw [List.mem_singleton.mp z]; exact hd, fun r => by rw [List.append_assoc, I.tk, h, app_app, List.length_append]⟩
theorem strOk_S {l : List Nat} (h : ∀ c ∈ l, c < 0x110000) : PyData.strOk (S l) = true := by
  show (S l).cps.all (· < 0x110000) = true
  rw [Array.all_eq_true_iff_forall_mem]
  intro x hx
  exact decide_eq_true (h x (by simpa using hx))
end M
set_option maxRecDepth 100000
set_option maxHeartbeats 2000000
namespace M
open PySem L2
theorem okW {w : List Nat} {at_ : Nat} (h : ∀ c ∈ w, c < 0x110000) : OkD 3 (kWord w at_) := OkD.tuple fun d hd => by
  simp only [List.mem_cons, List.not_mem_nil, or_false] at hd
  rcases hd with rfl | rfl | rfl
  · exact OkD.str (by decide +kernel)
  · exact OkD.str (strOk_S h)
  · exact OkD.int
theorem okN {n at_ : Nat} : OkD 3 (kNum n at_) := OkD.tuple fun d hd => by
  simp only [List.mem_cons, List.not_mem_nil, or_false] at hd
  rcases hd with rfl | rfl | rfl
  · exact OkD.str (by decide +kernel)
  · exact OkD.int
  · exact OkD.int
theorem okS {c at_ : Nat} (h : c < 0x110000) : OkD 3 (kSign c at_) := OkD.tuple fun d hd => by
  simp only [List.mem_cons, List.not_mem_nil, or_false] at hd
  rcases hd with rfl | rfl | rfl
  · exact OkD.str (by decide +kernel)
  · exact OkD.str (strOk_S (by simpa using h))
  · exact OkD.int
theorem okE {at_ : Nat} : OkD 3 (kEnd at_) := OkD.tuple fun d hd => by
  simp only [List.mem_cons, List.not_mem_nil, or_false] at hd
  rcases hd with rfl | rfl | rfl
  · exact OkD.str (by decide +kernel)
  · exact OkD.str (by decide +kernel)
  · exact OkD.int
theorem lf_lt : ∀ c ∈ LF, c < 0x110000 := by decide
theorem let_lf : ∀ c ∈ LET, c ∈ LF := by decide
theorem fig_lf : ∀ c ∈ FIG, c ∈ LF := by decide
theorem sig_lt : ∀ c ∈ SIG, c < 0x110000 := by decide
/-- the digits of 0 .. 99 -/
def digs (n : Nat) : List Nat := if n < 10 then [48 + n] else [48 + n / 10, 48 + n % 10]
theorem digs_ok : ∀ n < 100, (toString ((n : Nat) : Int) : Str) = S (digs n) ∧ numW (digs n) = some n ∧ ∀ x ∈ digs n, x ∈ FIG := by decide +kernel
theorem digs_len (n : Nat) : (digs n).length ≤ 2 := by unfold digs; split <;> simp
/-- one turn of the law's first loop -/
def bLaw : Ms := (mSeq (mSet 5 (mCallS draw (mCons (mC (.int 3)) (mNil)))) (mIfS (mTest (mOp2 fEq (mName 5) (mC (.int 0)))) (mSeq (mSet 6 (mCallS d__law_word (mNil))) (mSeq (mApp 3 (mTup (mCons (mC (.str ("word" : Str))) (mCons (mName 6) (mCons (mOp1 fLen (mName 2)) (mNil)))))) (mSet 2 (mOp2 fAdd (mOp2 fAdd (mName 2) (mName 6)) (mCallS d__law_gap (mNil)))))) (mIfS (mTest (mOp2 fEq (mName 5) (mC (.int 1)))) (mSeq (mSet 7 (mOp2 fIx (mLst (mCons (mC (.int 0)) (mCons (mC (.int 9)) (mCons (mC (.int 10)) (mCons (mC (.int 99)) (mCons (mCallS draw (mCons (mC (.int 100)) (mNil))) (mNil))))))) (mCallS draw (mCons (mC (.int 5)) (mNil))))) (mSeq (mApp 3 (mTup (mCons (mC (.str ("number" : Str))) (mCons (mName 7) (mCons (mOp1 fLen (mName 2)) (mNil)))))) (mSet 2 (mOp2 fAdd (mOp2 fAdd (mName 2) (mOp1 fStr (mName 7))) (mCallS d__law_gap (mNil)))))) (mSeq (mSet 8 (mOp2 fIx (mC (.str ("=,;:|-" : Str))) (mCallS draw (mCons (mC (.int 6)) (mNil))))) (mSeq (mApp 3 (mTup (mCons (mC (.str ("sign" : Str))) (mCons (mName 8) (mCons (mOp1 fLen (mName 2)) (mNil)))))) (mSet 2 (mOp2 fAdd (mOp2 fAdd (mName 2) (mName 8)) (mOp2 fIx (mLst (mCons (mC (.str ("" : Str))) (mCons (mCallS d__law_gap (mNil)) (mNil)))) (mCallS draw (mCons (mC (.int 2)) (mNil)))))))))))
theorem law_turn (k : Nat) (hk : k < 19) (t : List Nat) (ds : List D) (I : Inv17 k t ds) (s : DS) (hs : 0 ≤ s.pos) (a4 a5 a6 a7 a8 a9 a10 a11 : Option D) (K : Kn)
    (h : ∀ t ds s a5 a6 a7 a8, Inv17 (k + 1) t ds → 0 ≤ s.pos → K.nx [none, none, some (.str (S t)), some (.list ds), a4, a5, a6, a7, a8, a9, a10, a11] s) :
    Wp (bLaw [none, none, some (.str (S t)), some (.list ds), a4, a5, a6, a7, a8, a9, a10, a11] s) K := by
  have hl := I.len
  have hn := I.num
  unfold bLaw
  simp only [we_ok, we_er, we_C, we_name, we_nil, we_cons, we_tup, we_lst, we_op2, we_op1, we_test, we_and, we_or, we_not, we_if, we_andV, we_orV, we_notV, we_noPart, we_part, we_sl, we_call, we_callS, we_te, we_def, we_defS, wp_next, wp_seq, wp_ret, wp_set, wp_ifs, wp_aug, wp_app, wp_raise, wp_tryTE, wp_for, wp_nx, wp_rt, wp_er, we_items, we_itemsT, we_comp, we_yes, we_rng1, kLoop, kDef, List.set_cons_zero, List.set_cons_succ, List.getElem?_cons_zero, List.getElem?_cons_succ, Option.some.injEq, exists_eq_left', exists_eq_left, PyData.bool.injEq, PyData.int.injEq, PyData.str.injEq, PyData.list.injEq, PyData.tuple.injEq, true_and, and_true, true_implies, reduceCtorEq, false_implies, exists_eq_right, Option.map_some, List.cons.injEq, List.length_cons, List.length_nil, fEq_I, sig_S, em_S]
  refine we_draw hs (by decide) (by decide) fun i s1 h0 h1 hs1 => ?_
  simp only [we_ok, we_er, we_C, we_name, we_nil, we_cons, we_tup, we_lst, we_op2, we_op1, we_test, we_and, we_or, we_not, we_if, we_andV, we_orV, we_notV, we_noPart, we_part, we_sl, we_call, we_callS, we_te, we_def, we_defS, wp_next, wp_seq, wp_ret, wp_set, wp_ifs, wp_aug, wp_app, wp_raise, wp_tryTE, wp_for, wp_nx, wp_rt, wp_er, we_items, we_itemsT, we_comp, we_yes, we_rng1, kLoop, kDef, List.set_cons_zero, List.set_cons_succ, List.getElem?_cons_zero, List.getElem?_cons_succ, Option.some.injEq, exists_eq_left', exists_eq_left, PyData.bool.injEq, PyData.int.injEq, PyData.str.injEq, PyData.list.injEq, PyData.tuple.injEq, true_and, and_true, true_implies, reduceCtorEq, false_implies, exists_eq_right, Option.map_some, List.cons.injEq, List.length_cons, List.length_nil, fEq_I]
  refine ⟨fun z => ?_, fun z => ⟨fun z2 => ?_, fun z2 => ?_⟩⟩
  · refine law_word s1 hs1 _ _ fun c w s2 hc hw hwl hs2 => ?_
    simp only [we_ok, we_er, we_C, we_name, we_nil, we_cons, we_tup, we_lst, we_op2, we_op1, we_test, we_and, we_or, we_not, we_if, we_andV, we_orV, we_notV, we_noPart, we_part, we_sl, we_call, we_callS, we_te, we_def, we_defS, wp_next, wp_seq, wp_ret, wp_set, wp_ifs, wp_aug, wp_app, wp_raise, wp_tryTE, wp_for, wp_nx, wp_rt, wp_er, we_items, we_itemsT, we_comp, we_yes, we_rng1, kLoop, kDef, List.set_cons_zero, List.set_cons_succ, List.getElem?_cons_zero, List.getElem?_cons_succ, Option.some.injEq, exists_eq_left', exists_eq_left, PyData.bool.injEq, PyData.int.injEq, PyData.str.injEq, PyData.list.injEq, PyData.tuple.injEq, true_and, and_true, true_implies, reduceCtorEq, false_implies, exists_eq_right, Option.map_some, List.cons.injEq, List.length_cons, List.length_nil, fLen_S (show t.length ≤ 16777216 by omega), fAdd_S (show t.length + (c :: w).length ≤ 16777216 by simp; omega)]
    refine ⟨by decide, sz_le (by omega), ?_⟩
    refine law_gap s2 hs2 _ _ fun g s3 hg hs3 => ?_
    obtain ⟨_, gl⟩ := gap_start hg []
    refine ⟨_, fAdd_S (by simp; omega), ?_⟩
    have := I.add (u := c :: w ++ g) (d := kWord (c :: w) t.length) (by simp; omega) (okW fun x hx => lf_lt x (by
      rcases List.mem_cons.mp hx with rfl | h
      · exact let_lf _ hc
      · exact hw x h)) (fun r => by
        rw [List.append_assoc, tok_word hc hw hwl (gap_start hg r).1, tok_gap hg]
        congr 2
        simp; omega)
    rw [← List.append_assoc] at this
    exact h _ _ _ _ _ _ _ this hs3
  · refine we_draw hs1 (by decide) (by decide) fun j s2 h2 h3 hs2 => ?_
    refine ⟨by decide, ?_⟩
    refine we_draw hs2 (by decide) (by decide) fun j2 s3 h4 h5 hs3 => ?_
    obtain ⟨jn, rfl⟩ := toI h2
    obtain ⟨jx, rfl⟩ := toI h4
    have pick : ∃ n : Nat, n < 100 ∧ fIx (.list [.int 0, .int 9, .int 10, .int 99, .int (jn : Int)]) (.int (jx : Int)) = some (.int (n : Int)) := by
      match jx, h5 with
      | 0, _ => exact ⟨0, by decide, fIx_L (i := 0) rfl⟩
      | 1, _ => exact ⟨9, by decide, fIx_L (i := 1) rfl⟩
      | 2, _ => exact ⟨10, by decide, fIx_L (i := 2) rfl⟩
      | 3, _ => exact ⟨99, by decide, fIx_L (i := 3) rfl⟩
      | 4, _ => exact ⟨jn, by omega, fIx_L (i := 4) rfl⟩
      | k + 5, z => omega
    obtain ⟨n, hn100, hp⟩ := pick
    obtain ⟨d1, d2, d3⟩ := digs_ok n hn100
    have dl := digs_len n
    refine ⟨_, hp, ?_⟩
    simp only [we_ok, we_er, we_C, we_name, we_nil, we_cons, we_tup, we_lst, we_op2, we_op1, we_test, we_and, we_or, we_not, we_if, we_andV, we_orV, we_notV, we_noPart, we_part, we_sl, we_call, we_callS, we_te, we_def, we_defS, wp_next, wp_seq, wp_ret, wp_set, wp_ifs, wp_aug, wp_app, wp_raise, wp_tryTE, wp_for, wp_nx, wp_rt, wp_er, we_items, we_itemsT, we_comp, we_yes, we_rng1, kLoop, kDef, List.set_cons_zero, List.set_cons_succ, List.getElem?_cons_zero, List.getElem?_cons_succ, Option.some.injEq, exists_eq_left', exists_eq_left, PyData.bool.injEq, PyData.int.injEq, PyData.str.injEq, PyData.list.injEq, PyData.tuple.injEq, true_and, and_true, true_implies, reduceCtorEq, false_implies, exists_eq_right, Option.map_some, List.cons.injEq, List.length_cons, List.length_nil, fLen_S (show t.length ≤ 16777216 by omega), fStr_N (show n ≤ 100000 by omega), d1, fAdd_S (show t.length + (digs n).length ≤ 16777216 by omega)]
    refine ⟨by decide, sz_le (by omega), ?_⟩
    refine law_gap s3 hs3 _ _ fun g s4 hg hs4 => ?_
    obtain ⟨_, gl⟩ := gap_start hg []
    refine ⟨_, fAdd_S (by simp; omega), ?_⟩
    have := I.add (u := digs n ++ g) (d := kNum n t.length) (by simp; omega) okN (fun r => by
        rw [List.append_assoc, tok_num d3 d2 (nostart_fig (gap_start hg r).1), tok_gap hg]
        congr 2
        simp; omega)
    rw [← List.append_assoc] at this
    exact h _ _ _ _ _ _ _ this hs4
  · refine we_draw hs1 (by decide) (by decide) fun j s2 h2 h3 hs2 => ?_
    obtain ⟨jn, rfl⟩ := toI h2
    have hj : jn < SIG.length := by show jn < 6; omega
    have hc : SIG[jn] ∈ SIG := List.getElem_mem hj
    refine ⟨_, fIx_S (by decide) (List.getElem?_eq_getElem hj), ?_⟩
    generalize SIG[jn] = c at hc
    simp only [we_ok, we_er, we_C, we_name, we_nil, we_cons, we_tup, we_lst, we_op2, we_op1, we_test, we_and, we_or, we_not, we_if, we_andV, we_orV, we_notV, we_noPart, we_part, we_sl, we_call, we_callS, we_te, we_def, we_defS, wp_next, wp_seq, wp_ret, wp_set, wp_ifs, wp_aug, wp_app, wp_raise, wp_tryTE, wp_for, wp_nx, wp_rt, wp_er, we_items, we_itemsT, we_comp, we_yes, we_rng1, kLoop, kDef, List.set_cons_zero, List.set_cons_succ, List.getElem?_cons_zero, List.getElem?_cons_succ, Option.some.injEq, exists_eq_left', exists_eq_left, PyData.bool.injEq, PyData.int.injEq, PyData.str.injEq, PyData.list.injEq, PyData.tuple.injEq, true_and, and_true, true_implies, reduceCtorEq, false_implies, exists_eq_right, Option.map_some, List.cons.injEq, List.length_cons, List.length_nil, fLen_S (show t.length ≤ 16777216 by omega), fAdd_S (show t.length + [c].length ≤ 16777216 by simp; omega)]
    refine ⟨by decide, sz_le (by omega), ?_⟩
    refine law_gap s2 hs2 _ _ fun g s3 hg hs3 => ?_
    obtain ⟨_, gl⟩ := gap_start hg []
    refine ⟨by decide, ?_⟩
    refine we_draw hs3 (by decide) (by decide) fun j2 s4 h4 h5 hs4 => ?_
    obtain ⟨jx, rfl⟩ := toI h4
    have pick : ∃ u : List Nat, u.length ≤ 18 ∧ (∀ r a, tok (u ++ r) a = tok r (a + u.length)) ∧ fIx (.list [.str (S []), .str (S g)]) (.int (jx : Int)) = some (.str (S u)) := by
      match jx, h5 with
      | 0, _ => exact ⟨[], by decide, fun r a => rfl, fIx_L (i := 0) rfl⟩
      | 1, _ => exact ⟨g, gl, fun r a => tok_gap hg r a, fIx_L (i := 1) rfl⟩
      | k + 2, z => omega
    obtain ⟨u, ul, hu, hp⟩ := pick
    refine ⟨_, hp, _, fAdd_S (by simp; omega), ?_⟩
    have := I.add (u := [c] ++ u) (d := kSign c t.length) (by simp; omega) (okS (sig_lt c hc)) (fun r => by
        rw [List.append_assoc, List.singleton_append, tok_sign hc, hu]
        congr 2
        simp; omega)
    rw [← List.append_assoc] at this
    exact h _ _ _ _ _ _ _ this hs4
end M
set_option maxRecDepth 100000
set_option maxHeartbeats 4000000
namespace M
open PySem L2
/-! ### wrong ends -/
def ANN : List Nat := [32, 97, 110, 110, 32, 63]
theorem ann_S : (" ann ?" : Str) = S ANN := by decide +kernel
def Bad (w : List Nat) (x : Str) : Prop := (∀ p, tok w p = .no p x) ∧ (∀ p, tok (w ++ ANN) p = .no p x)
def BADS : List (List Nat × Str) := [([65], "sign"), ([43], "sign"), ([63], "sign"), ([9], "sign"), ([95], "sign"), ([40], "sign"), ([34], "sign"), ([47], "sign"), ([49, 48, 48], "number"), ([48, 49], "number"), ([48, 48], "number"), ([97, 98, 99, 100, 101, 102, 103, 104, 105, 106, 107, 108, 109], "name")]
theorem bads : ∀ b ∈ BADS, Bad b.1 b.2 := by
  intro b hb
  simp only [BADS, List.mem_cons, List.not_mem_nil, or_false] at hb
  rcases hb with rfl | rfl | rfl | rfl | rfl | rfl | rfl | rfl | rfl | rfl | rfl | rfl <;> exact ⟨fun p => rfl, fun p => rfl⟩
theorem bads_S : ("A" : Str) = S [65] ∧ ("+" : Str) = S [43] ∧ ("?" : Str) = S [63] ∧ ("\t" : Str) = S [9] ∧ ("_" : Str) = S [95] ∧ ("(" : Str) = S [40] ∧ ("\"" : Str) = S [34] ∧ ("/" : Str) = S [47] ∧ ("100" : Str) = S [49, 48, 48] ∧ ("01" : Str) = S [48, 49] ∧ ("00" : Str) = S [48, 48] ∧ ("abcdefghijklm" : Str) = S [97, 98, 99, 100, 101, 102, 103, 104, 105, 106, 107, 108, 109] := by decide +kernel
def badD (b : List Nat × Str) : D := .tuple [.str (S b.1), .str b.2]
def bLaw2 : Ms := (mIfS (mOr (mTest (mOp2 fNe (mCall d__law_told (mCons (mOp2 fAdd (mName 2) (mName 10)) (mNil))) (mLst (mCons (mOp1 fLen (mName 2)) (mCons (mName 6) (mNil)))))) (mTest (mOp2 fNe (mCall d__law_told (mCons (mOp2 fAdd (mOp2 fAdd (mName 2) (mName 10)) (mC (.str (" ann ?" : Str)))) (mNil))) (mLst (mCons (mOp1 fLen (mName 2)) (mCons (mName 6) (mNil))))))) (mRet (mC (.bool false))) (mNext))
theorem tres_ok {t u : List Nat} {k : Nat} {ds es : List D} (I : Inv17 k t ds) (h : tok u t.length = .ok es) : tres (t ++ u) = .list (ds ++ es ++ [kEnd (t.length + u.length)]) := by
  unfold tres
  rw [I.tk, h]
  show PyData.list _ = _
  rw [List.length_append]
theorem tres_no {t u : List Nat} {k p : Nat} {x : Str} {ds : List D} (I : Inv17 k t ds) (h : tok u t.length = .no p x) : tres (t ++ u) = .list [.int p, .str x] := by
  unfold tres
  rw [I.tk, h]
  rfl
theorem okP {p : Nat} {x : Str} (h : PyData.strOk x = true) : OkD 64 (.list [.int (p : Int), .str x]) := OkD.list fun d hd => by
  simp only [List.mem_cons, List.not_mem_nil, or_false] at hd
  rcases hd with rfl | rfl
  · exact OkD.int
  · exact OkD.str h
theorem bads_ok : ∀ b ∈ BADS, PyData.strOk b.2 = true ∧ b.1.length ≤ 13 := by decide +kernel
theorem law_bad (b : List Nat × Str) (hb : b ∈ BADS) {k : Nat} {t : List Nat} {ds : List D} (hk : k ≤ 19) (I : Inv17 k t ds) (s : DS) (a2 a4 a5 a7 a8 a9 a11 : Option D) (K : Kn)
    (h : ∀ s, K.nx [none, none, some (.str (S t)), a2, a4, a5, some (.str b.2), a7, a8, a9, some (.str (S b.1)), a11] s) : Wp (bLaw2 [none, none, some (.str (S t)), a2, a4, a5, some (.str b.2), a7, a8, a9, some (.str (S b.1)), a11] s) K := by
  have hl := I.len
  obtain ⟨hx, hw⟩ := bads_ok b hb
  obtain ⟨h1, h2⟩ := bads b hb
  unfold bLaw2
  simp only [we_ok, we_er, we_C, we_name, we_nil, we_cons, we_tup, we_lst, we_op2, we_op1, we_test, we_and, we_or, we_not, we_if, we_andV, we_orV, we_notV, we_noPart, we_part, we_sl, we_call, we_callS, we_te, we_def, we_defS, wp_next, wp_seq, wp_ret, wp_set, wp_ifs, wp_aug, wp_app, wp_raise, wp_tryTE, wp_for, wp_nx, wp_rt, wp_er, we_items, we_itemsT, we_comp, we_yes, we_rng1, kLoop, kDef, List.set_cons_zero, List.set_cons_succ, List.getElem?_cons_zero, List.getElem?_cons_succ, Option.some.injEq, exists_eq_left', exists_eq_left, PyData.bool.injEq, PyData.int.injEq, PyData.str.injEq, PyData.list.injEq, PyData.tuple.injEq, true_and, and_true, true_implies, reduceCtorEq, false_implies, exists_eq_right, Option.map_some, List.cons.injEq, List.length_cons, List.length_nil, fAdd_S (show t.length + b.1.length ≤ 16777216 by omega), ann_S, fAdd_S (show (t ++ b.1).length + ANN.length ≤ 16777216 by simp [ANN]; omega)]
  refine told _ (by simp; omega) _ _ fun s1 => ?_
  rw [tres_no I (h1 _)]
  simp only [we_ok, we_er, we_C, we_name, we_nil, we_cons, we_tup, we_lst, we_op2, we_op1, we_test, we_and, we_or, we_not, we_if, we_andV, we_orV, we_notV, we_noPart, we_part, we_sl, we_call, we_callS, we_te, we_def, we_defS, wp_next, wp_seq, wp_ret, wp_set, wp_ifs, wp_aug, wp_app, wp_raise, wp_tryTE, wp_for, wp_nx, wp_rt, wp_er, we_items, we_itemsT, we_comp, we_yes, we_rng1, kLoop, kDef, List.set_cons_zero, List.set_cons_succ, List.getElem?_cons_zero, List.getElem?_cons_succ, Option.some.injEq, exists_eq_left', exists_eq_left, PyData.bool.injEq, PyData.int.injEq, PyData.str.injEq, PyData.list.injEq, PyData.tuple.injEq, true_and, and_true, true_implies, reduceCtorEq, false_implies, exists_eq_right, Option.map_some, List.cons.injEq, List.length_cons, List.length_nil, fLen_S (show t.length ≤ 16777216 by omega), fNe_same (okP hx)]
  refine ⟨by decide, ?_⟩
  refine told _ (by simp [ANN]; omega) _ _ fun s2 => ?_
  rw [List.append_assoc, tres_no I (h2 _)]
  simp only [we_ok, we_er, we_C, we_name, we_nil, we_cons, we_tup, we_lst, we_op2, we_op1, we_test, we_and, we_or, we_not, we_if, we_andV, we_orV, we_notV, we_noPart, we_part, we_sl, we_call, we_callS, we_te, we_def, we_defS, wp_next, wp_seq, wp_ret, wp_set, wp_ifs, wp_aug, wp_app, wp_raise, wp_tryTE, wp_for, wp_nx, wp_rt, wp_er, we_items, we_itemsT, we_comp, we_yes, we_rng1, kLoop, kDef, List.set_cons_zero, List.set_cons_succ, List.getElem?_cons_zero, List.getElem?_cons_succ, Option.some.injEq, exists_eq_left', exists_eq_left, PyData.bool.injEq, PyData.int.injEq, PyData.str.injEq, PyData.list.injEq, PyData.tuple.injEq, true_and, and_true, true_implies, reduceCtorEq, false_implies, exists_eq_right, Option.map_some, List.cons.injEq, List.length_cons, List.length_nil, fNe_same (okP hx)]
  exact ⟨by decide, h s⟩
theorem okL {ds : List D} (h : ∀ d ∈ ds, OkD 3 d) : OkD 64 (.list ds) := OkD.list fun d hd => ⟨(h d hd).1, by have := (h d hd).2; omega⟩
theorem suf_S : ("abcdefghijkl" : Str) = S [97, 98, 99, 100, 101, 102, 103, 104, 105, 106, 107, 108] ∧ ("12ann" : Str) = S [49, 50, 97, 110, 110] ∧ ("a1:2|3" : Str) = S [97, 49, 58, 50, 124, 51] ∧ ("# ?" : Str) = S [35, 32, 63] ∧ ("#\n?" : Str) = S [35, 10, 63] ∧ ("99" : Str) = S [57, 57] ∧ ("ann" : Str) = S [97, 110, 110] ∧ ("a1" : Str) = S [97, 49] ∧ (":" : Str) = S [58] ∧ ("|" : Str) = S [124] := by decide +kernel
theorem sz_small {n : Nat} (h : n ≤ 100) : sz n = true := sz_le (by omega)
theorem we_clist {g : Gt} {me : Mr D} {ρ : Rho} (f : D → D) : ∀ (ds acc : List D) (s : DS) (P : D → DS → Prop) (E : Err → DS → Prop), (∀ d ∈ ds, ∃ ρ1, g d ρ = some ρ1 ∧ ∀ s Q E, Q (f d) s → We (me ρ1 s) Q E) → acc.length + ds.length ≤ 16777216 → P (.list (acc ++ ds.map f)) s → We (cLoop g mYes me ρ ds acc s) P E
  | [], acc, s, P, E, _, _, h => by
    rw [we_cnil]
    simpa using h
  | d :: ds, acc, s, P, E, hd, hl, h => by
    rw [we_ccons]
    obtain ⟨ρ1, h1, h2⟩ := hd d (List.mem_cons_self ..)
    refine ⟨ρ1, h1, ?_⟩
    rw [we_yes]
    refine ⟨fun _ => h2 s _ _ ?_, fun z => nomatch z⟩
    rw [List.length_cons] at hl
    refine ⟨sz_le (by omega), we_clist f ds (acc ++ [f d]) s P E (fun x hx => hd x (List.mem_cons_of_mem _ hx)) (by rw [List.length_append]; simp; omega) ?_⟩
    rw [List.append_assoc]
    exact h
theorem step3 {t u : List Nat} {k : Nat} {ds es L : List D} (I : Inv17 k t ds) (h : tok u t.length = .ok es) (he : ∀ d ∈ es, OkD 3 d) (hL : es ++ [kEnd (t.length + u.length)] = L) : fNe (tres (t ++ u)) (.list (ds ++ L)) = some (.bool false) := by
  rw [tres_ok I h, List.append_assoc, hL]
  refine fNe_same (okL fun d hd => ?_)
  rcases List.mem_append.mp hd with z | z
  · exact I.ok d z
  · rw [← hL] at z
    rcases List.mem_append.mp z with y | y
    · exact he d y
    · rw [List.mem_singleton.mp y]; exact okE
theorem step0 {u : List Nat} {es L : List D} (h : tok u 0 = .ok es) (he : ∀ d ∈ es, OkD 3 d) (hL : es ++ [kEnd u.length] = L) : fEq (tres u) (.list L) = some (.bool true) := by
  have e : tres u = .list L := by
    unfold tres
    rw [h, ← hL]
  rw [e]
  refine fEq_same (okL fun d hd => ?_)
  rw [← hL] at hd
  rcases List.mem_append.mp hd with y | y
  · exact he d y
  · rw [List.mem_singleton.mp y]; exact okE
theorem kE {n : Nat} : PyData.tuple [.str "end", .str (S []), .int (n : Int)] = kEnd n := by unfold kEnd; rw [em_S]
theorem cast_add {a b : Nat} : ((a : Int) + (b : Int)) = ((a + b : Nat) : Int) := by omega
theorem plain (ns : List Int) (h : ns.length ≤ 63) : ∃ s', m_law (List.replicate nLaw none) (d0 ns) = .rt (.bool true) s' := by
  have key : Wp (m_law (List.replicate nLaw none) (d0 ns)) ⟨fun _ _ => False, fun d _ => d = .bool true, fun _ _ => False, fun _ _ => False, fun _ _ => False⟩ := by
    unfold m_law nLaw
    simp only [we_ok, we_er, we_C, we_name, we_nil, we_cons, we_tup, we_lst, we_op2, we_op1, we_test, we_and, we_or, we_not, we_if, we_andV, we_orV, we_notV, we_noPart, we_part, we_sl, we_call, we_callS, we_te, we_def, we_defS, wp_next, wp_seq, wp_ret, wp_set, wp_ifs, wp_aug, wp_app, wp_raise, wp_tryTE, wp_for, wp_nx, wp_rt, wp_er, we_items, we_itemsT, we_comp, we_yes, we_rng1, kLoop, kDef, List.set_cons_zero, List.set_cons_succ, List.getElem?_cons_zero, List.getElem?_cons_succ, Option.some.injEq, exists_eq_left', exists_eq_left, PyData.bool.injEq, PyData.int.injEq, PyData.str.injEq, PyData.list.injEq, PyData.tuple.injEq, true_and, and_true, true_implies, reduceCtorEq, false_implies, exists_eq_right, Option.map_some, List.cons.injEq, List.length_cons, List.length_nil, List.replicate_succ, List.replicate_zero, em_S]
    refine ⟨by decide, ?_⟩
    refine we_draw (Int.le_refl 0 : 0 ≤ (d0 ns).pos) (by decide) (by decide) fun i s1 h0 h1 hs1 => ?_
    obtain ⟨n, rfl⟩ := toI h0
    refine ⟨_, rfl, ⟨by omega, by omega⟩, ?_⟩
    rw [Int.toNat_natCast]
    refine wp_loop_inv (fun k ρ s => k ≤ n ∧ 0 ≤ s.pos ∧ ∃ t ds a4 a5 a6 a7 a8, Inv17 k t ds ∧ ρ = [none, none, some (.str (S t)), some (.list ds), a4, a5, a6, a7, a8, none, none, none]) ⟨by omega, hs1, [], [], _, _, _, _, _, inv0, rfl⟩ ?_ ?_
    · rintro k d ρ s hd ⟨hkn, hp, t, ds, a4, a5, a6, a7, a8, I, rfl⟩
      obtain ⟨rfl, hk⟩ := rangeD_at hd
      refine ⟨_, rfl, ?_⟩
      exact law_turn k (by omega) t ds I s hp _ _ _ _ _ _ _ _ _ fun t ds s a5 a6 a7 a8 I hs => ⟨by omega, hs, t, ds, _, a5, a6, a7, a8, I, rfl⟩
    · rintro ρ s ⟨_, hp, t, ds, a4, a5, a6, a7, a8, I, rfl⟩
      rw [rangeD_len] at I
      have hl := I.len
      have hn := I.num
      obtain ⟨g1, g2, g3, g4, g5, g6, g7, g8, g9, g10, g11, g12⟩ := bads_S
      obtain ⟨f1, f2, f3, f4, f5, f6, f7, f8, f9, f10⟩ := suf_S
      simp only [we_ok, we_er, we_C, we_name, we_nil, we_cons, we_tup, we_lst, we_op2, we_op1, we_test, we_and, we_or, we_not, we_if, we_andV, we_orV, we_notV, we_noPart, we_part, we_sl, we_call, we_callS, we_te, we_def, we_defS, wp_next, wp_seq, wp_ret, wp_set, wp_ifs, wp_aug, wp_app, wp_raise, wp_tryTE, wp_for, wp_nx, wp_rt, wp_er, we_items, we_itemsT, we_comp, we_yes, we_rng1, kLoop, kDef, List.set_cons_zero, List.set_cons_succ, List.getElem?_cons_zero, List.getElem?_cons_succ, Option.some.injEq, exists_eq_left', exists_eq_left, PyData.bool.injEq, PyData.int.injEq, PyData.str.injEq, PyData.list.injEq, PyData.tuple.injEq, true_and, and_true, true_implies, reduceCtorEq, false_implies, exists_eq_right, Option.map_some, List.cons.injEq, List.length_cons, List.length_nil, fLen_S (show t.length ≤ 16777216 by omega), g1, g2, g3, g4, g5, g6, g7, g8, g9, g10, g11, g12, em_S, wipeR, f1, f2, f3, f4, f5, f6, f7, f8, f9, f10]
      refine told t (by omega) _ _ fun s2 => ?_
      have e0 : tres t = .list (ds ++ [kEnd t.length]) := by
        have := tres_ok (u := []) I (tok_nil _)
        simpa using this
      have ok0 : OkD 64 (.list (ds ++ [kEnd t.length])) := okL fun d hd => by
        rcases List.mem_append.mp hd with z | z
        · exact I.ok d z
        · rw [List.mem_singleton.mp z]; exact okE
      rw [e0]
      simp only [we_ok, we_er, we_C, we_name, we_nil, we_cons, we_tup, we_lst, we_op2, we_op1, we_test, we_and, we_or, we_not, we_if, we_andV, we_orV, we_notV, we_noPart, we_part, we_sl, we_call, we_callS, we_te, we_def, we_defS, wp_next, wp_seq, wp_ret, wp_set, wp_ifs, wp_aug, wp_app, wp_raise, wp_tryTE, wp_for, wp_nx, wp_rt, wp_er, we_items, we_itemsT, we_comp, we_yes, we_rng1, kLoop, kDef, List.set_cons_zero, List.set_cons_succ, List.getElem?_cons_zero, List.getElem?_cons_succ, Option.some.injEq, exists_eq_left', exists_eq_left, PyData.bool.injEq, PyData.int.injEq, PyData.str.injEq, PyData.list.injEq, PyData.tuple.injEq, true_and, and_true, true_implies, reduceCtorEq, false_implies, exists_eq_right, Option.map_some, List.cons.injEq, List.length_cons, List.length_nil, kE, fAdd_L (show ds.length + [kEnd t.length].length ≤ 16777216 by simp; omega), fNe_same ok0, sz_small, Nat.reduceAdd, Nat.reduceLeDiff, Nat.zero_add]
      refine we_clist (fun d => .tuple [d, .str "sign"]) _ [] _ _ _ (fun d hd => ⟨_, rfl, fun s Q E hq => ?_⟩) (by decide) ?_
      · simp only [we_ok, we_er, we_C, we_name, we_nil, we_cons, we_tup, we_lst, we_op2, we_op1, we_test, we_and, we_or, we_not, we_if, we_andV, we_orV, we_notV, we_noPart, we_part, we_sl, we_call, we_callS, we_te, we_def, we_defS, wp_next, wp_seq, wp_ret, wp_set, wp_ifs, wp_aug, wp_app, wp_raise, wp_tryTE, wp_for, wp_nx, wp_rt, wp_er, we_items, we_itemsT, we_comp, we_yes, we_rng1, kLoop, kDef, List.set_cons_zero, List.set_cons_succ, List.getElem?_cons_zero, List.getElem?_cons_succ, Option.some.injEq, exists_eq_left', exists_eq_left, PyData.bool.injEq, PyData.int.injEq, PyData.str.injEq, PyData.list.injEq, PyData.tuple.injEq, true_and, and_true, true_implies, reduceCtorEq, false_implies, exists_eq_right, Option.map_some, List.cons.injEq, List.length_cons, List.length_nil, sz_small, Nat.reduceAdd, Nat.reduceLeDiff, Nat.zero_add]
        exact hq
      simp only [we_ok, we_er, we_C, we_name, we_nil, we_cons, we_tup, we_lst, we_op2, we_op1, we_test, we_and, we_or, we_not, we_if, we_andV, we_orV, we_notV, we_noPart, we_part, we_sl, we_call, we_callS, we_te, we_def, we_defS, wp_next, wp_seq, wp_ret, wp_set, wp_ifs, wp_aug, wp_app, wp_raise, wp_tryTE, wp_for, wp_nx, wp_rt, wp_er, we_items, we_itemsT, we_comp, we_yes, we_rng1, kLoop, kDef, List.set_cons_zero, List.set_cons_succ, List.getElem?_cons_zero, List.getElem?_cons_succ, Option.some.injEq, exists_eq_left', exists_eq_left, PyData.bool.injEq, PyData.int.injEq, PyData.str.injEq, PyData.list.injEq, PyData.tuple.injEq, true_and, and_true, true_implies, reduceCtorEq, false_implies, exists_eq_right, Option.map_some, List.cons.injEq, List.length_cons, List.length_nil, List.map_cons, List.map_nil, List.nil_append, fAdd_L (a := [PyData.tuple [PyData.str (S [65]), .str "sign"], PyData.tuple [PyData.str (S [43]), .str "sign"], PyData.tuple [PyData.str (S [63]), .str "sign"], PyData.tuple [PyData.str (S [9]), .str "sign"], PyData.tuple [PyData.str (S [95]), .str "sign"], PyData.tuple [PyData.str (S [40]), .str "sign"], PyData.tuple [PyData.str (S [34]), .str "sign"], PyData.tuple [PyData.str (S [47]), .str "sign"]]) (b := [PyData.tuple [PyData.str (S [49, 48, 48]), .str "number"], PyData.tuple [PyData.str (S [48, 49]), .str "number"], PyData.tuple [PyData.str (S [48, 48]), .str "number"], PyData.tuple [PyData.str (S [97, 98, 99, 100, 101, 102, 103, 104, 105, 106, 107, 108, 109]), .str "name"]]) (by decide), List.cons_append]
      refine wp_loop_inv (b := bLaw2) (ds := BADS.map badD) (fun _ ρ s => ∃ a6 a10, ρ = [none, none, some (.str (S t)), some (.list ds), a4, a5, a6, a7, a8, some (.list (BADS.map badD)), a10, none]) ⟨_, _, rfl⟩ ?_ ?_
      · rintro j d ρ s hd ⟨a6, a10, rfl⟩
        obtain ⟨b, hb, rfl⟩ := List.mem_map.mp (List.mem_of_getElem? hd)
        refine ⟨_, rfl, ?_⟩
        exact law_bad b hb (by omega) I s _ _ _ _ _ _ _ _ fun s => ⟨_, _, rfl⟩
      · rintro ρ s ⟨a6, a10, rfl⟩
        have st1 := step3 I (u := [97, 98, 99, 100, 101, 102, 103, 104, 105, 106, 107, 108]) (es := [kWord [97, 98, 99, 100, 101, 102, 103, 104, 105, 106, 107, 108] t.length]) rfl (by
          intro d hd
          rw [List.mem_singleton.mp hd]
          exact okW (by decide)) (L := [.tuple [.str "word", .str (S [97, 98, 99, 100, 101, 102, 103, 104, 105, 106, 107, 108]), .int (t.length : Int)], .tuple [.str "end", .str (S []), .int ((t.length : Int) + 12)]]) rfl
        have st2 := step3 I (u := [49, 50, 97, 110, 110]) (es := [kNum 12 t.length, kWord [97, 110, 110] (t.length + 2)]) rfl (by
          intro d hd
          simp only [List.mem_cons, List.not_mem_nil, or_false] at hd
          rcases hd with rfl | rfl
          · exact okN
          · exact okW (by decide)) (L := [.tuple [.str "number", .int 12, .int (t.length : Int)], .tuple [.str "word", .str (S [97, 110, 110]), .int ((t.length : Int) + 2)], .tuple [.str "end", .str (S []), .int ((t.length : Int) + 5)]]) rfl
        have st3 := step3 I (u := [97, 49, 58, 50, 124, 51]) (es := [kWord [97, 49] t.length, kSign 58 (t.length + 2), kNum 2 (t.length + 3), kSign 124 (t.length + 4), kNum 3 (t.length + 5)]) rfl (by
          intro d hd
          simp only [List.mem_cons, List.not_mem_nil, or_false] at hd
          rcases hd with rfl | rfl | rfl | rfl | rfl
          · exact okW (by decide)
          · exact okS (by decide)
          · exact okN
          · exact okS (by decide)
          · exact okN) (L := [.tuple [.str "word", .str (S [97, 49]), .int (t.length : Int)], .tuple [.str "sign", .str (S [58]), .int ((t.length : Int) + 2)], .tuple [.str "number", .int 2, .int ((t.length : Int) + 3)], .tuple [.str "sign", .str (S [124]), .int ((t.length : Int) + 4)], .tuple [.str "number", .int 3, .int ((t.length : Int) + 5)], .tuple [.str "end", .str (S []), .int ((t.length : Int) + 6)]]) rfl
        have adS : ∀ u : List Nat, u.length ≤ 100 → fAdd (.str (S t)) (.str (S u)) = some (.str (S (t ++ u))) := fun u hu => fAdd_S (by omega)
        have adL : ∀ u : List D, u.length ≤ 100 → fAdd (.list ds) (.list u) = some (.list (ds ++ u)) := fun u hu => fAdd_L (by omega)
        simp only [we_ok, we_er, we_C, we_name, we_nil, we_cons, we_tup, we_lst, we_op2, we_op1, we_test, we_and, we_or, we_not, we_if, we_andV, we_orV, we_notV, we_noPart, we_part, we_sl, we_call, we_callS, we_te, we_def, we_defS, wp_next, wp_seq, wp_ret, wp_set, wp_ifs, wp_aug, wp_app, wp_raise, wp_tryTE, wp_for, wp_nx, wp_rt, wp_er, we_items, we_itemsT, we_comp, we_yes, we_rng1, kLoop, kDef, List.set_cons_zero, List.set_cons_succ, List.getElem?_cons_zero, List.getElem?_cons_succ, Option.some.injEq, exists_eq_left', exists_eq_left, PyData.bool.injEq, PyData.int.injEq, PyData.str.injEq, PyData.list.injEq, PyData.tuple.injEq, true_and, and_true, true_implies, reduceCtorEq, false_implies, exists_eq_right, Option.map_some, List.cons.injEq, List.length_cons, List.length_nil, fLen_S (show t.length ≤ 16777216 by omega), adS, sz_small, Nat.reduceAdd, Nat.reduceLeDiff, Nat.zero_add, fAdd_I]
        refine told _ (by simp; omega) _ _ fun s3 => ?_
        simp only [we_ok, we_er, we_C, we_name, we_nil, we_cons, we_tup, we_lst, we_op2, we_op1, we_test, we_and, we_or, we_not, we_if, we_andV, we_orV, we_notV, we_noPart, we_part, we_sl, we_call, we_callS, we_te, we_def, we_defS, wp_next, wp_seq, wp_ret, wp_set, wp_ifs, wp_aug, wp_app, wp_raise, wp_tryTE, wp_for, wp_nx, wp_rt, wp_er, we_items, we_itemsT, we_comp, we_yes, we_rng1, kLoop, kDef, List.set_cons_zero, List.set_cons_succ, List.getElem?_cons_zero, List.getElem?_cons_succ, Option.some.injEq, exists_eq_left', exists_eq_left, PyData.bool.injEq, PyData.int.injEq, PyData.str.injEq, PyData.list.injEq, PyData.tuple.injEq, true_and, and_true, true_implies, reduceCtorEq, false_implies, exists_eq_right, Option.map_some, List.cons.injEq, List.length_cons, List.length_nil, adL, st1, Nat.reduceAdd, Nat.reduceLeDiff, Nat.zero_add]
        refine told _ (by simp; omega) _ _ fun s3 => ?_
        simp only [we_ok, we_er, we_C, we_name, we_nil, we_cons, we_tup, we_lst, we_op2, we_op1, we_test, we_and, we_or, we_not, we_if, we_andV, we_orV, we_notV, we_noPart, we_part, we_sl, we_call, we_callS, we_te, we_def, we_defS, wp_next, wp_seq, wp_ret, wp_set, wp_ifs, wp_aug, wp_app, wp_raise, wp_tryTE, wp_for, wp_nx, wp_rt, wp_er, we_items, we_itemsT, we_comp, we_yes, we_rng1, kLoop, kDef, List.set_cons_zero, List.set_cons_succ, List.getElem?_cons_zero, List.getElem?_cons_succ, Option.some.injEq, exists_eq_left', exists_eq_left, PyData.bool.injEq, PyData.int.injEq, PyData.str.injEq, PyData.list.injEq, PyData.tuple.injEq, true_and, and_true, true_implies, reduceCtorEq, false_implies, exists_eq_right, Option.map_some, List.cons.injEq, List.length_cons, List.length_nil, adL, st2, Nat.reduceAdd, Nat.reduceLeDiff, Nat.zero_add]
        refine told _ (by simp; omega) _ _ fun s3 => ?_
        simp only [we_ok, we_er, we_C, we_name, we_nil, we_cons, we_tup, we_lst, we_op2, we_op1, we_test, we_and, we_or, we_not, we_if, we_andV, we_orV, we_notV, we_noPart, we_part, we_sl, we_call, we_callS, we_te, we_def, we_defS, wp_next, wp_seq, wp_ret, wp_set, wp_ifs, wp_aug, wp_app, wp_raise, wp_tryTE, wp_for, wp_nx, wp_rt, wp_er, we_items, we_itemsT, we_comp, we_yes, we_rng1, kLoop, kDef, List.set_cons_zero, List.set_cons_succ, List.getElem?_cons_zero, List.getElem?_cons_succ, Option.some.injEq, exists_eq_left', exists_eq_left, PyData.bool.injEq, PyData.int.injEq, PyData.str.injEq, PyData.list.injEq, PyData.tuple.injEq, true_and, and_true, true_implies, reduceCtorEq, false_implies, exists_eq_right, Option.map_some, List.cons.injEq, List.length_cons, List.length_nil, adL, st3, Nat.reduceAdd, Nat.reduceLeDiff, Nat.zero_add]
        have z1 : fEq (tres []) (.list [.tuple [.str "end", .str (S []), .int 0]]) = some (.bool true) := step0 (es := []) rfl (by simp) rfl
        have z2 : fEq (tres [35, 32, 63]) (.list [.tuple [.str "end", .str (S []), .int 3]]) = some (.bool true) := step0 (es := []) rfl (by simp) rfl
        have z3 : fEq (tres [35, 10, 63]) (.list [.int 2, .str "sign"]) = some (.bool true) := by
          rw [show tres [35, 10, 63] = .list [.int ((2 : Nat) : Int), .str "sign"] from rfl]
          exact fEq_same (okP (by decide +kernel))
        have z4 : fEq (tres [57, 57]) (.list [.tuple [.str "number", .int 99, .int 0], .tuple [.str "end", .str (S []), .int 2]]) = some (.bool true) := step0 (es := [kNum 99 0]) rfl (by
          intro d hd
          rw [List.mem_singleton.mp hd]
          exact okN) rfl
        refine told _ (by decide) _ _ fun s4 => ?_
        simp only [we_ok, we_er, we_C, we_name, we_nil, we_cons, we_tup, we_lst, we_op2, we_op1, we_test, we_and, we_or, we_not, we_if, we_andV, we_orV, we_notV, we_noPart, we_part, we_sl, we_call, we_callS, we_te, we_def, we_defS, wp_next, wp_seq, wp_ret, wp_set, wp_ifs, wp_aug, wp_app, wp_raise, wp_tryTE, wp_for, wp_nx, wp_rt, wp_er, we_items, we_itemsT, we_comp, we_yes, we_rng1, kLoop, kDef, List.set_cons_zero, List.set_cons_succ, List.getElem?_cons_zero, List.getElem?_cons_succ, Option.some.injEq, exists_eq_left', exists_eq_left, PyData.bool.injEq, PyData.int.injEq, PyData.str.injEq, PyData.list.injEq, PyData.tuple.injEq, true_and, and_true, true_implies, reduceCtorEq, false_implies, exists_eq_right, Option.map_some, List.cons.injEq, List.length_cons, List.length_nil, z1]
        refine told _ (by decide) _ _ fun s5 => ?_
        simp only [we_ok, we_er, we_C, we_name, we_nil, we_cons, we_tup, we_lst, we_op2, we_op1, we_test, we_and, we_or, we_not, we_if, we_andV, we_orV, we_notV, we_noPart, we_part, we_sl, we_call, we_callS, we_te, we_def, we_defS, wp_next, wp_seq, wp_ret, wp_set, wp_ifs, wp_aug, wp_app, wp_raise, wp_tryTE, wp_for, wp_nx, wp_rt, wp_er, we_items, we_itemsT, we_comp, we_yes, we_rng1, kLoop, kDef, List.set_cons_zero, List.set_cons_succ, List.getElem?_cons_zero, List.getElem?_cons_succ, Option.some.injEq, exists_eq_left', exists_eq_left, PyData.bool.injEq, PyData.int.injEq, PyData.str.injEq, PyData.list.injEq, PyData.tuple.injEq, true_and, and_true, true_implies, reduceCtorEq, false_implies, exists_eq_right, Option.map_some, List.cons.injEq, List.length_cons, List.length_nil, z2]
        refine told _ (by decide) _ _ fun s6 => ?_
        simp only [we_ok, we_er, we_C, we_name, we_nil, we_cons, we_tup, we_lst, we_op2, we_op1, we_test, we_and, we_or, we_not, we_if, we_andV, we_orV, we_notV, we_noPart, we_part, we_sl, we_call, we_callS, we_te, we_def, we_defS, wp_next, wp_seq, wp_ret, wp_set, wp_ifs, wp_aug, wp_app, wp_raise, wp_tryTE, wp_for, wp_nx, wp_rt, wp_er, we_items, we_itemsT, we_comp, we_yes, we_rng1, kLoop, kDef, List.set_cons_zero, List.set_cons_succ, List.getElem?_cons_zero, List.getElem?_cons_succ, Option.some.injEq, exists_eq_left', exists_eq_left, PyData.bool.injEq, PyData.int.injEq, PyData.str.injEq, PyData.list.injEq, PyData.tuple.injEq, true_and, and_true, true_implies, reduceCtorEq, false_implies, exists_eq_right, Option.map_some, List.cons.injEq, List.length_cons, List.length_nil, z3]
        exact told _ (by decide) _ _ fun s7 => z4
  cases q : m_law (List.replicate nLaw none) (d0 ns) with
  | rt d s => rw [q] at key; exact ⟨s, by rw [show d = _ from key]⟩
  | nx _ _ => rw [q] at key; exact key.elim
  | bk _ _ => rw [q] at key; exact key.elim
  | ct _ _ => rw [q] at key; exact key.elim
  | er _ _ => rw [q] at key; exact key.elim
  | bad => rw [q] at key; exact key.elim
end M
set_option maxRecDepth 100000
set_option maxHeartbeats 0
namespace M
open PySem L2
/-! ### the head -/
def fnL : List He.DefD := [dd "_end_of" s__end_of, dd "_word_at" s__word_at, dd "_number_at" s__number_at, dd "_behind_remark" s__behind_remark, dd "tokens_of" s_tokens_of, dd "_law_state" s__law_state, dd "_law_draw" s__law_draw, dd "_law_told" s__law_told, dd "_law_word" s__law_word, dd "_law_gap" s__law_gap, dd "law" s_law]
def faL : List He.Fa := [.glo "TextError", .glo "_end_of", .glo "_word_at", .glo "_number_at", .glo "_behind_remark", .glo "tokens_of", .glo "_law_state", .glo "_law_draw", .glo "_law_told", .glo "_law_word", .glo "_law_gap", .glo "law", .free "int", .free "len", .free "list", .free "range", .free "str", .free "super", .str "FIGURES" ("0123456789" : Str), .str "LETTERS" ("abcdefghijklmnopqrstuvwxyz" : Str), .int "MOST_FIGURES" 2, .int "MOST_NAME" 12, .str "SIGNS" ("=,;:|-" : Str)]
abbrev R : PySem.W.OpenRow := PySem.W.OpenLaw.row PySem.Challenge.rw_someoneleft_k17_whole_tokens_of_books
def fiL : List FnI := [teI ⟨6, 17, 6, 21⟩ ⟨6, 23, 6, 28⟩ ⟨6, 30, 6, 34⟩]
abbrev hk : PySem.W.Hook := hookM R.prog 5 faL fnL true fiL
def ob (s : PySem.W.SharedT) : AlM := obsMG R.prog 5 faL fnL true (HandSHeadRun.getT s)
theorem ob_eq (s : PySem.W.SharedT) : ob s = hk.obs s.abs := obsMG_eq (HandSHeadRun.getT_eq s)
def loose0 : List Str := ["__name__", "OfficeError", "TextError", "LETTERS", "FIGURES", "MOST_NAME", "SIGNS", "MOST_FIGURES", "_end_of", "_word_at", "_number_at", "_behind_remark", "tokens_of", "_law_state", "_law_draw", "_law_told", "_law_word", "_law_gap"]
def loose : List Str := loose0
theorem run (w : World) : HandSHeadRun.RunEq R (PySem.W.view R.prog [20]) hk ob 1240 loose w := by
  intro os
  kernel_rfl
theorem facts {w : World} {K : PySem.W.Frag} {h : Heap} {mg : Str → Option Value} {f : Addr} (X : K.In h) (G : h.Ns mainGlobals mg) (hfa : mg ("law" : Str) = some (.ref f)) (c : SaysM R.prog faL fnL true fiL K) :
    ∃ fd : FuncData, (∀ (s : Shared) (v : Value), BindsTo s fd ⟨[v], []⟩ [("script", v)]) ∧ ∀ base : Heap, K.In base → base.Ns mainGlobals mg → FnOk R.prog w K mg base (L2.CX R.prog w) 5 f fd ["script"] (spLaw K) := by
  have d := c.d
  obtain ⟨C, fI, tx⟩ := te_ok X G (d.fact 0) (d.fact 17) (d.fact 16) c.teB c.fiI
  obtain ⟨fd__end_of, F__end_of⟩ := dd_fun d 0 (x := "_end_of") (st := s__end_of) rfl
  have g__end_of : mg "_end_of" = some (.ref (He.ga K "_end_of")) := He.glo_ok X G (d.fact 1)
  have b__end_of : Binds K fd__end_of ["text", "at", "allowed"] [] := F__end_of.binds fun _ _ _ _ _ _ us hl => match us, hl with | [_, _, _], _ => rfl
  obtain ⟨fd__word_at, F__word_at⟩ := dd_fun d 1 (x := "_word_at") (st := s__word_at) rfl
  have g__word_at : mg "_word_at" = some (.ref (He.ga K "_word_at")) := He.glo_ok X G (d.fact 2)
  have b__word_at : Binds K fd__word_at ["text", "at"] [] := F__word_at.binds fun _ _ _ _ _ _ us hl => match us, hl with | [_, _], _ => rfl
  obtain ⟨fd__number_at, F__number_at⟩ := dd_fun d 2 (x := "_number_at") (st := s__number_at) rfl
  have g__number_at : mg "_number_at" = some (.ref (He.ga K "_number_at")) := He.glo_ok X G (d.fact 3)
  have b__number_at : Binds K fd__number_at ["text", "at"] [] := F__number_at.binds fun _ _ _ _ _ _ us hl => match us, hl with | [_, _], _ => rfl
  obtain ⟨fd__behind_remark, F__behind_remark⟩ := dd_fun d 3 (x := "_behind_remark") (st := s__behind_remark) rfl
  have g__behind_remark : mg "_behind_remark" = some (.ref (He.ga K "_behind_remark")) := He.glo_ok X G (d.fact 4)
  have b__behind_remark : Binds K fd__behind_remark ["text", "at"] [] := F__behind_remark.binds fun _ _ _ _ _ _ us hl => match us, hl with | [_, _], _ => rfl
  obtain ⟨fd_tokens_of, F_tokens_of⟩ := dd_fun d 4 (x := "tokens_of") (st := s_tokens_of) rfl
  have g_tokens_of : mg "tokens_of" = some (.ref (He.ga K "tokens_of")) := He.glo_ok X G (d.fact 5)
  have b_tokens_of : Binds K fd_tokens_of ["text"] [] := F_tokens_of.binds fun _ _ _ _ _ _ us hl => match us, hl with | [_], _ => rfl
  obtain ⟨fd__law_state, F__law_state⟩ := dd_fun d 5 (x := "_law_state") (st := s__law_state) rfl
  have g__law_state : mg "_law_state" = some (.ref (He.ga K "_law_state")) := He.glo_ok X G (d.fact 6)
  have b__law_state : Binds K fd__law_state ["script"] [] := F__law_state.binds fun _ _ _ _ _ _ us hl => match us, hl with | [_], _ => rfl
  obtain ⟨fd__law_draw, F__law_draw⟩ := dd_fun d 6 (x := "_law_draw") (st := s__law_draw) rfl
  have g__law_draw : mg "_law_draw" = some (.ref (He.ga K "_law_draw")) := He.glo_ok X G (d.fact 7)
  have b__law_draw : Binds K fd__law_draw ["state", "limit"] [] := F__law_draw.binds fun _ _ _ _ _ _ us hl => match us, hl with | [_, _], _ => rfl
  obtain ⟨fd__law_told, F__law_told⟩ := dd_fun d 7 (x := "_law_told") (st := s__law_told) rfl
  have g__law_told : mg "_law_told" = some (.ref (He.ga K "_law_told")) := He.glo_ok X G (d.fact 8)
  have b__law_told : Binds K fd__law_told ["text"] [] := F__law_told.binds fun _ _ _ _ _ _ us hl => match us, hl with | [_], _ => rfl
  obtain ⟨fd__law_word, F__law_word⟩ := dd_fun d 8 (x := "_law_word") (st := s__law_word) rfl
  have g__law_word : mg "_law_word" = some (.ref (He.ga K "_law_word")) := He.glo_ok X G (d.fact 9)
  have b__law_word : Binds K fd__law_word ["state"] [] := F__law_word.binds fun _ _ _ _ _ _ us hl => match us, hl with | [_], _ => rfl
  obtain ⟨fd__law_gap, F__law_gap⟩ := dd_fun d 9 (x := "_law_gap") (st := s__law_gap) rfl
  have g__law_gap : mg "_law_gap" = some (.ref (He.ga K "_law_gap")) := He.glo_ok X G (d.fact 10)
  have b__law_gap : Binds K fd__law_gap ["state"] [] := F__law_gap.binds fun _ _ _ _ _ _ us hl => match us, hl with | [_], _ => rfl
  obtain ⟨fd_law, F_law⟩ := dd_fun d 10 (x := "law") (st := s_law) rfl
  have g_law : mg "law" = some (.ref (He.ga K "law")) := He.glo_ok X G (d.fact 11)
  have e := hfa.symm.trans g_law
  cases e
  refine ⟨fd_law, fun_binds1 F_law (fun _ _ _ _ _ _ _ => rfl), fun base _ _ => ?_⟩
  let B : Gb := ⟨R.prog, w, K, mg, base⟩
  have T : Tx B C fI := { te := tx, c_FIGURES := He.str_ok X G (d.fact 18), c_LETTERS := He.str_ok X G (d.fact 19), c_MOST_FIGURES := He.int_ok X G (d.fact 20), c_MOST_NAME := He.int_ok X G (d.fact 21), c_SIGNS := He.str_ok X G (d.fact 22), b_int := He.free_ok X G (d.fact 12), b_len := He.free_ok X G (d.fact 13), b_list := He.free_ok X G (d.fact 14), b_range := He.free_ok X G (d.fact 15), b_str := He.free_ok X G (d.fact 16) }
  have f__end_of := ok__end_of (B := B) T  F__end_of g__end_of b__end_of
  have f__word_at := ok__word_at (B := B) T f__end_of F__word_at g__word_at b__word_at
  have f__number_at := ok__number_at (B := B) T f__end_of F__number_at g__number_at b__number_at
  have f__behind_remark := ok__behind_remark (B := B) T  F__behind_remark g__behind_remark b__behind_remark
  have f_tokens_of := ok_tokens_of (B := B) T f__behind_remark f__word_at f__number_at F_tokens_of g_tokens_of b_tokens_of
  have f__law_state := fn_state (B := B) F__law_state sc__law_state (fun E X hX => ps_state T E X hX)
  have f__law_draw : FnS B "_law_draw" 1 1 draw := FnS.ofDraw F__law_draw g__law_draw sc__law_draw b__law_draw (fun E X hX => ps_draw T E X hX)
  have f__law_told := ok__law_told (B := B) T f_tokens_of F__law_told g__law_told b__law_told
  have f__law_word := ok__law_word (B := B) T f__law_draw F__law_word g__law_word b__law_word
  have f__law_gap := ok__law_gap (B := B) T f__law_draw F__law_gap g__law_gap b__law_gap
  exact fn_law F_law sc_law rfl (by decide) (by decide) (fun E X hX => ps_first hX f__law_state g__law_state F__law_state.kp b__law_state (by decide) rfl rfl rfl (Or.inl rfl) rfl) (fun E => ok_law T f__law_draw f__law_word f__law_gap f__law_told E) plain
end M
open PySem PySem.W PySem.Calls PyProof.Rows
theorem PySem.Challenge.cw_someoneleft_k17_whole_tokens_of_books_holds : PySem.Challenge.rw_someoneleft_k17_whole_tokens_of_books.Holds := by
  w_on; o_law
  refine HandSHeadRun.head_any (r := OpenLaw.row PySem.Challenge.rw_someoneleft_k17_whole_tokens_of_books) (q := view (OpenLaw.row PySem.Challenge.rw_someoneleft_k17_whole_tokens_of_books).prog [20]) (H := M.hk) (ob := M.ob) (M := 1240) (loose := M.loose) (d := HandSHeadRun.topDef (OpenLaw.row PySem.Challenge.rw_someoneleft_k17_whole_tokens_of_books).prog 20) (kwd := []) M.ob_eq
    (by kernel_rfl) (fun s => by kernel_rfl) M.run (by kernel_rfl) (by kernel_rfl) (by kernel_rfl) (by rfl) (by first | assumption | decide +kernel) (by decide +kernel) ⟨rfl, rfl, rfl, rfl, rfl, by decide +kernel⟩ ?hw ?hc
  case hw => w_witness2
  case hc =>
    refine M.walk_m (l := PySem.Challenge.rw_someoneleft_k17_whole_tokens_of_books) (k := 5) rfl (by kernel_rfl) ⟨rfl, by decide, by decide⟩ ?F
    intro w mg fa h Y G hmg0
    obtain ⟨K, KX, c⟩ := Y
    have hmg : mg ("law" : PySem.Str) = some (.ref fa) := by
      have e : (HandSHeadRun.topDef (OpenLaw.row PySem.Challenge.rw_someoneleft_k17_whole_tokens_of_books).prog 20).name = ("law" : PySem.Str) := by kernel_rfl
      rw [← e]
      exact hmg0
    obtain ⟨fd, hb, hF⟩ := M.facts (w := w) KX G hmg c
    exact ⟨K, fd, KX, hb, hF⟩
