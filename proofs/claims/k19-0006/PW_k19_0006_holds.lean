import PyProof.Rows.All
import Wide.All
import OpenK.AllK
import Wide.FinOn
import PySem.Challenge.RW_k19_0006
set_option Elab.async false
set_option linter.unusedVariables false
namespace Mine
open PySem PySem.Calls PySem.Spec PyProof.Rows

/-- plain data -/
inductive V where
  | none
  | bool (b : Bool)
  | int (i : Int)
  | str (x : Str)
  | typ (n : String)
  | tup (l : List V)
  | lst (l : List V)

abbrev lstO (vs : List Value) (n : Nat) : Obj := { cls := .type "list", data := .seq vs.toArray n }
abbrev tupO (vs : List Value) (n : Nat) : Obj := { cls := .type "tuple", data := .seq vs.toArray n }

mutual
/-- the value reads as the datum, through no object of X -/
inductive Rd (X : List Addr) (h : Heap) : Value → V → Prop
  | none : Rd X h .none .none
  | bool (b : Bool) : Rd X h (.bool b) (.bool b)
  | int (i : Int) (t : Tok) : Rd X h (.int i t) (.int i)
  | str (x : Str) (t : Tok) : Rd X h (.str x t) (.str x)
  | typ (n : String) : Rd X h (.type n) (.typ n)
  | tup {a : Addr} {vs : List Value} {n : Nat} {ds : List V} : h.get? a = some (tupO vs n) → a ∉ X → RdA X h vs ds → Rd X h (.ref a) (.tup ds)
  | lst {a : Addr} {vs : List Value} {n : Nat} {ds : List V} : h.get? a = some (lstO vs n) → a ∉ X → RdA X h vs ds → Rd X h (.ref a) (.lst ds)
inductive RdA (X : List Addr) (h : Heap) : List Value → List V → Prop
  | nil : RdA X h [] []
  | cons {v : Value} {vs : List Value} {d : V} {ds : List V} : Rd X h v d → RdA X h vs ds → RdA X h (v :: vs) (d :: ds)
end

/-- an object that holds a sequence -/
def IsSq (o : Obj) : Prop := ∃ its n, o.data = .seq its n

mutual
theorem Rd.move {X Y : List Addr} {h h' : Heap} (hk : ∀ a o, h.get? a = some o → IsSq o → a ∉ X → h'.get? a = some o ∧ a ∉ Y) : ∀ {v : Value} {d : V}, Rd X h v d → Rd Y h' v d
  | _, _, .none => .none
  | _, _, .bool b => .bool b
  | _, _, .int i t => .int i t
  | _, _, .str x t => .str x t
  | _, _, .typ n => .typ n
  | _, _, .tup e hx r => .tup (hk _ _ e ⟨_, _, rfl⟩ hx).1 (hk _ _ e ⟨_, _, rfl⟩ hx).2 (RdA.move hk r)
  | _, _, .lst e hx r => .lst (hk _ _ e ⟨_, _, rfl⟩ hx).1 (hk _ _ e ⟨_, _, rfl⟩ hx).2 (RdA.move hk r)
theorem RdA.move {X Y : List Addr} {h h' : Heap} (hk : ∀ a o, h.get? a = some o → IsSq o → a ∉ X → h'.get? a = some o ∧ a ∉ Y) : ∀ {vs : List Value} {ds : List V}, RdA X h vs ds → RdA Y h' vs ds
  | _, _, .nil => .nil
  | _, _, .cons h r => .cons (Rd.move hk h) (RdA.move hk r)
end

def Le (h h' : Heap) : Prop := ∀ b o, h.get? b = some o → h'.get? b = some o
theorem Le.refl (h : Heap) : Le h h := fun _ _ e => e
theorem Le.trans {a b c : Heap} (x : Le a b) (y : Le b c) : Le a c := fun p o e => y p o (x p o e)
theorem Le.push {h : Heap} (o : Obj) : Le h (h.push o) := fun _ _ e => Heap.get?_push_of_some o e

theorem Rd.le {X : List Addr} {h h' : Heap} {v : Value} {d : V} (x : Rd X h v d) (k : Le h h') : Rd X h' v d := x.move fun a o e _ hx => ⟨k a o e, hx⟩
theorem RdA.le {X : List Addr} {h h' : Heap} {v : List Value} {d : List V} (x : RdA X h v d) (k : Le h h') : RdA X h' v d := x.move fun a o e _ hx => ⟨k a o e, hx⟩
theorem Rd.sub {X Y : List Addr} {h : Heap} {v : Value} {d : V} (x : Rd X h v d) (k : ∀ a ∈ Y, a ∈ X) : Rd Y h v d := x.move fun a o e _ hx => ⟨e, fun q => hx (k a q)⟩
theorem RdA.sub {X Y : List Addr} {h : Heap} {v : List Value} {d : List V} (x : RdA X h v d) (k : ∀ a ∈ Y, a ∈ X) : RdA Y h v d := x.move fun a o e _ hx => ⟨e, fun q => hx (k a q)⟩

/-- nothing within it is an object -/
def V.flat : V → Bool
  | .tup _ => false
  | .lst _ => false
  | _ => true
theorem Rd.flat {X Y : List Addr} {h h' : Heap} {v : Value} {d : V} (x : Rd X h v d) (f : d.flat = true) : Rd Y h' v d := by
  cases x <;> first | (cases f; done) | constructor
theorem RdA.flat {X Y : List Addr} {h h' : Heap} : ∀ {v : List Value} {d : List V}, RdA X h v d → (∀ x ∈ d, x.flat = true) → RdA Y h' v d
  | _, _, .nil, _ => .nil
  | _, _, .cons a r, f => .cons (a.flat (f _ (.head _))) (RdA.flat r fun x hx => f x (.tail _ hx))

section
variable {X : List Addr} {h : Heap} {vs ws : List Value} {ds es : List V}
theorem RdA.length : ∀ {vs : List Value} {ds : List V}, RdA X h vs ds → vs.length = ds.length
  | _, _, .nil => rfl
  | _, _, .cons _ r => by rw [List.length_cons, List.length_cons, RdA.length r]
theorem RdA.append : ∀ {vs : List Value} {ds : List V}, RdA X h vs ds → RdA X h ws es → RdA X h (vs ++ ws) (ds ++ es)
  | _, _, .nil, k => k
  | _, _, .cons a r, k => .cons a (RdA.append r k)
theorem RdA.get : ∀ {vs : List Value} {ds : List V}, RdA X h vs ds → ∀ {i : Nat} {d : V}, ds[i]? = some d → ∃ v, vs[i]? = some v ∧ Rd X h v d
  | _, _, .nil, i, d, e => by simp at e
  | _, _, .cons a r, 0, d, e => by simp at e; subst e; exact ⟨_, rfl, a⟩
  | _, _, .cons a r, i + 1, d, e => by simp at e; obtain ⟨v, h1, h2⟩ := RdA.get r e; exact ⟨v, by simpa using h1, h2⟩
theorem RdA.getV : ∀ {vs : List Value} {ds : List V}, RdA X h vs ds → ∀ {i : Nat} {v : Value}, vs[i]? = some v → ∃ d, ds[i]? = some d ∧ Rd X h v d
  | _, _, .nil, i, v, e => by simp at e
  | _, _, .cons a r, 0, v, e => by simp at e; subst e; exact ⟨_, rfl, a⟩
  | _, _, .cons a r, i + 1, v, e => by simp at e; obtain ⟨d, h1, h2⟩ := RdA.getV r e; exact ⟨d, by simpa using h1, h2⟩
theorem RdA.set {v : Value} {d : V} (hv : Rd X h v d) : ∀ {vs : List Value} {ds : List V}, RdA X h vs ds → ∀ i : Nat, RdA X h (vs.set i v) (ds.set i d)
  | _, _, .nil, _ => .nil
  | _, _, .cons _ r, 0 => .cons hv r
  | _, _, .cons a r, i + 1 => .cons a (RdA.set hv r i)
theorem RdA.drop : ∀ {vs : List Value} {ds : List V}, RdA X h vs ds → ∀ n, RdA X h (vs.drop n) (ds.drop n)
  | _, _, r, 0 => r
  | _, _, .nil, _ + 1 => .nil
  | _, _, .cons _ r, n + 1 => RdA.drop r n
theorem RdA.take : ∀ {vs : List Value} {ds : List V}, RdA X h vs ds → ∀ n, RdA X h (vs.take n) (ds.take n)
  | _, _, _, 0 => .nil
  | _, _, .nil, _ + 1 => .nil
  | _, _, .cons a r, n + 1 => .cons a (RdA.take r n)
end

/-- what the laws' proofs know of the program's run -/
structure Wd where
  prog : Program
  w : World
  mg : Str → Option Value
  mb : Str → Option Value
  defs : Addr → FuncData → Prop
  root : Heap

structure Gr (W : Wd) (h : Heap) : Prop where
  g : h.Ns mainGlobals W.mg
  b : h.Ns builtinsNs W.mb
  lim : h.NoLimit
  defs : ∀ f fd, W.defs f fd → ∃ o, h.get? f = some o ∧ o.data = .func fd ∧ h.CodeRec fd.code fd.qualname
  root : Le W.root h

theorem Gr.le {W : Wd} {h h' : Heap} (x : Gr W h) (k : Le h h') : Gr W h' :=
  ⟨x.g.keeps k, x.b.keeps k, x.lim.keeps k, fun f fd hq => let ⟨o, h1, h2, h3⟩ := x.defs f fd hq; ⟨o, k _ _ h1, h2, h3.keeps k⟩, x.root.trans k⟩

structure Cn (W : Wd) (k : Nat) (A : Around) (h₀ : Heap) (L : Addr) (h : Heap) : Prop where
  gr : Gr W h₀
  bel : ∃ A₀ base outer fenv, Below A₀ base outer h₀ ∧ A.frames = some (fenv :: outer) ∧ fenv.frame = some L ∧ fenv.scope.kind = .function
  above : h₀.objs.size ≤ L
  hand : A.handled = none
  room : A.depth + k < recursionLimit
  units : A.units + 8 * k + 100 < cLine
  keep : Le h₀ h
  ns : ∃ m, h.Ns L m

theorem Cn.le {W : Wd} {k : Nat} {A : Around} {h₀ : Heap} {L : Addr} {h h' : Heap} (x : Cn W k A h₀ L h) (q : Le h h') : Cn W k A h₀ L h' :=
  ⟨x.gr, x.bel, x.above, x.hand, x.room, x.units, x.keep.trans q, let ⟨m, hm⟩ := x.ns; ⟨m, hm.keeps q⟩⟩
theorem Cn.less {W : Wd} {k k' : Nat} {A : Around} {h₀ : Heap} {L : Addr} {h : Heap} (x : Cn W k A h₀ L h) (q : k' ≤ k) : Cn W k' A h₀ L h :=
  ⟨x.gr, x.bel, x.above, x.hand, by have := x.room; omega, by have := x.units; omega, x.keep, x.ns⟩
theorem Cn.here {W : Wd} {k : Nat} {A : Around} {h₀ : Heap} {L : Addr} {h : Heap} (x : Cn W k A h₀ L h) : Gr W h := x.gr.le x.keep

/-- where an expression is evaluated -/
structure Cx (W : Wd) (k : Nat) (A : Around) (h₀ : Heap) (L : Addr) (env : Env) (X : List Addr) (h : Heap) : Prop where
  cn : Cn W k A h₀ L h
  ek : env.scope.kind = .function
  eg : env.globals = mainGlobals
  eb : env.builtins = builtinsNs
  xs : ∀ a ∈ X, ∃ o, h.get? a = some o
theorem Cx.le {W : Wd} {k : Nat} {A : Around} {h₀ : Heap} {L : Addr} {env : Env} {X : List Addr} {h h' : Heap} (x : Cx W k A h₀ L env X h) (q : Le h h') : Cx W k A h₀ L env X h' :=
  ⟨x.cn.le q, x.ek, x.eg, x.eb, fun a ha => let ⟨o, e⟩ := x.xs a ha; ⟨o, q _ _ e⟩⟩
theorem Cx.sub {W : Wd} {k : Nat} {A : Around} {h₀ : Heap} {L : Addr} {env : Env} {X Y : List Addr} {h : Heap} (x : Cx W k A h₀ L env X h) (q : ∀ a ∈ Y, a ∈ X) : Cx W k A h₀ L env Y h :=
  ⟨x.cn, x.ek, x.eg, x.eb, fun a ha => x.xs a (q a ha)⟩
theorem Cx.fresh {W : Wd} {k : Nat} {A : Around} {h₀ : Heap} {L : Addr} {env : Env} {X : List Addr} {h h' : Heap} (x : Cx W k A h₀ L env X h) (q : Le h h') : h'.objs.size ∉ X := fun m => by
  obtain ⟨o, e⟩ := x.xs _ m
  exact Nat.lt_irrefl _ (Heap.lt_size (q _ _ e))

/-- the variable holds the value -/
def Var (env : Env) (h : Heap) (x : Str) (v : Value) : Prop :=
  (env.kindOf x = some .local ∧ ∃ m, h.Ns env.locals m ∧ m x = some v) ∨
  ((env.kindOf x = some .cell ∨ (env.kindOf x = some .free ∧ (x == ("__classdict__" : Str)) = false)) ∧ ∃ c, env.cells.lookup x = some c ∧ h.IsCell c (some v))
theorem Var.le {env : Env} {h h' : Heap} {x : Str} {v : Value} (y : Var env h x v) (k : Le h h') : Var env h' x v := by
  rcases y with ⟨a, m, b, c⟩ | ⟨a, c, b, d⟩
  · exact .inl ⟨a, m, b.keeps k, c⟩
  · exact .inr ⟨a, c, b, d.keeps k⟩

/-- the state has grown: nothing that stood has turned -/
structure Gw (s s' : Shared) : Prop where
  same : ∃ h tk, s' = { s with heap := h, toks := tk }
  le : Le s.heap s'.heap
theorem Gw.refl (s : Shared) : Gw s s := ⟨⟨s.heap, s.toks, rfl⟩, fun _ _ e => e⟩
theorem Gw.trans {a b c : Shared} (x : Gw a b) (y : Gw b c) : Gw a c := by
  obtain ⟨⟨h, t, rfl⟩, k⟩ := x
  obtain ⟨⟨h', t', rfl⟩, k'⟩ := y
  exact ⟨⟨h', t', rfl⟩, k.trans k'⟩
theorem Gw.toks (s : Shared) (t : Nat) : Gw s { s with toks := t } := ⟨⟨s.heap, t, rfl⟩, fun _ _ e => e⟩
theorem Gw.push (s : Shared) (o : Obj) : Gw s { s with heap := s.heap.push o } := ⟨⟨_, s.toks, rfl⟩, Le.push o⟩
theorem Gw.heap (s : Shared) (h : Heap) (t : Nat) (k : Le s.heap h) : Gw s { s with heap := h, toks := t } := ⟨⟨_, _, rfl⟩, k⟩
theorem Gw.of {s s' : Shared} (x : Keeps s s') : Gw s s' := by
  obtain ⟨h, t, rfl, k⟩ := x
  exact ⟨⟨h, t, rfl⟩, k⟩

def Ev (W : Wd) (A : Around) (env : Env) (X : List Addr) (h : Heap) (e : Expr) (d : V) : Prop :=
  ∀ (s : Shared) (Q E : Value → Shared → Prop), Le h s.heap → (∀ v s', Gw s s' → Rd X s'.heap v d → Q v s') → wpAny (model W.prog W.w) A (eval e env) Q E s

def Bt (W : Wd) (A : Around) (env : Env) (h : Heap) (e : Expr) (b : Bool) : Prop :=
  ∀ (s : Shared) (Q : Bool → Shared → Prop) (E : Value → Shared → Prop), Le h s.heap → (∀ s', Gw s s' → Q b s') → wpAny (model W.prog W.w) A (isTrue e env (eval e env)) Q E s

section
variable {W : Wd} {k : Nat} {A : Around} {h₀ : Heap} {L : Addr} {env : Env} {X Y : List Addr} {h : Heap}

theorem Ev.le {h' : Heap} {e : Expr} {d : V} (x : Ev W A env X h e d) (q : Le h h') : Ev W A env X h' e d := fun s Q E l f => x s Q E (q.trans l) f
theorem Ev.sub {e : Expr} {d : V} (x : Ev W A env X h e d) (q : ∀ a ∈ Y, a ∈ X) : Ev W A env Y h e d := fun s Q E l f => x s Q E l fun v s' k r => f v s' k (r.sub q)
theorem Ev.flat {e : Expr} {d : V} (x : Ev W A env Y h e d) (q : d.flat = true) : Ev W A env X h e d := fun s Q E l f => x s Q E l fun v s' k r => f v s' k (r.flat q)
theorem Bt.le {h' : Heap} {e : Expr} {b : Bool} (x : Bt W A env h e b) (q : Le h h') : Bt W A env h' e b := fun s Q E l f => x s Q E (q.trans l) f

theorem ev_var {x : Str} {pos : Pos} {v : Value} {d : V} (c : Cx W k A h₀ L env X h) (hv : Var env h x v) (hr : Rd X h v d) (hd : (x == ("__debug__" : Str)) = false := by decide) : Ev W A env X h (.Name x pos) d := by
  intro s Q E l f
  refine wpAny_Name ?_ hd
  have q := f v s (Gw.refl s) (hr.le l)
  rcases hv.le l with ⟨a, m, b, e⟩ | ⟨a | ⟨a, n⟩, cc, b, e⟩
  · exact wpAny_loadName_local c.ek a b e q
  · exact wpAny_loadName_cell c.ek a b e q
  · exact wpAny_loadName_free c.ek a b e q n
theorem ev_int {i : Int} {n : Nat} {pos : Pos} : Ev W A env X h (.Constant (.int i) n pos) (.int i) := fun s Q E l f => wpAny_Constant_int (f _ _ (Gw.toks s _) (.int _ _))
theorem ev_bool {i : Bool} {n : Nat} {pos : Pos} : Ev W A env X h (.Constant (.bool i) n pos) (.bool i) := fun s Q E l f => Constant_bool (f _ _ (Gw.refl s) (.bool _))
theorem ev_none {n : Nat} {pos : Pos} : Ev W A env X h (.Constant .none n pos) .none := fun s Q E l f => Constant_none (f _ _ (Gw.refl s) .none)
theorem ev_str {i : Str} {n : Nat} {pos : Pos} : Ev W A env X h (.Constant (.str i) n pos) (.str i) := fun s Q E l f => Constant_str (f _ _ (Gw.toks s _) (.str _ _))

/-- two operands and an operation -/
theorem ev_bin {l r : Expr} {op : Operator} {pos : Pos} {a b d : V} (ha : Ev W A env Y h l a) (hb : Ev W A env Y h r b)
    (ho : ∀ (s : Shared) (u v : Value) (Q E : Value → Shared → Prop), Le h s.heap → Rd Y s.heap u a → Rd Y s.heap v b → (∀ v s', Gw s s' → Rd X s'.heap v d → Q v s') → wpAny (model W.prog W.w) A (binaryOp op u v) Q E s) :
    Ev W A env X h (.BinOp l op r pos) d := fun s Q E le f =>
  wpAny_BinOp (ha s _ _ le fun u s₁ k₁ r₁ => hb s₁ _ _ (le.trans k₁.le) fun v s₂ k₂ r₂ => ho s₂ u v _ _ (le.trans (k₁.le.trans k₂.le)) (r₁.le k₂.le) r₂ fun v' s₃ k₃ r₃ => f v' s₃ (k₁.trans (k₂.trans k₃)) r₃)
theorem ev_add {l r : Expr} {pos : Pos} {a b : Int} (ha : Ev W A env [] h l (.int a)) (hb : Ev W A env [] h r (.int b)) : Ev W A env X h (.BinOp l .Add r pos) (.int (a + b)) :=
  ev_bin ha hb fun s u v Q E _ ru rv f => by cases ru; cases rv; exact add_int (f _ _ (Gw.toks s _) (.int _ _))

theorem ev_cmp {l r : Expr} {op : CmpOp} {pos : Pos} {a b d : V} (ha : Ev W A env Y h l a) (hb : Ev W A env Y h r b)
    (ho : ∀ (s : Shared) (u v : Value) (Q E : Value → Shared → Prop), Le h s.heap → Rd Y s.heap u a → Rd Y s.heap v b → (∀ v s', Gw s s' → Rd X s'.heap v d → Q v s') → wpAny (model W.prog W.w) A (compareOp op u v) Q E s)
    (hm : behindInMarks op r = false := by with_unfolding_all rfl) :
    Ev W A env X h (.Compare l [op] [r] pos) d := fun s Q E le f =>
  wpAny_Compare1 (ha s _ _ le fun u s₁ k₁ r₁ => hb s₁ _ _ (le.trans k₁.le) fun v s₂ k₂ r₂ => ho s₂ u v _ _ (le.trans (k₁.le.trans k₂.le)) (r₁.le k₂.le) r₂ fun v' s₃ k₃ r₃ => f v' s₃ (k₁.trans (k₂.trans k₃)) r₃) hm
end
end Mine
namespace Mine
open PySem PySem.Calls PySem.Spec PyProof.Rows

/-- lists of the function's own that may turn: their name, address, items -/
abbrev Mu := List (Str × Addr × List V)
/-- what is known of the other names -/
abbrev Rho := List (Str × V)
def Mu.at (μ : Mu) : List Addr := μ.map (·.2.1)
def Mu.names (μ : Mu) : List Str := μ.map (·.1)

inductive Fl where
  | next
  | brk
  | cont
  | ret (d : V)
def FlIs (X : List Addr) (h : Heap) : Flow → Fl → Prop
  | .next, .next => True
  | .brk, .brk => True
  | .cont, .cont => True
  | .ret v, .ret d => Rd X h v d
  | _, _ => False

/-- the fixed things of a function's body -/
structure Bd where
  W : Wd
  k : Nat
  A : Around
  h₀ : Heap
  env : Env
  X₀ : List Addr
  s₀ : Shared

/-- a body's frame is well laid -/
structure Wf (B : Bd) : Prop where
  ek : B.env.scope.kind = .function
  eg : B.env.globals = mainGlobals
  eb : B.env.builtins = builtinsNs
  apart : B.env.cells.Pairwise fun x y => x.2 ≠ y.2
  cl : ∀ x c, (x, c) ∈ B.env.cells → c ≠ B.env.locals
  xs : ∀ a ∈ B.X₀, ∃ o, B.h₀.get? a = some o

structure Sat (B : Bd) (Kp : Addr → Obj → Prop) (γ : List (Value × V)) (μ : Mu) (ρ : Rho) (s : Shared) : Prop where
  wf : Wf B
  cn : Cn B.W B.k B.A B.h₀ B.env.locals s.heap
  same : ∃ h tk, s = { B.s₀ with heap := h, toks := tk }
  h₀kp : ∀ a o, B.h₀.get? a = some o → Kp a o
  kp : ∀ a o, Kp a o → s.heap.get? a = some o ∧ a ≠ B.env.locals ∧ (∀ x, (x, a) ∉ B.env.cells) ∧ a ∉ μ.at
  cells : ∀ x c, (x, c) ∈ B.env.cells → ∃ v, s.heap.IsCell c v
  gam : ∀ q ∈ γ, Rd (μ.at ++ B.X₀) s.heap q.1 q.2
  vars : ∀ z d, ρ.lookup z = some d → ∃ v, Var B.env s.heap z v ∧ Rd (μ.at ++ B.X₀) s.heap v d
  muts : ∀ q ∈ μ, Var B.env s.heap q.1 (.ref q.2.1) ∧ q.2.1 ∉ B.X₀ ∧ ∃ vs n, s.heap.get? q.2.1 = some (lstO vs n) ∧ RdA (μ.at ++ B.X₀) s.heap vs q.2.2
  nd : μ.at.Nodup

theorem Sat.cx {B : Bd} {Kp γ μ ρ s} (x : Sat B Kp γ μ ρ s) : Cx B.W B.k B.A B.h₀ B.env.locals B.env (μ.at ++ B.X₀) s.heap := by
  refine ⟨x.cn, x.wf.ek, x.wf.eg, x.wf.eb, fun a ha => ?_⟩
  rcases List.mem_append.mp ha with h | h
  · obtain ⟨q, hq, rfl⟩ := List.mem_map.mp h
    obtain ⟨_, _, vs, n, e, _⟩ := x.muts q hq
    exact ⟨_, e⟩
  · obtain ⟨o, e⟩ := x.wf.xs a h
    exact ⟨o, x.cn.keep _ _ e⟩

theorem ns_unique {h : Heap} {a : Addr} {m m' : Str → Option Value} (x : h.Ns a m) (y : h.Ns a m') : m = m' := by
  obtain ⟨o, es, ep, e, hd, _, f⟩ := x
  obtain ⟨o', es', ep', e', hd', _, f'⟩ := y
  rw [e] at e'; cases e'
  rw [hd] at hd'; cases hd'
  funext z
  rw [← f, ← f']
theorem ns_notSq {h : Heap} {a : Addr} {m : Str → Option Value} (x : h.Ns a m) : ∀ o, h.get? a = some o → ¬ IsSq o := by
  obtain ⟨o, es, ep, e, hd, _⟩ := x
  rintro o' e' ⟨its, n, hd'⟩
  rw [e] at e'; cases e'
  rw [hd] at hd'; cases hd'
theorem cell_notSq {h : Heap} {a : Addr} {v : Option Value} (x : h.IsCell a v) : ∀ o, h.get? a = some o → ¬ IsSq o := by
  obtain ⟨o, e, hd⟩ := x
  rintro o' e' ⟨its, n, hd'⟩
  rw [e] at e'; cases e'
  rw [hd] at hd'; cases hd'

/-- an object apart from all that is known turns, others may come -/
theorem Sat.ext {B : Bd} {Kp γ μ ρ s} {h' : Heap} {tk : Nat} {a : Addr} (x : Sat B Kp γ μ ρ s) (hk : ∀ b o, b ≠ a → s.heap.get? b = some o → h'.get? b = some o) (ha : a ≠ B.env.locals) (hc : ∀ y, (y, a) ∉ B.env.cells)
    (hK : ∀ o, ¬ Kp a o) (hs : ∀ o, s.heap.get? a = some o → ¬ IsSq o) : Sat B Kp γ μ ρ { s with heap := h', toks := tk } := by
  have sq : ∀ b o, s.heap.get? b = some o → IsSq o → h'.get? b = some o := fun b o e q => hk b o (fun z => hs o (z ▸ e) q) e
  have mv : ∀ {X v d}, Rd X s.heap v d → Rd X h' v d := fun r => r.move fun b o e q hx => ⟨sq b o e q, hx⟩
  have mvA : ∀ {X v d}, RdA X s.heap v d → RdA X h' v d := fun r => r.move fun b o e q hx => ⟨sq b o e q, hx⟩
  have vr : ∀ {y v}, Var B.env s.heap y v → Var B.env h' y v := by
    rintro y v (⟨p, m, q, r⟩ | ⟨p, c, q, r⟩)
    · exact .inl ⟨p, m, q.at' fun o e => hk _ o (Ne.symm ha) e, r⟩
    · obtain ⟨o, e, hd⟩ := r
      exact .inr ⟨p, c, q, o, hk c o (fun z => hc y (z ▸ mem_of_lookup q)) e, hd⟩
  refine ⟨x.wf, ⟨x.cn.gr, x.cn.bel, x.cn.above, x.cn.hand, x.cn.room, x.cn.units, fun b o e => ?_, ?_⟩, ?_, x.h₀kp, fun b o e => ?_, fun y c hm => ?_, fun q hq => mv (x.gam q hq), fun z d hz => ?_, fun q hq => ?_, x.nd⟩
  · exact hk b o (fun z => hK o (z ▸ x.h₀kp b o e)) (x.cn.keep b o e)
  · obtain ⟨m, hm⟩ := x.cn.ns
    exact ⟨m, hm.at' fun o e => hk _ o (Ne.symm ha) e⟩
  · obtain ⟨h, t, e⟩ := x.same
    exact ⟨h', tk, by rw [e]⟩
  · have k := x.kp b o e
    exact ⟨hk b o (fun z => hK o (z ▸ e)) k.1, k.2⟩
  · obtain ⟨v, o, e, hd⟩ := x.cells y c hm
    exact ⟨v, o, hk c o (fun z => hc y (z ▸ hm)) e, hd⟩
  · obtain ⟨v, h1, h2⟩ := x.vars z d hz
    exact ⟨v, vr h1, mv h2⟩
  · obtain ⟨h1, h2, vs, n, h3, h4⟩ := x.muts q hq
    exact ⟨vr h1, h2, vs, n, sq _ _ h3 ⟨_, _, rfl⟩, mvA h4⟩

theorem Sat.le {B : Bd} {Kp γ μ ρ s} {h' : Heap} {tk : Nat} (x : Sat B Kp γ μ ρ s) (hk : Le s.heap h') : Sat B Kp γ μ ρ { s with heap := h', toks := tk } := by
  refine Sat.ext (a := s.heap.objs.size) x (fun b o _ e => hk b o e) ?_ ?_ ?_ ?_
  · obtain ⟨m, hm⟩ := x.cn.ns
    exact Nat.ne_of_gt hm.lt
  · intro y hm
    obtain ⟨v, hv⟩ := x.cells y _ hm
    exact Nat.lt_irrefl _ hv.lt
  · intro o e
    exact Nat.lt_irrefl _ (Heap.lt_size (x.kp _ _ e).1)
  · intro o e
    exact absurd (Heap.lt_size e) (Nat.lt_irrefl _)
theorem Sat.gw {B : Bd} {Kp γ μ ρ s s'} (x : Sat B Kp γ μ ρ s) (g : Gw s s') : Sat B Kp γ μ ρ s' := by
  obtain ⟨⟨h, t, rfl⟩, k⟩ := g
  exact x.le k

/-- a value in flight -/
theorem Sat.fly {B : Bd} {Kp γ μ ρ s} {v : Value} {d : V} (x : Sat B Kp γ μ ρ s) (r : Rd (μ.at ++ B.X₀) s.heap v d) : Sat B Kp ((v, d) :: γ) μ ρ s :=
  ⟨x.wf, x.cn, x.same, x.h₀kp, x.kp, x.cells, fun q hq => by
    rcases List.mem_cons.mp hq with rfl | hq
    · exact r
    · exact x.gam q hq, x.vars, x.muts, x.nd⟩
theorem Sat.land {B : Bd} {Kp γ γ' μ ρ s} (x : Sat B Kp γ μ ρ s) (hs : ∀ q ∈ γ', q ∈ γ) : Sat B Kp γ' μ ρ s :=
  ⟨x.wf, x.cn, x.same, x.h₀kp, x.kp, x.cells, fun q hq => x.gam q (hs q hq), x.vars, x.muts, x.nd⟩
/-- more is kept -/
theorem Sat.more {B : Bd} {Kp Kp' γ μ ρ s} (x : Sat B Kp γ μ ρ s) (h : ∀ a o, B.h₀.get? a = some o → Kp' a o) (hs : ∀ a o, Kp' a o → s.heap.get? a = some o ∧ a ≠ B.env.locals ∧ (∀ x, (x, a) ∉ B.env.cells) ∧ a ∉ μ.at) : Sat B Kp' γ μ ρ s :=
  ⟨x.wf, x.cn, x.same, h, hs, x.cells, x.gam, x.vars, x.muts, x.nd⟩
theorem Sat.less {B : Bd} {Kp Kp' γ μ ρ s} (x : Sat B Kp γ μ ρ s) (h : ∀ a o, B.h₀.get? a = some o → Kp' a o) (hs : ∀ a o, Kp' a o → Kp a o) : Sat B Kp' γ μ ρ s :=
  ⟨x.wf, x.cn, x.same, h, fun a o e => x.kp a o (hs a o e), x.cells, x.gam, x.vars, x.muts, x.nd⟩
theorem Sat.forget {B : Bd} {Kp γ μ ρ ρ' s} (x : Sat B Kp γ μ ρ s) (hs : ∀ z d, ρ'.lookup z = some d → ρ.lookup z = some d) : Sat B Kp γ μ ρ' s :=
  ⟨x.wf, x.cn, x.same, x.h₀kp, x.kp, x.cells, x.gam, fun z d hz => x.vars z d (hs z d hz), x.muts, x.nd⟩

/-- a store into a name -/
structure Stored (env : Env) (x : Str) (v : Value) (h h' : Heap) (a : Addr) : Prop where
  but : Heap.SameBut a h h'
  slot : a = env.locals ∨ ∃ y, (y, a) ∈ env.cells
  sq : ∀ o, h.get? a = some o → ¬ IsSq o
  here : Var env h' x v
  others : ∀ y u, y ≠ x → Var env h y u → Var env h' y u
  ns : ∃ m, h'.Ns env.locals m
  cells : ∀ y c, (y, c) ∈ env.cells → ∃ u, h'.IsCell c u

theorem store_any {M : Model} {A : Around} {env : Env} {s : Shared} {x : Str} {v : Value} {Q : Unit → Shared → Prop} {E : Value → Shared → Prop} (ek : env.scope.kind = .function) (ap : env.cells.Pairwise fun x y => x.2 ≠ y.2) (cl : ∀ x c, (x, c) ∈ env.cells → c ≠ env.locals)
    (hn : ∃ m, s.heap.Ns env.locals m) (hc : ∀ y c, (y, c) ∈ env.cells → ∃ u, s.heap.IsCell c u) (hx : env.kindOf x = some .local ∨ (env.kindOf x = some .cell ∧ (env.cells.lookup x).isSome = true))
    (h : ∀ h' tk a, Stored env x v s.heap h' a → Q () { s with heap := h', toks := tk }) : wpAny M A (storeName env x v) Q E s := by
  obtain ⟨m, hm⟩ := hn
  rcases hx with hl | ⟨hl, hcx⟩
  · refine wpAny_storeName_local hl hm (fun h' hn' hs' => h h' _ env.locals ⟨hs', .inl rfl, ns_notSq hm, .inl ⟨hl, _, hn', by simp⟩, ?_, ⟨_, hn'⟩, ?_⟩) (by rw [ek]; rfl)
    · rintro y u hy (⟨p, m', q, r⟩ | ⟨p, c, q, r⟩)
      · refine .inl ⟨p, _, hn', ?_⟩
        rw [ns_unique q hm] at r
        simp [hy, r]
      · exact .inr ⟨p, c, q, r.sameBut hs' (cl y c (mem_of_lookup q))⟩
    · intro y c hm'
      obtain ⟨u, hu⟩ := hc y c hm'
      exact ⟨u, hu.sameBut hs' (cl y c hm')⟩
  · obtain ⟨c, hcl⟩ := Option.isSome_iff_exists.mp hcx
    have hcm := mem_of_lookup hcl
    obtain ⟨v₀, hv₀⟩ := hc x c hcm
    refine wpAny_storeName_cell ek hl hcl hv₀ fun h' hc' hs' => h h' _ c ⟨hs', .inr ⟨x, hcm⟩, cell_notSq hv₀, .inr ⟨.inl hl, c, hcl, hc'⟩, ?_, ⟨m, hm.sameBut hs' (Ne.symm (cl x c hcm))⟩, ?_⟩
    · rintro y u hy (⟨p, m', q, r⟩ | ⟨p, c', q, r⟩)
      · exact .inl ⟨p, m', q.sameBut hs' (Ne.symm (cl x c hcm)), r⟩
      · refine .inr ⟨p, c', q, r.sameBut hs' fun z => hy (name_of_addr ap (mem_of_lookup q) (z ▸ hcm))⟩
    · intro y c' hm'
      by_cases e : c' = c
      · subst e; exact ⟨_, hc'⟩
      · obtain ⟨u, hu⟩ := hc y c' hm'
        exact ⟨u, hu.sameBut hs' e⟩

/-- what is known of the names when x is stored -/
theorem lookup_put {ρ : Rho} {x z : Str} {d e : V} (h : ((x, d) :: ρ).lookup z = some e) : (z = x ∧ e = d) ∨ (z ≠ x ∧ ρ.lookup z = some e) := by
  rw [List.lookup_cons] at h
  cases q : z == x with
  | true => rw [q] at h; cases h; exact .inl ⟨beq_iff_eq.mp q, rfl⟩
  | false => rw [q] at h; exact .inr ⟨fun z' => by rw [z'] at q; simp at q, h⟩

theorem Sat.stored {B : Bd} {Kp γ μ ρ s} {x : Str} {v : Value} {d : V} {h' : Heap} {tk : Nat} {a : Addr} (y : Sat B Kp γ μ ρ s) (st : Stored B.env x v s.heap h' a) (r : Rd (μ.at ++ B.X₀) s.heap v d) (hn : x ∉ μ.names) :
    Sat B Kp γ μ ((x, d) :: ρ) { s with heap := h', toks := tk } := by
  have sq : ∀ b o, s.heap.get? b = some o → IsSq o → h'.get? b = some o := fun b o e q => (st.but.2 b fun z => st.sq o (z ▸ e) q).trans e
  have mv : ∀ {v d}, Rd (μ.at ++ B.X₀) s.heap v d → Rd (μ.at ++ B.X₀) h' v d := fun r => r.move fun b o e q hx => ⟨sq b o e q, hx⟩
  have mvA : ∀ {v d}, RdA (μ.at ++ B.X₀) s.heap v d → RdA (μ.at ++ B.X₀) h' v d := fun r => r.move fun b o e q hx => ⟨sq b o e q, hx⟩
  have kpa : ∀ b o, Kp b o → b ≠ a := fun b o e z => by
    have k := y.kp b o e
    rcases st.slot with q | ⟨w, q⟩
    · exact k.2.1 (z.trans q)
    · exact k.2.2.1 w (z ▸ q)
  refine ⟨y.wf, ⟨y.cn.gr, y.cn.bel, y.cn.above, y.cn.hand, y.cn.room, y.cn.units, fun b o e => ?_, st.ns⟩, ?_, y.h₀kp, fun b o e => ?_, st.cells, fun q hq => mv (y.gam q hq), fun z e hz => ?_, fun q hq => ?_, y.nd⟩
  · exact (st.but.2 b (kpa b o (y.h₀kp b o e))).trans (y.cn.keep b o e)
  · obtain ⟨h, t, e⟩ := y.same
    exact ⟨h', tk, by rw [e]⟩
  · have k := y.kp b o e
    exact ⟨(st.but.2 b (kpa b o e)).trans k.1, k.2.1, k.2.2.1, k.2.2.2⟩
  · rcases lookup_put hz with ⟨rfl, rfl⟩ | ⟨h1, h2⟩
    · exact ⟨v, st.here, mv r⟩
    · obtain ⟨u, h3, h4⟩ := y.vars z e h2
      exact ⟨u, st.others _ _ h1 h3, mv h4⟩
  · obtain ⟨h3, h4, vs, n, h5, h6⟩ := y.muts q hq
    exact ⟨st.others _ _ (fun z => hn (List.mem_map.mpr ⟨q, hq, z⟩)) h3, h4, vs, n, sq _ _ h5 ⟨_, _, rfl⟩, mvA h6⟩

def Mu.off (μ : Mu) (x : Str) : Mu := μ.filter fun q => decide (q.1 ≠ x)
theorem Mu.mem_off {μ : Mu} {x : Str} {q : Str × Addr × List V} (h : q ∈ μ.off x) : q ∈ μ ∧ q.1 ≠ x := by
  obtain ⟨h1, h2⟩ := List.mem_filter.mp h
  exact ⟨h1, by simpa using h2⟩
theorem Mu.off_sub {μ : Mu} {x : Str} : ∀ a ∈ (μ.off x).at, a ∈ μ.at := fun a ha => by
  obtain ⟨q, hq, rfl⟩ := List.mem_map.mp ha
  exact List.mem_map.mpr ⟨q, (Mu.mem_off hq).1, rfl⟩
theorem Mu.off_nd {μ : Mu} {x : Str} (h : μ.at.Nodup) : (μ.off x).at.Nodup := by
  unfold Mu.at Mu.off at *
  exact List.Nodup.sublist (List.Sublist.map _ List.filter_sublist) h
theorem Mu.off_none {μ : Mu} {x : Str} (h : x ∉ μ.names) : μ.off x = μ := List.filter_eq_self.mpr fun q hq => by
  simp only [decide_eq_true_eq]
  exact fun z => h (List.mem_map.mpr ⟨q, hq, z⟩)

/-- a store of a list that is new: it may turn -/
theorem Sat.storedM {B : Bd} {Kp γ μ ρ s} {x : Str} {l : Addr} {vs : List Value} {n : Nat} {ds : List V} {h' : Heap} {tk : Nat} {a : Addr} (y : Sat B Kp γ μ ρ s) (st : Stored B.env x (.ref l) s.heap h' a) (r : RdA (μ.at ++ B.X₀) s.heap vs ds) (e : s.heap.get? l = some (lstO vs n))
    (hl0 : ∀ o, ¬ Kp l o) (hlx : l ∉ B.X₀) (hlm : l ∉ μ.at) (hγ : ∀ q ∈ γ, Rd (l :: (μ.at ++ B.X₀)) s.heap q.1 q.2) (hρx : ρ.lookup x = none) (hρ : ∀ z d, ρ.lookup z = some d → ∃ v, Var B.env s.heap z v ∧ Rd (l :: (μ.at ++ B.X₀)) s.heap v d) (hr : RdA (l :: (μ.at ++ B.X₀)) s.heap vs ds)
    (hμ : ∀ q ∈ μ, q.1 ≠ x → ∃ vs n, s.heap.get? q.2.1 = some (lstO vs n) ∧ RdA (l :: (μ.at ++ B.X₀)) s.heap vs q.2.2) :
    Sat B Kp γ ((x, l, ds) :: μ.off x) ρ { s with heap := h', toks := tk } := by
  have sq : ∀ b o, s.heap.get? b = some o → IsSq o → h'.get? b = some o := fun b o e q => (st.but.2 b fun z => st.sq o (z ▸ e) q).trans e
  have sb : ∀ a ∈ Mu.at ((x, l, ds) :: μ.off x) ++ B.X₀, a ∈ l :: (μ.at ++ B.X₀) := fun a ha => by
    rcases List.mem_append.mp ha with q | q
    · rcases List.mem_cons.mp q with q | q
      · exact q ▸ .head _
      · exact .tail _ (List.mem_append.mpr (.inl (Mu.off_sub a q)))
    · exact .tail _ (List.mem_append.mpr (.inr q))
  have mv : ∀ {v d}, Rd (l :: (μ.at ++ B.X₀)) s.heap v d → Rd (Mu.at ((x, l, ds) :: μ.off x) ++ B.X₀) h' v d := fun r => r.move fun b o e q hx => ⟨sq b o e q, fun z => hx (sb _ z)⟩
  have mvA : ∀ {v d}, RdA (l :: (μ.at ++ B.X₀)) s.heap v d → RdA (Mu.at ((x, l, ds) :: μ.off x) ++ B.X₀) h' v d := fun r => r.move fun b o e q hx => ⟨sq b o e q, fun z => hx (sb _ z)⟩
  have kpa : ∀ b o, Kp b o → b ≠ a := fun b o e z => by
    have k := y.kp b o e
    rcases st.slot with q | ⟨w, q⟩
    · exact k.2.1 (z.trans q)
    · exact k.2.2.1 w (z ▸ q)
  refine ⟨y.wf, ⟨y.cn.gr, y.cn.bel, y.cn.above, y.cn.hand, y.cn.room, y.cn.units, fun b o e => ?_, st.ns⟩, ?_, y.h₀kp, fun b o e => ?_, st.cells, fun q hq => mv (hγ q hq), fun z d hz => ?_, fun q hq => ?_, ?_⟩
  · exact (st.but.2 b (kpa b o (y.h₀kp b o e))).trans (y.cn.keep b o e)
  · obtain ⟨h, t, e⟩ := y.same
    exact ⟨h', tk, by rw [e]⟩
  · have k := y.kp b o e
    refine ⟨(st.but.2 b (kpa b o e)).trans k.1, k.2.1, k.2.2.1, fun z => ?_⟩
    rcases List.mem_cons.mp z with z | z
    · have z' : b = l := z
      exact hl0 o (z' ▸ e)
    · exact k.2.2.2 (Mu.off_sub _ z)
  · obtain ⟨u, h3, h4⟩ := hρ z d hz
    exact ⟨u, st.others _ _ (fun q => by rw [q, hρx] at hz; cases hz) h3, mv h4⟩
  · rcases List.mem_cons.mp hq with rfl | hq
    · exact ⟨st.here, hlx, vs, n, sq _ _ e ⟨_, _, rfl⟩, mvA hr⟩
    · obtain ⟨h1, h2⟩ := Mu.mem_off hq
      obtain ⟨h3, h4, _⟩ := y.muts q h1
      obtain ⟨vs', n', h5, h6⟩ := hμ q h1 h2
      exact ⟨st.others _ _ h2 h3, h4, vs', n', sq _ _ h5 ⟨_, _, rfl⟩, mvA h6⟩
  · exact List.nodup_cons.mpr ⟨fun z => hlm (Mu.off_sub _ z), Mu.off_nd y.nd⟩
end Mine
namespace Mine
open PySem PySem.Calls PySem.Spec PyProof.Rows

/-- what a run of statements ends in -/
def Out (B : Bd) (Kp : Addr → Obj → Prop) (γ : List (Value × V)) (Post : Fl → Mu → Rho → Prop) (fl : Flow) (s' : Shared) : Prop :=
  ∃ fd μ' ρ', FlIs B.X₀ s'.heap fl fd ∧ Sat B Kp γ μ' ρ' s' ∧ Post fd μ' ρ'

def Tri (B : Bd) (μ : Mu) (ρ : Rho) (body : List Stmt) (Post : Fl → Mu → Rho → Prop) : Prop :=
  ∀ Kp γ s E, Sat B Kp γ μ ρ s → wpAny (model B.W.prog B.W.w) B.A (execs body B.env) (Out B Kp γ Post) E s
def Tr1 (B : Bd) (μ : Mu) (ρ : Rho) (st : Stmt) (Post : Fl → Mu → Rho → Prop) : Prop :=
  ∀ Kp γ s E, Sat B Kp γ μ ρ s → wpAny (model B.W.prog B.W.w) B.A (exec st B.env) (Out B Kp γ Post) E s

/-- an expression's value where the names are so known -/
def Es (B : Bd) (μ : Mu) (ρ : Rho) (X : List Addr) (e : Expr) (d : V) : Prop := ∀ Kp γ s, Sat B Kp γ μ ρ s → Ev B.W B.A B.env X s.heap e d
def Bs (B : Bd) (μ : Mu) (ρ : Rho) (e : Expr) (b : Bool) : Prop := ∀ Kp γ s, Sat B Kp γ μ ρ s → Bt B.W B.A B.env s.heap e b
/-- the value is a list that is new -/
def EvF (W : Wd) (A : Around) (env : Env) (X : List Addr) (h : Heap) (e : Expr) (ds : List V) : Prop :=
  ∀ (s : Shared) (Q E : Value → Shared → Prop), Le h s.heap → (∀ a vs n s', Gw s s' → s.heap.get? a = none → s'.heap.get? a = some (lstO vs n) → a ∉ X → RdA X s'.heap vs ds → RdA (a :: X) s'.heap vs ds → Q (.ref a) s') → wpAny (model W.prog W.w) A (eval e env) Q E s
def Ef (B : Bd) (μ : Mu) (ρ : Rho) (X : List Addr) (e : Expr) (ds : List V) : Prop := ∀ Kp γ s, Sat B Kp γ μ ρ s → EvF B.W B.A B.env X s.heap e ds
theorem EvF.ev {W A env X h e ds} (x : EvF W A env X h e ds) : Ev W A env X h e (.lst ds) := fun s Q E l f => x s Q E l fun a vs n s' g e1 e2 e3 r _ => f _ s' g (.lst e2 e3 r)
theorem Ef.es {B μ ρ X e ds} (x : Ef B μ ρ X e ds) : Es B μ ρ X e (.lst ds) := fun Kp γ s y => (x Kp γ s y).ev

section
variable {B : Bd} {μ : Mu} {ρ : Rho} {Post Post' : Fl → Mu → Rho → Prop}

theorem Tri.mono {body : List Stmt} (x : Tri B μ ρ body Post) (h : ∀ f m r, Post f m r → Post' f m r) : Tri B μ ρ body Post' := fun Kp γ s E y => wpAny_mono (x Kp γ s E y) (fun _ _ ⟨fd, m, r, a, b, c⟩ => ⟨fd, m, r, a, b, h _ _ _ c⟩) fun _ _ e => e
theorem Tr1.mono {st : Stmt} (x : Tr1 B μ ρ st Post) (h : ∀ f m r, Post f m r → Post' f m r) : Tr1 B μ ρ st Post' := fun Kp γ s E y => wpAny_mono (x Kp γ s E y) (fun _ _ ⟨fd, m, r, a, b, c⟩ => ⟨fd, m, r, a, b, h _ _ _ c⟩) fun _ _ e => e

theorem tri_nil (h : Post .next μ ρ) : Tri B μ ρ [] Post := fun Kp γ s E y => wpAny_execs_nil ⟨.next, μ, ρ, trivial, y, h⟩
theorem tri_cons {st : Stmt} {rest : List Stmt} (h : Tr1 B μ ρ st (fun f m r => match f with | .next => Tri B m r rest Post | f => Post f m r)) : Tri B μ ρ (st :: rest) Post := fun Kp γ s E y => by
  refine wpAny_execs_cons (wpAny_mono (h Kp γ s E y) (fun fl s' o => ?_) fun _ _ e => e)
  obtain ⟨fd, m, r, a, b, c⟩ := o
  cases fl <;> cases fd <;> first | exact a.elim | exact c Kp γ s' E b | exact ⟨_, m, r, a, b, c⟩

theorem tri_if {test : Expr} {body orelse : List Stmt} {pos : Pos} {b : Bool} (hb : Bs B μ ρ test b) (h : if b then Tri B μ ρ body Post else Tri B μ ρ orelse Post) : Tr1 B μ ρ (.If test body orelse pos) Post := fun Kp γ s E y => by
  refine wpAny_If (hb Kp γ s y s _ _ (Le.refl _) fun s' g => ?_)
  cases b with
  | true => exact h Kp γ s' E (y.gw g)
  | false => exact h Kp γ s' E (y.gw g)

theorem tri_ret {e : Expr} {pos : Pos} {d : V} (he : Es B μ ρ B.X₀ e d) (h : Post (.ret d) μ ρ) : Tr1 B μ ρ (.Return (some e) pos) Post := fun Kp γ s E y =>
  wpAny_Return_some (he Kp γ s y s _ _ (Le.refl _) fun v s' g r => ⟨.ret d, μ, ρ, r, y.gw g, h⟩)

theorem notin {l : List Str} {x : Str} (h : l.contains x = false) : x ∉ l := fun m => by
  rw [List.contains_iff_mem.mpr m] at h; cases h
theorem store_sat {Kp γ s} {x : Str} {v : Value} {Q : Unit → Shared → Prop} {E : Value → Shared → Prop} (y : Sat B Kp γ μ ρ s) (hx : B.env.kindOf x = some .local ∨ (B.env.kindOf x = some .cell ∧ (B.env.cells.lookup x).isSome = true))
    (h : ∀ h' tk a, Stored B.env x v s.heap h' a → Q () { s with heap := h', toks := tk }) : wpAny (model B.W.prog B.W.w) B.A (storeName B.env x v) Q E s :=
  store_any y.wf.ek y.wf.apart y.wf.cl y.cn.ns y.cells hx h

theorem tri_assign {x : Str} {p pos : Pos} {e : Expr} {d : V} (hx : B.env.kindOf x = some .local ∨ (B.env.kindOf x = some .cell ∧ (B.env.cells.lookup x).isSome = true)) (he : Es B μ ρ (μ.at ++ B.X₀) e d)
    (h : Post .next μ ((x, d) :: ρ)) (hn : μ.names.contains x = false := by rfl) (hs : swapsWith e (some (.Name x p)) pos.line B.env = pure false := by rfl) : Tr1 B μ ρ (.Assign [.Name x p] e pos) Post := fun Kp γ s E y =>
  wpAny_Assign_Name (he Kp γ s y s _ _ (Le.refl _) fun v s' g r => store_sat (y.gw g) hx fun h' tk a st => ⟨.next, _, _, trivial, (y.gw g).stored st r (notin hn), h⟩) hs

/-- a new list that may turn -/
theorem tri_assignN {x : Str} {p pos : Pos} {e : Expr} {ds : List V} (hx : B.env.kindOf x = some .local ∨ (B.env.kindOf x = some .cell ∧ (B.env.cells.lookup x).isSome = true)) (he : Ef B μ ρ (μ.at ++ B.X₀) e ds)
    (h : ∀ l, Post .next ((x, l, ds) :: μ.off x) ρ) (hρx : ρ.lookup x = none := by rfl) (hs : swapsWith e (some (.Name x p)) pos.line B.env = pure false := by rfl) : Tr1 B μ ρ (.Assign [.Name x p] e pos) Post := fun Kp γ s E y =>
  wpAny_Assign_Name (he Kp γ s y s _ _ (Le.refl _) fun l vs n s' g e0 e1 hl r r' => store_sat (y.gw g) hx fun h' tk a st => by
    have old : ∀ {b o}, s.heap.get? b = some o → b ≠ l := fun {b o} e z => by rw [z, e0] at e; cases e
    have mv : ∀ {v d}, Rd (μ.at ++ B.X₀) s.heap v d → Rd (l :: (μ.at ++ B.X₀)) s'.heap v d := fun r => r.move fun b o e _ hx => ⟨g.le b o e, fun z => (List.mem_cons.mp z).elim (old e) hx⟩
    have mvA : ∀ {v d}, RdA (μ.at ++ B.X₀) s.heap v d → RdA (l :: (μ.at ++ B.X₀)) s'.heap v d := fun r => r.move fun b o e _ hx => ⟨g.le b o e, fun z => (List.mem_cons.mp z).elim (old e) hx⟩
    refine ⟨.next, _, _, trivial, (y.gw g).storedM st r e1 ?_ ?_ ?_ ?_ hρx ?_ r' ?_, h l⟩
    · intro o ko
      exact old (y.kp l o ko).1 rfl
    · exact fun z => hl (List.mem_append.mpr (.inr z))
    · exact fun z => hl (List.mem_append.mpr (.inl z))
    · exact fun q hq => mv (y.gam q hq)
    · intro z d hz
      obtain ⟨v, h1, h2⟩ := y.vars z d hz
      exact ⟨v, h1.le g.le, mv h2⟩
    · intro q hq hne
      obtain ⟨_, _, vs', n', h5, h6⟩ := y.muts q hq
      exact ⟨vs', n', g.le _ _ h5, mvA h6⟩) hs

theorem tri_assignM {x : Str} {p pos : Pos} {e : Expr} {ds : List V} (hx : B.env.kindOf x = some .local ∨ (B.env.kindOf x = some .cell ∧ (B.env.cells.lookup x).isSome = true)) (he : Ef B μ ρ (μ.at ++ B.X₀) e ds)
    (h : ∀ l, Post .next ((x, l, ds) :: μ) ρ) (hρx : ρ.lookup x = none := by rfl) (hn : μ.names.contains x = false := by rfl) (hs : swapsWith e (some (.Name x p)) pos.line B.env = pure false := by rfl) : Tr1 B μ ρ (.Assign [.Name x p] e pos) Post :=
  tri_assignN hx he (fun l => by rw [Mu.off_none (notin hn)]; exact h l) hρx hs

/-- the rule of a for, whatever it goes over -/
theorem for_walk {Kp γ s} {x : Str} {px : Pos} {body : List Stmt} {I : Addr} {fp : List Addr} {n : Nat} {P : Nat → Value → Prop} {St : Nat → Heap → Prop} {it : Nat → V} (Inv : Nat → Mu → Rho → Prop) {R : Result → Shared → Prop}
    (y : Sat B Kp γ μ ρ s) (Wk : Walks B.W.prog B.W.w B.A I fp [I] n P St) (hst : St 0 s.heap) (hx : B.env.kindOf x = some .local ∨ (B.env.kindOf x = some .cell ∧ (B.env.cells.lookup x).isSome = true))
    (hI : I ≠ B.env.locals) (hIc : ∀ z, (z, I) ∉ B.env.cells) (hIK : ∀ o, ¬ Kp I o) (hIs : ∀ i h, St i h → ∃ o, h.get? I = some o ∧ ¬ IsSq o) (hfp : ∀ b ∈ fp, b = I ∨ ∃ o, Kp b o) (hIm : I ∉ μ.at)
    (hP : ∀ i v μ' ρ' s', i < n → P i v → Sat B Kp γ μ' ρ' s' → Rd (μ'.at ++ B.X₀) s'.heap v (it i)) (h0 : Inv 0 μ ρ) (hxm : ∀ i μ' ρ', Inv i μ' ρ' → μ'.names.contains x = false)
    (turn : ∀ i μ' ρ', i < n → Inv i μ' ρ' → Tri B μ' ((x, it i) :: ρ') body fun f m r => match f with
      | .next => Inv (i + 1) m r
      | .cont => Inv (i + 1) m r
      | .brk => Post .next m r
      | .ret d => Post (.ret d) m r)
    (done : ∀ m r, Inv n m r → Post .next m r) (hR : ∀ fl s', Out B Kp γ Post fl s' → R (.ok fl) s') :
    codeAny (model B.W.prog B.W.w) B.A (.forLoop (.Name x px) (.ref I) body [] B.env) R s := by
  refine codeAny_forLoop (fun k s' => ∃ i μ' ρ', i ≤ n ∧ k = n + 1 - i ∧ St i s'.heap ∧ Sat B Kp γ μ' ρ' s' ∧ I ∉ μ'.at ∧ Inv i μ' ρ') ?_ (n + 1) ⟨0, μ, ρ, Nat.zero_le _, rfl, hst, y, hIm, h0⟩
  rintro k s' ⟨i, μ', ρ', hi, rfl, st, y', hm, hinv⟩
  obtain ⟨oI, hoI, hnI⟩ := hIs _ _ st
  have nsq : ∀ o, s'.heap.get? I = some o → ¬ IsSq o := fun o e => by rw [hoI] at e; cases e; exact hnI
  by_cases hlt : i < n
  · refine Wk.item i _ _ _ hlt st fun v h₁ tk₁ hPv st₁ hk₁ => ?_
    have y₁ : Sat B Kp γ μ' ρ' { s' with heap := h₁, toks := tk₁ } := y'.ext (a := I) (fun b o hb e => hk₁ b o (by simpa using hb) e) hI hIc hIK nsq
    have rd := hP i v μ' ρ' _ hlt hPv y₁
    refine wpAny_assign_Name (store_sat y₁ hx fun h₂ tk₂ a sd => ?_)
    have y₂ := y₁.stored (tk := tk₂) sd rd (notin (hxm _ _ _ hinv))
    have aI : I ≠ a := by
      rintro rfl
      rcases sd.slot with q | ⟨z, q⟩
      · exact hI q
      · exact hIc z q
    have st₂ : St (i + 1) h₂ := Wk.frame _ _ _ st₁ fun b hb o e => by
      rcases hfp b hb with rfl | ⟨o', ho'⟩
      · exact (sd.but.2 _ aI).trans e
      · have k1 := (y₁.kp b o' ho').1
        have k2 := (y₂.kp b o' ho').1
        have e' : ({ s' with heap := h₁, toks := tk₁ } : Shared).heap.get? b = some o := e
        rw [k1] at e'; cases e'; exact k2
    obtain ⟨oJ, hoJ, hnJ⟩ := hIs _ _ st₂
    have y₃ : Sat B (fun a o => Kp a o ∨ (a = I ∧ o = oJ)) γ μ' ((x, it i) :: ρ') { s' with heap := h₂, toks := tk₂ } := y₂.more (fun a o e => .inl (y₂.h₀kp a o e)) (by
      rintro a o (e | ⟨rfl, rfl⟩)
      · exact y₂.kp a o e
      · exact ⟨hoJ, hI, hIc, hm⟩)
    refine wpAny_mono (turn i μ' ρ' hlt hinv _ γ _ _ y₃) (fun fl s₃ o => ?_) fun _ _ e => e
    obtain ⟨fd, m, r, fi, y₄, po⟩ := o
    have hIm4 : I ∉ m.at := (y₄.kp I oJ (.inr ⟨rfl, rfl⟩)).2.2.2
    have y₅ : Sat B Kp γ m r s₃ := y₄.less y.h₀kp fun a o e => .inl e
    have st₃ : St (i + 1) s₃.heap := Wk.frame _ _ _ st₂ fun b hb o e => by
      rcases hfp b hb with rfl | ⟨o', ho'⟩
      · rw [hoJ] at e; cases e
        exact (y₄.kp _ _ (.inr ⟨rfl, rfl⟩)).1
      · have k1 := (y₂.kp b o' ho').1
        have e' : ({ s' with heap := h₂, toks := tk₂ } : Shared).heap.get? b = some o := e
        rw [k1] at e'; cases e'; exact (y₄.kp _ _ (.inl ho')).1
    cases fl <;> cases fd <;> first
      | exact fi.elim
      | exact ⟨n + 1 - (i + 1), by omega, i + 1, m, r, hlt, rfl, st₃, y₅, hIm4, po⟩
      | exact hR _ _ ⟨.next, m, r, trivial, y₅, po⟩
      | exact hR _ _ ⟨_, m, r, fi, y₅, po⟩
  · obtain rfl : i = n := by omega
    refine Wk.done _ _ _ st fun h₁ tk₁ hk₁ => wpAny_execs_nil ?_
    exact hR _ _ ⟨.next, μ', ρ', trivial, y'.ext (a := I) (fun b o hb e => hk₁ b o (by simpa using hb) e) hI hIc hIK nsq, done _ _ hinv⟩
end
end Mine
namespace Mine
open PySem PySem.Calls PySem.Spec PyProof.Rows

/-- an expression whose value is known to the sign (a def, a built-in) -/
def EvV (W : Wd) (A : Around) (env : Env) (h : Heap) (e : Expr) (v : Value) : Prop :=
  ∀ (s : Shared) (Q E : Value → Shared → Prop), Le h s.heap → (∀ s', Gw s s' → Q v s') → wpAny (model W.prog W.w) A (eval e env) Q E s
section
variable {W : Wd} {k : Nat} {A : Around} {h₀ : Heap} {L : Addr} {env : Env} {X Y : List Addr} {h : Heap}
theorem evv_glob {x : Str} {pos : Pos} {v : Value} (c : Cx W k A h₀ L env X h) (hv : W.mg x = some v) (hx : env.kindOf x = some .globalImplicit := by rfl) (hd : (x == ("__debug__" : Str)) = false := by decide) : EvV W A env h (.Name x pos) v := fun s Q E l f =>
  Name_function_global c.ek hx (loadGlobal_global (by rw [c.eg]; exact c.cn.here.g.keeps l) hv (f s (Gw.refl s))) hd
theorem evv_built {x : Str} {pos : Pos} {v : Value} (c : Cx W k A h₀ L env X h) (hg : W.mg x = none) (hv : W.mb x = some v) (hx : env.kindOf x = some .globalImplicit := by rfl) (hd : (x == ("__debug__" : Str)) = false := by decide) : EvV W A env h (.Name x pos) v := fun s Q E l f =>
  Name_function_global c.ek hx (loadGlobal_builtin (by rw [c.eg]; exact c.cn.here.g.keeps l) hg (by rw [c.eb]; exact c.cn.here.b.keeps l) hv (f s (Gw.refl s))) hd

/-- arguments, displays: each item's value -/
def EvA (W : Wd) (A : Around) (env : Env) (X : List Addr) (h : Heap) (pos : Pos) (es : List Expr) (ds : List V) : Prop :=
  ∀ (s : Shared) (Q : List Value → Shared → Prop) (E : Value → Shared → Prop), Le h s.heap → (∀ vs s', Gw s s' → RdA X s'.heap vs ds → Q vs s') → wpAny (model W.prog W.w) A (spliced (backTo pos (starEach es env))) Q E s
theorem eva_nil {pos : Pos} : EvA W A env X h pos [] [] := fun s Q E l f => args_nil (f [] s (Gw.refl s) .nil)
theorem eva_cons {pos : Pos} {e : Expr} {es : List Expr} {d : V} {ds : List V} (he : Ev W A env X h e d) (hr : EvA W A env X h pos es ds) (hs : starEach (e :: es) env = (false, eval e env) :: starEach es env := by rfl) : EvA W A env X h pos (e :: es) (d :: ds) := fun s Q E l f =>
  args_cons (he s _ _ l fun v s₁ g₁ r₁ => hr s₁ _ _ (l.trans g₁.le) fun vs s₂ g₂ r₂ => f _ s₂ (g₁.trans g₂) (.cons (r₁.le g₂.le) r₂)) hs

theorem ev_tup {pos : Pos} {es : List Expr} {ds : List V} {n : Nat} (c : Cx W k A h₀ L env X h) (he : EvA W A env X h pos es ds) (hz : ds.length ≤ sizeLine := by exact Nat.le_of_ble_eq_true rfl) : Ev W A env X h (.Tuple es n pos) (.tup ds) := fun s Q E l f =>
  Tuple_ (he s _ _ l fun vs s₁ g₁ r₁ => wpAny_newObj_type (f _ _ (g₁.trans (Gw.push s₁ _)) (.tup (n := 0) (Heap.get?_push_size _ rfl) (c.fresh (l.trans g₁.le)) (r₁.le (Le.push _)))) (by show vs.toArray.size ≤ sizeLine; rw [List.size_toArray, r₁.length]; exact hz))
theorem evf_list {pos : Pos} {es : List Expr} {ds : List V} (c : Cx W k A h₀ L env X h) (he : EvA W A env X h pos es ds) (hz : ds.length ≤ sizeLine := by exact Nat.le_of_ble_eq_true rfl) : EvF W A env X h (.List es pos) ds := fun s Q E l f =>
  List_ (he s _ _ l fun vs s₁ g₁ r₁ => wpAny_newObj_type (f _ vs 0 _ (g₁.trans (Gw.push s₁ _)) (by
      cases e : s.heap.get? s₁.heap.objs.size with
      | none => rfl
      | some o => exact absurd (Heap.lt_size (g₁.le _ _ e)) (Nat.lt_irrefl _)) (Heap.get?_push_size _ rfl) (c.fresh (l.trans g₁.le)) (r₁.le (Le.push _)) (r₁.move fun a o e _ hx => ⟨Le.push _ _ _ e, fun z => (List.mem_cons.mp z).elim (fun q => absurd (Heap.lt_size e) (q ▸ Nat.lt_irrefl _)) hx⟩)) (by show vs.toArray.size ≤ sizeLine; rw [List.size_toArray, r₁.length]; exact hz))
end

section
variable {B : Bd} {μ : Mu} {ρ : Rho} {Post Post' : Fl → Mu → Rho → Prop}
theorem new_apart {Kp γ s} (y : Sat B Kp γ μ ρ s) {I : Addr} (hI : s.heap.get? I = none) : I ≠ B.env.locals ∧ (∀ z, (z, I) ∉ B.env.cells) ∧ (∀ o, ¬ Kp I o) ∧ I ∉ μ.at := by
  refine ⟨?_, ?_, ?_, ?_⟩
  · rintro rfl
    obtain ⟨m, o, _, _, e, _⟩ := y.cn.ns
    rw [hI] at e; cases e
  · intro z hz
    obtain ⟨v, o, e, _⟩ := y.cells z I hz
    rw [hI] at e; cases e
  · intro o ko
    have := (y.kp I o ko).1
    rw [hI] at this; cases this
  · intro hm
    obtain ⟨q, hq, rfl⟩ := List.mem_map.mp hm
    obtain ⟨_, _, vs, n, e, _⟩ := y.muts q hq
    rw [hI] at e; cases e
theorem size_none (h : Heap) : h.get? h.objs.size = none := by
  cases e : h.get? h.objs.size with
  | none => rfl
  | some o => exact absurd (Heap.lt_size e) (Nat.lt_irrefl _)

theorem tri_forL {x : Str} {px pos : Pos} {iter : Expr} {body : List Stmt} {ds : List V} (Inv : Nat → Mu → Rho → Prop) (hx : B.env.kindOf x = some .local ∨ (B.env.kindOf x = some .cell ∧ (B.env.cells.lookup x).isSome = true))
    (he : Es B μ ρ (μ.at ++ B.X₀) iter (.lst ds)) (h0 : Inv 0 μ ρ) (hxm : ∀ i μ' ρ', Inv i μ' ρ' → μ'.names.contains x = false)
    (turn : ∀ i d μ' ρ', ds[i]? = some d → Inv i μ' ρ' → Tri B μ' ((x, d) :: ρ') body fun f m r => match f with
      | .next => Inv (i + 1) m r
      | .cont => Inv (i + 1) m r
      | .brk => Post .next m r
      | .ret d => Post (.ret d) m r)
    (done : ∀ m r, Inv ds.length m r → Post .next m r) (hs : ∀ x, foldedSetIterable iter B.env x = pure x := by intro _; rfl) : Tr1 B μ ρ (.For (.Name x px) iter body [] pos) Post := fun Kp γ s E y => by
  refine wpAny_For (he Kp γ s y s _ _ (Le.refl _) fun v s₁ g₁ r₁ => ?_) hs
  have y₁ := y.gw g₁
  cases r₁ with
  | @lst a vs n _ ea hax ra =>
  have hl : s₁.heap.IsList a vs.toArray := ⟨_, ea, rfl, n, rfl⟩
  refine wpAny_pyIter_list hl ?_
  have y₂ : Sat B Kp γ μ ρ { s₁ with heap := s₁.heap.push { cls := .type "list_iterator", data := .fields #[.ref a, .int 0 0] } } := y₁.le (tk := s₁.toks) (Le.push _)
  have hne : a ≠ s₁.heap.objs.size := Nat.ne_of_lt (Heap.lt_size ea)
  have ap := new_apart y₁ (size_none s₁.heap)
  have kpa : a ≠ B.env.locals ∧ (∀ z, (z, a) ∉ B.env.cells) ∧ a ∉ μ.at := by
    refine ⟨?_, ?_, fun z => hax (List.mem_append.mpr (.inl z))⟩
    · rintro rfl
      obtain ⟨m, hm⟩ := y₁.cn.ns
      exact ns_notSq hm _ ea ⟨_, _, rfl⟩
    · intro z hz
      obtain ⟨v, hv⟩ := y₁.cells z a hz
      exact cell_notSq hv _ ea ⟨_, _, rfl⟩
  have y₃ : Sat B (fun b o => Kp b o ∨ (b = a ∧ o = lstO vs n)) ((.ref a, .lst ds) :: γ) μ ρ { s₁ with heap := s₁.heap.push { cls := .type "list_iterator", data := .fields #[.ref a, .int 0 0] } } :=
    (y₂.fly (v := .ref a) (d := .lst ds) (.lst (Heap.get?_push_of_some _ ea) hax (ra.le (Le.push _)))).more (fun b o e => .inl (y₂.h₀kp b o e)) (by
      rintro b o (e | ⟨rfl, rfl⟩)
      · exact y₂.kp b o e
      · exact ⟨Heap.get?_push_of_some _ ea, kpa.1, kpa.2.1, kpa.2.2⟩)
  have hlen : vs.toArray.size = ds.length := by rw [List.size_toArray, ra.length]
  have Wk := Walks.list (prog := B.W.prog) (w := B.W.w) (A := B.A) y.cn.hand s₁.heap.objs.size a hne vs.toArray
  rw [hlen] at Wk
  refine for_walk (it := fun i => ds.getD i .none) Inv y₃ Wk ⟨⟨_, Heap.get?_push_size _ rfl, rfl, rfl⟩, ⟨_, Heap.get?_push_of_some _ ea, rfl, n, rfl⟩⟩ hx ap.1 ap.2.1 ?_ ?_ ?_ ap.2.2.2 ?_ h0 hxm ?_ done ?_
  · rintro o (ko | ⟨z, _⟩)
    · exact ap.2.2.1 o ko
    · exact hne z.symm
  · rintro i h ⟨⟨o, e, hc, hd⟩, _⟩
    refine ⟨o, e, ?_⟩
    rintro ⟨its, n', q⟩
    rw [hd] at q; cases q
  · intro b hb
    rcases List.mem_cons.mp hb with rfl | hb
    · exact .inl rfl
    · rw [List.mem_singleton.mp hb]; exact .inr ⟨_, .inr ⟨rfl, rfl⟩⟩
  · intro i v μ' ρ' s' hi hv y'
    have r := y'.gam _ (.head _)
    cases r with
    | @lst _ vs' n' _ ea' _ ra' =>
    have k := (y'.kp a _ (.inr ⟨rfl, rfl⟩)).1
    rw [ea'] at k
    have e2 : vs'.toArray = vs.toArray := by injection k with k; injection k with _ _ k; injection k
    have e3 : vs' = vs := by simpa using e2
    subst e3
    obtain ⟨d, hd, rd⟩ := ra'.getV (show vs'[i]? = some v by simpa using hv)
    have : ds.getD i .none = d := by rw [List.getD_eq_getElem?_getD, hd]; rfl
    rw [this]; exact rd
  · intro i μ' ρ' hi hinv
    have : ds[i]? = some (ds.getD i .none) := by rw [List.getD_eq_getElem?_getD, List.getElem?_eq_getElem hi]; rfl
    exact turn i _ μ' ρ' this hinv
  · rintro fl s' ⟨fd, m, r, a1, a2, a3⟩
    exact ⟨fd, m, r, a1, (a2.less y.h₀kp fun b o e => .inl e).land fun q hq => .tail _ hq, a3⟩

theorem evr {e : Expr} {x : Str} {p pos : Pos} {N : Int} {h : Heap} {X : List Addr} {K : Value → Shared → Prop} {E : Value → Shared → Prop} {s : Shared} {W : Wd} {A : Around} {env : Env} (hv : EvV W A env h (.Name x p) (.type "range")) (he : Ev W A env X h e (.int N)) (l : Le h s.heap) (hlo : -(2 ^ 62) ≤ N) (hhi : N < 2 ^ 62)
    (f : ∀ I s', Gw s s' → s.heap.get? I = none → IsRangeIter s'.heap I 0 (N.toNat : Int) 1 → K (.ref I) s') (hse : starEach [e] env = [(false, eval e env)] := by rfl) :
    wpAny (model W.prog W.w) A (eval (.Call (.Name x p) [e] [] pos) env) (fun xv s₁ => wpAny (model W.prog W.w) A (pyIter xv) K E s₁) E s := by
  refine Call_ (hv s _ _ l fun s₁ g₁ => ?_) rfl
  rw [hse]
  refine PySem.callWith_type rfl (Calls.evalArgs_plain (Calls.spliced_cons (he s₁ _ _ (l.trans g₁.le) fun nv s₂ g₂ r₂ => Calls.spliced_nil ?_)))
  cases r₂
  refine call_range_1 ?_
  refine wpAny_pyIter_range (IsRange.new ..) (small_one (by decide) (by decide) hlo hhi) ?_
  have hsz : Builtin.Range.rangeSize 0 N 1 = (N.toNat : Int) := by rw [rangeSize_one]; split <;> omega
  rw [hsz]
  refine f _ _ (g₁.trans (g₂.trans ⟨⟨_, _, rfl⟩, (Le.push _).trans (Le.push _)⟩)) ?_ (Heap.get?_push_size _ rfl)
  cases q : s.heap.get? (s₂.heap.push { cls := .type "range", data := .fields #[.int 0 s₂.toks, .int N _, .int 1 (s₂.toks + 1)] }).objs.size with
  | none => rfl
  | some o => exact absurd (Heap.lt_size (Le.push _ _ _ (g₂.le _ _ (g₁.le _ _ q)))) (Nat.lt_irrefl _)

theorem tri_forR {x rg : Str} {px pr pp pos : Pos} {e : Expr} {body : List Stmt} {N : Int} {X : List Addr} (Inv : Nat → Mu → Rho → Prop) (hx : B.env.kindOf x = some .local ∨ (B.env.kindOf x = some .cell ∧ (B.env.cells.lookup x).isSome = true))
    (hr : ∀ Kp γ s, Sat B Kp γ μ ρ s → EvV B.W B.A B.env s.heap (.Name rg pr) (.type "range")) (he : Es B μ ρ X e (.int N)) (hlo : -(2 ^ 62) ≤ N) (hhi : N < 2 ^ 62) (h0 : Inv 0 μ ρ) (hxm : ∀ i μ' ρ', Inv i μ' ρ' → μ'.names.contains x = false)
    (turn : ∀ i μ' ρ', i < N.toNat → Inv i μ' ρ' → Tri B μ' ((x, .int (i : Nat)) :: ρ') body fun f m r => match f with
      | .next => Inv (i + 1) m r
      | .cont => Inv (i + 1) m r
      | .brk => Post .next m r
      | .ret d => Post (.ret d) m r)
    (done : ∀ m r, Inv N.toNat m r → Post .next m r) (hse : starEach [e] B.env = [(false, eval e B.env)] := by rfl) (hs : ∀ x, foldedSetIterable (.Call (.Name rg pr) [e] [] pp) B.env x = pure x := by intro _; rfl) :
    Tr1 B μ ρ (.For (.Name x px) (.Call (.Name rg pr) [e] [] pp) body [] pos) Post := fun Kp γ s E y => by
  refine wpAny_For (evr (hr Kp γ s y) (he Kp γ s y) (Le.refl _) hlo hhi (fun I s₁ g₁ hn hI => ?_) hse) hs
  have y₁ := y.gw g₁
  have ap := new_apart y hn
  refine for_walk (it := fun i => .int (i : Nat)) Inv y₁ (Walks.range y.cn.hand I 0 1 N.toNat) (by simpa using hI) hx ap.1 ap.2.1 ap.2.2.1 ?_ ?_ ap.2.2.2 ?_ h0 hxm turn done (fun _ _ o => o)
  · intro i h st
    refine ⟨_, st, ?_⟩
    rintro ⟨its, n', q⟩
    cases q
  · intro b hb
    exact .inl (List.mem_singleton.mp hb)
  · rintro i v μ' ρ' s' hi ⟨t, rfl⟩ y'
    have : (0 + (i : Int) * 1) = (i : Int) := by omega
    rw [this]; exact .int _ _
end
end Mine
namespace Mine
open PySem PySem.Calls PySem.Spec PyProof.Rows

theorem bindL_off {kf : Str → Option NameKind} {x : Str} : ∀ (bs : List (Str × Value)) (m : Str → Option Value), x ∉ bs.map (·.1) → bindL kf bs m x = m x
  | [], m, _ => rfl
  | (n, v) :: r, m, h => by
    have hn : x ≠ n := fun e => h (e ▸ .head _)
    unfold bindL
    rw [bindL_off r _ fun q => h (.tail _ q)]
    split
    · simp [hn]
    · rfl
theorem bindC_off {kf : Str → Option NameKind} {x : Str} : ∀ (bs : List (Str × Value)) (m : Str → Option Value), x ∉ bs.map (·.1) → bindC kf bs m x = m x
  | [], m, _ => rfl
  | (n, v) :: r, m, h => by
    have hn : x ≠ n := fun e => h (e ▸ .head _)
    unfold bindC
    rw [bindC_off r _ fun q => h (.tail _ q)]
    split
    · rfl
    · simp [hn]
theorem bindL_mem {kf : Str → Option NameKind} {x : Str} {v : Value} (hk : kf x = some .local) : ∀ (bs : List (Str × Value)) (m : Str → Option Value), (bs.map (·.1)).Nodup → (x, v) ∈ bs → bindL kf bs m x = some v
  | (n, u) :: r, m, hd, hm => by
    obtain ⟨h1, h2⟩ := List.nodup_cons.mp hd
    unfold bindL
    rcases List.mem_cons.mp hm with e | hm
    · cases e
      rw [bindL_off r _ h1, if_pos hk]; simp
    · exact bindL_mem hk r _ h2 hm
theorem bindC_mem {kf : Str → Option NameKind} {x : Str} {v : Value} (hk : kf x ≠ some .local) : ∀ (bs : List (Str × Value)) (m : Str → Option Value), (bs.map (·.1)).Nodup → (x, v) ∈ bs → bindC kf bs m x = some v
  | (n, u) :: r, m, hd, hm => by
    obtain ⟨h1, h2⟩ := List.nodup_cons.mp hd
    unfold bindC
    rcases List.mem_cons.mp hm with e | hm
    · cases e
      rw [bindC_off r _ h1, if_neg hk]; simp
    · exact bindC_mem hk r _ h2 hm

theorem RdA.zip {X : List Addr} {h : Heap} : ∀ {vs : List Value} {ds : List V} {ps : List Str}, RdA X h vs ds → ∀ q ∈ ps.zip ds, ∃ v, (q.1, v) ∈ ps.zip vs ∧ Rd X h v q.2
  | _, _, [], _, q, hq => by simp at hq
  | _, _, p :: ps, .nil, q, hq => by simp at hq
  | _, _, p :: ps, .cons a r, q, hq => by
    rw [List.zip_cons_cons] at hq
    rcases List.mem_cons.mp hq with rfl | hq
    · exact ⟨_, .head _, a⟩
    · obtain ⟨v, h1, h2⟩ := RdA.zip r q hq
      exact ⟨v, .tail _ h1, h2⟩

/-- what a call of a def gives -/
def FnC (W : Wd) (k : Nat) (f : Addr) (args : List V) (d : V) : Prop :=
  ∀ (A : Around) (h₀ : Heap) (L : Addr) (X : List Addr) (s : Shared) (vs : List Value) (Q E : Value → Shared → Prop), Cn W k A h₀ L s.heap → (∀ a ∈ X, ∃ o, s.heap.get? a = some o) → RdA X s.heap vs args →
    (∀ v s', Gw s s' → Rd X s'.heap v d → Q v s') → wpAny (model W.prog W.w) A (call (.ref f) vs) Q E s

/-- the env in which a def's body runs -/
structure EnvIs (fd : FuncData) (f : Addr) (env : Env) : Prop where
  is : ∃ L, env = callEnvC fd L f

/-- a def's call, entered -/
theorem call_core {W : Wd} {k : Nat} {f : Addr} {fd : FuncData} {body : List Stmt} {ps : List Str} {args : List V} {A : Around} {base : Heap} {outer : List Env} {s : Shared} {X : List Addr} {vs : List Value} {R : Result → Shared → Prop} {o : Obj}
    (gr : Gr W s.heap) (hB1 : Below A base outer s.heap) (hhd : A.handled = none) (hrm : A.depth + (k + 1) < recursionLimit) (hun : A.units + 8 * (k + 1) + 100 < cLine)
    (ho : s.heap.get? f = some o) (hdat : o.data = .func fd) (hcd : s.heap.CodeRec fd.code fd.qualname) (hX : ∀ a ∈ X, ∃ o, s.heap.get? a = some o) (ra : RdA X s.heap vs args)
    (hbody : fd.body = .stmts body) (hclo : fd.closure = []) (hgl : fd.globals = mainGlobals) (hbl : fd.builtins = builtinsNs)
    (hbind : ∀ vs, vs.length = ps.length → bindArgs fd ⟨vs, []⟩ = pure (ps.zip vs)) (hps : ps.Nodup) (hlen : args.length = ps.length)
    (hkind : ∀ n, ∀ x ∈ ps, fd.scope.names.lookup x = some .local ∨ (fd.scope.names.lookup x = some .cell ∧ ((cellsFrom n fd.scope.names []).lookup x).isSome = true))
    (hnd : ((cellsFrom 0 fd.scope.names []).map (·.1)).Nodup) (hco : fd.scope.isCoroutine = false) (hgen : fd.scope.isGenerator = false) (hk : fd.scope.kind = .function)
    (h : ∀ (B : Bd) s₁, B.W = W → B.k = k → EnvIs fd f B.env → B.A = A.deeper B.env → B.h₀ = s.heap → B.X₀ = X → B.s₀ = s → Sat B (fun a o => s.heap.get? a = some o) [] [] (ps.zip args) s₁ →
      wpAny (model W.prog W.w) B.A (execs body B.env) (fun f s' => R (.ok (.ret (match f with | .ret v => v | _ => .none))) s')
        (fun e s' => wpAny (model W.prog W.w) B.A (leaving B.env e) (fun _ s'' => R (.error e) s'') (fun e' s'' => R (.error e') s'') s') s₁) :
    codeAny (model W.prog W.w) A (.call (.ref f) ⟨vs, []⟩) R s := by
  have hvl : vs.length = ps.length := by rw [ra.length, hlen]
  have hzn : (ps.zip vs).map (·.1) = ps := List.map_fst_zip (by omega)
  have hzm : ∀ x ∈ ps.zip vs, x.1 ∈ ps := fun x hx => hzn ▸ List.mem_map.mpr ⟨x, hx, rfl⟩
  refine codeAny_call_cells (by omega) ho hdat gr.lim hcd hbody (hbind vs hvl) hclo (fun x hx => hkind _ _ (hzm x hx)) (fun s₁ x => ?_) hco hgen hk
  generalize henv : callEnvC fd s.heap.objs.size f = env at x ⊢
  have hfe : env.frame = some env.locals := by rw [← henv]; rfl
  have hloc : env.locals = s.heap.objs.size := by rw [← henv]; rfl
  have hcells : env.cells = cellsFrom (s.heap.objs.size + 1) fd.scope.names [] := by rw [← henv]; rfl
  have hsc : env.scope = fd.scope := by rw [← henv]; rfl
  have memc : ∀ y c, (y, c) ∈ env.cells → env.cells.lookup y = some c := fun y c hy => by
    rw [hcells] at hy ⊢
    exact lookup_of_mem_nodup (cellsFrom_names fd.scope.names 0 (s.heap.objs.size + 1) [] [] rfl ▸ hnd) hy
  have hkeep := x.toInCall.keep
  obtain ⟨h₁, t₁, hs₁⟩ := x.toInCall.same
  let B : Bd := { W := W, k := k, A := A.deeper env, h₀ := s.heap, env := env, X₀ := X, s₀ := s }
  have sat : Sat B (fun a o => s.heap.get? a = some o) [] [] (ps.zip args) s₁ := by
    refine ⟨⟨?_, ?_, ?_, x.apart, fun y c hy => Nat.ne_of_gt (x.above y c hy), hX⟩, ⟨gr, ⟨A, base, outer, env, hB1, ?_, hfe, ?_⟩, ?_, hhd, ?_, ?_, hkeep, ⟨_, x.toInCall.ns⟩⟩, ⟨h₁, t₁, hs₁⟩, fun a o e => e, ?_, ?_, ?_, ?_, ?_, List.nodup_nil⟩
    · show env.scope.kind = _; rw [hsc]; exact hk
    · show env.globals = _; rw [← henv]; exact hgl
    · show env.builtins = _; rw [← henv]; exact hbl
    · exact Around.frames_deeper hB1.stack
    · show env.scope.kind = _; rw [hsc]; exact hk
    · show s.heap.objs.size ≤ env.locals; rw [hloc]; exact Nat.le_refl _
    · show (A.deeper env).depth + k < _; rw [show (A.deeper env).depth = A.depth + 1 from rfl]; omega
    · show (A.deeper env).units + 8 * k + 100 < _; rw [show (A.deeper env).units = A.units + 3 from rfl]; omega
    · intro a o e
      refine ⟨hkeep a o e, ?_, ?_, ?_⟩
      · show a ≠ env.locals; rw [hloc]; exact Nat.ne_of_lt (Heap.lt_size e)
      · intro z hz
        have h1 := x.above z a hz
        rw [hloc] at h1
        exact absurd (Heap.lt_size e) (Nat.not_lt.mpr (Nat.le_of_lt h1))
      · exact fun z => (nomatch z)
    · intro y c hy
      exact ⟨_, x.cell y c (memc y c hy)⟩
    · exact fun q hq => (nomatch hq)
    · intro z e hz
      have hq : (z, e) ∈ ps.zip args := mem_of_lookup hz
      generalize hqq : (z, e) = q at hq
      obtain ⟨v, h1, h2⟩ := ra.zip q hq
      have hqp : q.1 ∈ ps := (List.of_mem_zip hq).1
      have hko : ∀ z, env.kindOf z = fd.scope.names.lookup z := fun z => by unfold Env.kindOf; rw [hsc]
      have hnz : ((ps.zip vs).map (·.1)).Nodup := by rw [hzn]; exact hps
      have hz1 : z = q.1 := by rw [← hqq]
      have hz2 : e = q.2 := by rw [← hqq]
      rw [hz1, hz2]
      refine ⟨v, ?_, h2.le hkeep⟩
      rcases hkind (s.heap.objs.size + 1) q.1 hqp with hl | ⟨hl, hc⟩
      · refine .inl ⟨by rw [hko]; exact hl, _, x.toInCall.ns, bindL_mem (by rw [hko]; exact hl) _ _ hnz h1⟩
      · obtain ⟨c, hc⟩ := Option.isSome_iff_exists.mp hc
        have hlc : env.cells.lookup q.1 = some c := by rw [hcells]; exact hc
        have hne : env.kindOf q.1 ≠ some .local := by rw [hko, hl]; decide
        refine .inr ⟨.inl (by rw [hko]; exact hl), c, hlc, ?_⟩
        have := x.cell q.1 c hlc
        rw [bindC_mem hne _ _ hnz h1] at this
        exact this
    · exact fun q hq => (nomatch hq)
  exact h B s₁ rfl rfl ⟨_, henv.symm⟩ rfl rfl rfl rfl sat

theorem fnc_of {W : Wd} {k : Nat} {f : Addr} {fd : FuncData} {body : List Stmt} {ps : List Str} {args : List V} {d : V} (hd : W.defs f fd) (hbody : fd.body = .stmts body) (hclo : fd.closure = []) (hgl : fd.globals = mainGlobals) (hbl : fd.builtins = builtinsNs)
    (hbind : ∀ vs, vs.length = ps.length → bindArgs fd ⟨vs, []⟩ = pure (ps.zip vs)) (hps : ps.Nodup) (hlen : args.length = ps.length)
    (hkind : ∀ n, ∀ x ∈ ps, fd.scope.names.lookup x = some .local ∨ (fd.scope.names.lookup x = some .cell ∧ ((cellsFrom n fd.scope.names []).lookup x).isSome = true))
    (hnd : ((cellsFrom 0 fd.scope.names []).map (·.1)).Nodup) (hco : fd.scope.isCoroutine = false) (hgen : fd.scope.isGenerator = false) (hk : fd.scope.kind = .function)
    (h : ∀ B : Bd, B.W = W → B.k = k → EnvIs fd f B.env → Tri B [] (ps.zip args) body fun fl _ _ => fl = .ret d ∨ (fl = .next ∧ d = .none)) : FnC W (k + 1) f args d := by
  intro A h₀ L X s vs Q E cn hX ra hQ
  have gr := cn.here
  obtain ⟨o, ho, hdat, hcd⟩ := gr.defs f fd hd
  obtain ⟨A₀, base, outer, fenv, bl, hfr, hfL, hfk⟩ := cn.bel
  obtain ⟨m, hm⟩ := cn.ns
  have F : Fr h₀ L s.heap m := ⟨hm, cn.keep, cn.above⟩
  have hB1 : Below A base (fenv :: outer) s.heap := by
    have hnew : base.get? L = none := by
      cases hq : base.get? L with
      | none => rfl
      | some o => exact absurd (Nat.lt_of_lt_of_le (Heap.lt_size (bl.stays L o hq)) F.above) (Nat.lt_irrefl _)
    exact ⟨hfr, fun b o e => F.keep b o (bl.stays b o e), .cons (by rw [hfk]; decide) hfL F.ns hnew (bl.frames.of_keeps fun b o e _ => ⟨o, F.keep b o e, rfl⟩)⟩
  refine wpAny_call (call_core gr hB1 cn.hand cn.room cn.units ho hdat hcd hX ra hbody hclo hgl hbl hbind hps hlen hkind hnd hco hgen hk ?_)
  rintro B s₁ rfl rfl he hA hh₀ rfl hs₀ sat
  refine wpAny_mono (h B rfl rfl he _ _ s₁ _ sat) (fun fl s' ou => ?_) fun _ _ e => e
  obtain ⟨fd', μ', ρ', fi, y, po⟩ := ou
  have gw : Gw s s' := ⟨hs₀ ▸ y.same, fun a o e => (y.kp a o e).1⟩
  rcases po with rfl | ⟨rfl, rfl⟩
  · cases fl <;> first | exact fi.elim | exact hQ _ s' gw fi
  · cases fl <;> first | exact fi.elim | exact hQ _ s' gw .none

section
variable {W : Wd} {k : Nat} {A : Around} {h₀ : Heap} {L : Addr} {env : Env} {X Y : List Addr} {h : Heap}
/-- a call of a def -/
theorem ev_call {fn : Expr} {es : List Expr} {e : Expr} {pos : Pos} {f : Addr} {fd : FuncData} {ds : List V} {d : V} (c : Cx W k A h₀ L env X h) (hf : EvV W A env h fn (.ref f)) (ha : EvA W A env X h pos (e :: es) ds) (hd : W.defs f fd) (hc : FnC W k f ds d)
    (hs : starEach (e :: es) env = (false, eval e env) :: starEach es env := by rfl)
    (he : eval (.Call fn (e :: es) [] pos) env = (do callWith pos (← eval fn env) [] (backTo pos (starEach (e :: es) env)) (backToKw pos (keywordEach [] env))) := by rfl) : Ev W A env X h (.Call fn (e :: es) [] pos) d := fun s Q E l g => by
  obtain ⟨o, ho, hdat, hcd⟩ := c.cn.here.defs f fd hd
  refine Call_ (hf s _ _ l fun s₁ g₁ => callWith_def hdat (ha s₁ _ _ (l.trans g₁.le) fun vs s₂ g₂ r₂ => ?_) hs) he
  have l₂ : Le h s₂.heap := l.trans (g₁.le.trans g₂.le)
  exact ⟨l₂ _ _ ho, hc A h₀ L X s₂ vs Q E (c.cn.le l₂) (c.le l₂).xs r₂ fun v s' g₃ r => g v s' (g₁.trans (g₂.trans g₃)) r⟩
end
end Mine
namespace Mine
open PySem PySem.Calls PySem.Spec PyProof.Rows

section
variable {W : Wd} {k : Nat} {A : Around} {h₀ : Heap} {L : Addr} {env : Env} {X Y : List Addr} {h : Heap}

theorem ev_sub {l r : Expr} {pos : Pos} {a b : Int} (ha : Ev W A env [] h l (.int a)) (hb : Ev W A env [] h r (.int b)) : Ev W A env X h (.BinOp l .Sub r pos) (.int (a - b)) :=
  ev_bin ha hb fun s u v Q E _ ru rv f => by cases ru; cases rv; exact PySem.P.sub_int (f _ _ (Gw.toks s _) (.int _ _))
theorem ev_mulL {l r : Expr} {pos : Pos} {a b : Int} (ha : Ev W A env [] h l (.int a)) (hb : Ev W A env [] h r (.int b)) (h1 : -(2 ^ 64) < a := by decide) (h2 : a < 2 ^ 64 := by decide) : Ev W A env X h (.BinOp l .Mult r pos) (.int (a * b)) :=
  ev_bin ha hb fun s u v Q E _ ru rv f => by cases ru; cases rv; exact PySem.P.mul_int (f _ _ (Gw.toks s _) (.int _ _)) (IntMulOk.of_left (intBits_le_64 h1 h2))
theorem ev_mod {l r : Expr} {pos : Pos} {a b : Int} (ha : Ev W A env [] h l (.int a)) (hb : Ev W A env [] h r (.int b)) (h0 : 0 < b := by decide) : Ev W A env X h (.BinOp l .Mod r pos) (.int (a % b)) :=
  ev_bin ha hb fun s u v Q E _ ru rv f => by cases ru; cases rv; exact PyProof.Rows.mod_int' (by omega) (f _ _ (Gw.toks s _) (by rw [Int.fmod_eq_emod_of_nonneg a (by omega)]; exact .int _ _))
theorem ev_div {l r : Expr} {pos : Pos} {a b : Int} (ha : Ev W A env [] h l (.int a)) (hb : Ev W A env [] h r (.int b)) (h0 : 0 < b := by decide) (h1 : b.natAbs < 1073741824 := by decide) : Ev W A env X h (.BinOp l .FloorDiv r pos) (.int (a / b)) :=
  ev_bin ha hb fun s u v Q E _ ru rv f => by cases ru; cases rv; exact PyProof.Rows.floordiv_int (by omega) (f _ _ (Gw.toks s _) (by rw [Int.fdiv_eq_ediv_of_nonneg a (by omega)]; exact .int _ _)) (.inl (PyProof.noPylong_small h1))
theorem ev_neg {e : Expr} {pos : Pos} {a : Int} (ha : Ev W A env [] h e (.int a)) : Ev W A env X h (.UnaryOp .USub e pos) (.int (-a)) := fun s Q E l f =>
  UnaryOp_ (ha s _ _ l fun v s₁ g₁ r₁ => by cases r₁; exact PySem.P.neg_int (f _ _ (g₁.trans (Gw.toks s₁ _)) (.int _ _)))
theorem ev_eqI {l r : Expr} {pos : Pos} {a b : Int} (ha : Ev W A env [] h l (.int a)) (hb : Ev W A env [] h r (.int b)) (hm : behindInMarks .Eq r = false := by with_unfolding_all rfl) : Ev W A env X h (.Compare l [.Eq] [r] pos) (.bool (decide (a = b))) :=
  ev_cmp ha hb (fun s u v Q E _ ru rv f => by cases ru; cases rv; exact PySem.P.eq_int (f _ _ (Gw.refl s) (by rw [show (a == b) = decide (a = b) from by by_cases h : a = b <;> simp [h]]; exact .bool _))) hm
theorem ev_neI {l r : Expr} {pos : Pos} {a b : Int} (ha : Ev W A env [] h l (.int a)) (hb : Ev W A env [] h r (.int b)) (hm : behindInMarks .NotEq r = false := by with_unfolding_all rfl) : Ev W A env X h (.Compare l [.NotEq] [r] pos) (.bool (decide (a ≠ b))) :=
  ev_cmp ha hb (fun s u v Q E _ ru rv f => by cases ru; cases rv; exact PySem.P.ne_int (f _ _ (Gw.refl s) (by rw [show (a != b) = decide (a ≠ b) from by by_cases h : a = b <;> simp [h]]; exact .bool _))) hm
theorem ev_ltI {l r : Expr} {pos : Pos} {a b : Int} (ha : Ev W A env [] h l (.int a)) (hb : Ev W A env [] h r (.int b)) (hm : behindInMarks .Lt r = false := by with_unfolding_all rfl) : Ev W A env X h (.Compare l [.Lt] [r] pos) (.bool (decide (a < b))) :=
  ev_cmp ha hb (fun s u v Q E _ ru rv f => by cases ru; cases rv; exact PySem.P.lt_int (f _ _ (Gw.refl s) (.bool _))) hm
theorem ev_leI {l r : Expr} {pos : Pos} {a b : Int} (ha : Ev W A env [] h l (.int a)) (hb : Ev W A env [] h r (.int b)) (hm : behindInMarks .LtE r = false := by with_unfolding_all rfl) : Ev W A env X h (.Compare l [.LtE] [r] pos) (.bool (decide (a ≤ b))) :=
  ev_cmp ha hb (fun s u v Q E _ ru rv f => by cases ru; cases rv; exact PySem.P.le_int (f _ _ (Gw.refl s) (.bool _))) hm
theorem ev_gtI {l r : Expr} {pos : Pos} {a b : Int} (ha : Ev W A env [] h l (.int a)) (hb : Ev W A env [] h r (.int b)) (hm : behindInMarks .Gt r = false := by with_unfolding_all rfl) : Ev W A env X h (.Compare l [.Gt] [r] pos) (.bool (decide (b < a))) :=
  ev_cmp ha hb (fun s u v Q E _ ru rv f => by cases ru; cases rv; exact PySem.P.gt_int (f _ _ (Gw.refl s) (.bool _))) hm
theorem ev_geI {l r : Expr} {pos : Pos} {a b : Int} (ha : Ev W A env [] h l (.int a)) (hb : Ev W A env [] h r (.int b)) (hm : behindInMarks .GtE r = false := by with_unfolding_all rfl) : Ev W A env X h (.Compare l [.GtE] [r] pos) (.bool (decide (b ≤ a))) :=
  ev_cmp ha hb (fun s u v Q E _ ru rv f => by cases ru; cases rv; exact PySem.P.ge_int (f _ _ (Gw.refl s) (.bool _))) hm

/-- a comparison as a test -/
theorem bt_cmp {l r : Expr} {op : CmpOp} {pos : Pos} {a b : V} {c : Bool} (ha : Ev W A env Y h l a) (hb : Ev W A env Y h r b)
    (ho : ∀ (s : Shared) (u v : Value) (Q E : Value → Shared → Prop), Le h s.heap → Rd Y s.heap u a → Rd Y s.heap v b → (∀ s', Gw s s' → Q (.bool c) s') → wpAny (model W.prog W.w) A (compareOp op u v) Q E s)
    (hm : behindInMarks op r = false := by with_unfolding_all rfl) : Bt W A env h (.Compare l [op] [r] pos) c := fun s Q E le f =>
  wpAny_isTrue_Compare1 (ha s _ _ le fun u s₁ k₁ r₁ => hb s₁ _ _ (le.trans k₁.le) fun v s₂ k₂ r₂ => ho s₂ u v _ _ (le.trans (k₁.le.trans k₂.le)) (r₁.le k₂.le) r₂ fun s₃ k₃ => wpAny_truthy_bool (f s₃ (k₁.trans (k₂.trans k₃)))) hm
theorem bt_eqI {l r : Expr} {pos : Pos} {a b : Int} (ha : Ev W A env [] h l (.int a)) (hb : Ev W A env [] h r (.int b)) (hm : behindInMarks .Eq r = false := by with_unfolding_all rfl) : Bt W A env h (.Compare l [.Eq] [r] pos) (decide (a = b)) :=
  bt_cmp ha hb (fun s u v Q E _ ru rv f => by cases ru; cases rv; exact PySem.P.eq_int (by rw [show (a == b) = decide (a = b) from by by_cases h : a = b <;> simp [h]]; exact f _ (Gw.refl s))) hm
theorem bt_neI {l r : Expr} {pos : Pos} {a b : Int} (ha : Ev W A env [] h l (.int a)) (hb : Ev W A env [] h r (.int b)) (hm : behindInMarks .NotEq r = false := by with_unfolding_all rfl) : Bt W A env h (.Compare l [.NotEq] [r] pos) (decide (a ≠ b)) :=
  bt_cmp ha hb (fun s u v Q E _ ru rv f => by cases ru; cases rv; exact PySem.P.ne_int (by rw [show (a != b) = decide (a ≠ b) from by by_cases h : a = b <;> simp [h]]; exact f _ (Gw.refl s))) hm
theorem bt_ltI {l r : Expr} {pos : Pos} {a b : Int} (ha : Ev W A env [] h l (.int a)) (hb : Ev W A env [] h r (.int b)) (hm : behindInMarks .Lt r = false := by with_unfolding_all rfl) : Bt W A env h (.Compare l [.Lt] [r] pos) (decide (a < b)) :=
  bt_cmp ha hb (fun s u v Q E _ ru rv f => by cases ru; cases rv; exact PySem.P.lt_int (f _ (Gw.refl s))) hm
theorem bt_leI {l r : Expr} {pos : Pos} {a b : Int} (ha : Ev W A env [] h l (.int a)) (hb : Ev W A env [] h r (.int b)) (hm : behindInMarks .LtE r = false := by with_unfolding_all rfl) : Bt W A env h (.Compare l [.LtE] [r] pos) (decide (a ≤ b)) :=
  bt_cmp ha hb (fun s u v Q E _ ru rv f => by cases ru; cases rv; exact PySem.P.le_int (f _ (Gw.refl s))) hm
theorem bt_gtI {l r : Expr} {pos : Pos} {a b : Int} (ha : Ev W A env [] h l (.int a)) (hb : Ev W A env [] h r (.int b)) (hm : behindInMarks .Gt r = false := by with_unfolding_all rfl) : Bt W A env h (.Compare l [.Gt] [r] pos) (decide (b < a)) :=
  bt_cmp ha hb (fun s u v Q E _ ru rv f => by cases ru; cases rv; exact PySem.P.gt_int (f _ (Gw.refl s))) hm
theorem bt_geI {l r : Expr} {pos : Pos} {a b : Int} (ha : Ev W A env [] h l (.int a)) (hb : Ev W A env [] h r (.int b)) (hm : behindInMarks .GtE r = false := by with_unfolding_all rfl) : Bt W A env h (.Compare l [.GtE] [r] pos) (decide (b ≤ a)) :=
  bt_cmp ha hb (fun s u v Q E _ ru rv f => by cases ru; cases rv; exact PySem.P.ge_int (f _ (Gw.refl s))) hm

theorem bt_not {e : Expr} {pos : Pos} {b : Bool} (he : Bt W A env h e b) : Bt W A env h (.UnaryOp .Not e pos) (!b) := fun s Q E l f => isTrue_not (he s _ _ l fun s' g => f s' g)
theorem bt_and_nil {pos : Pos} : Bt W A env h (.BoolOp .And [] pos) true := fun s Q E l f => isTrue_and_nil (f s (Gw.refl s))
theorem bt_or_nil {pos : Pos} : Bt W A env h (.BoolOp .Or [] pos) false := fun s Q E l f => isTrue_or_nil (f s (Gw.refl s))
theorem bt_and {e : Expr} {es : List Expr} {pos : Pos} {b c : Bool} (he : Bt W A env h e b) (hr : b = true → Bt W A env h (.BoolOp .And es pos) c) : Bt W A env h (.BoolOp .And (e :: es) pos) (b && c) := fun s Q E l f =>
  isTrue_and (he s _ _ l fun s' g => by
    cases b with
    | true =>
      simp only [if_true]
      have q := hr rfl s' Q E (l.trans g.le) fun s'' g' => f s'' (g.trans g')
      exact q
    | false => exact f s' g)
theorem bt_or {e : Expr} {es : List Expr} {pos : Pos} {b c : Bool} (he : Bt W A env h e b) (hr : b = false → Bt W A env h (.BoolOp .Or es pos) c) : Bt W A env h (.BoolOp .Or (e :: es) pos) (b || c) := fun s Q E l f =>
  isTrue_or (he s _ _ l fun s' g => by
    cases b with
    | false =>
      simp only [Bool.false_eq_true, if_false]
      have q := hr rfl s' Q E (l.trans g.le) fun s'' g' => f s'' (g.trans g')
      exact q
    | true => exact f s' g)
theorem bt_val {e : Expr} {b : Bool} (he : Ev W A env [] h e (.bool b)) (hp : ∀ whole, isTrue e env whole = (do let v ← whole; standAt e.pos; holding [v] (truthy v)) := by intro _; rfl) : Bt W A env h e b := fun s Q E l f =>
  isTrue_plain (he s _ _ l fun v s' g r => by cases r; exact wpAny_truthy_bool (f s' g)) (hp _)

theorem ev_if {t e f : Expr} {pos : Pos} {b : Bool} {d : V} (ht : Bt W A env h t b) (he : if b then Ev W A env X h e d else Ev W A env X h f d) : Ev W A env X h (.IfExp t e f pos) d := fun s Q E l g =>
  IfExp_ (ht s _ _ l fun s₁ g₁ => by
    cases b with
    | true => exact he s₁ _ _ (l.trans g₁.le) fun v s' g₂ r => g v s' (g₁.trans g₂) r
    | false => exact he s₁ _ _ (l.trans g₁.le) fun v s' g₂ r => g v s' (g₁.trans g₂) r)

/-- a built-in function of one argument -/
theorem ev_b1 {fn e : Expr} {pos : Pos} {id : String} {a d : V} (hf : EvV W A env h fn (.builtin id)) (ha : Ev W A env Y h e a)
    (ho : ∀ (s : Shared) (u : Value) (Q E : Value → Shared → Prop), Le h s.heap → Rd Y s.heap u a → (∀ v s', Gw s s' → Rd X s'.heap v d → Q v s') → wpAny (model W.prog W.w) A (call (.builtin id) [u]) Q E s)
    (hs : starEach [e] env = [(false, eval e env)] := by rfl)
    (he : eval (.Call fn [e] [] pos) env = (do callWith pos (← eval fn env) [] (backTo pos (starEach [e] env)) (backToKw pos (keywordEach [] env))) := by rfl) : Ev W A env X h (.Call fn [e] [] pos) d := fun s Q E l g =>
  Call_ (hf s _ _ l fun s₁ g₁ => callWith_builtin1 (args_cons (ha s₁ _ _ (l.trans g₁.le) fun v s₂ g₂ r₂ => args_nil (ho s₂ v _ _ (l.trans (g₁.le.trans g₂.le)) r₂ fun v' s₃ g₃ r₃ => g v' s₃ (g₁.trans (g₂.trans g₃)) r₃)) hs) hs rfl) he
theorem ev_t1 {fn e : Expr} {pos : Pos} {T : String} {a d : V} (hf : EvV W A env h fn (.type T)) (ha : Ev W A env Y h e a)
    (ho : ∀ (s : Shared) (u : Value) (Q E : Value → Shared → Prop), Le h s.heap → Rd Y s.heap u a → (∀ v s', Gw s s' → Rd X s'.heap v d → Q v s') → wpAny (model W.prog W.w) A (call (.type T) [u]) Q E s)
    (hs : starEach [e] env = [(false, eval e env)] := by rfl)
    (he : eval (.Call fn [e] [] pos) env = (do callWith pos (← eval fn env) [] (backTo pos (starEach [e] env)) (backToKw pos (keywordEach [] env))) := by rfl) : Ev W A env X h (.Call fn [e] [] pos) d := fun s Q E l g =>
  Call_ (hf s _ _ l fun s₁ g₁ => by
    rw [hs]
    refine PySem.callWith_type rfl (Calls.evalArgs_plain (Calls.spliced_cons (ha s₁ _ _ (l.trans g₁.le) fun v s₂ g₂ r₂ => Calls.spliced_nil ?_)))
    exact ho s₂ v _ _ (l.trans (g₁.le.trans g₂.le)) r₂ fun v' s₃ g₃ r₃ => g v' s₃ (g₁.trans (g₂.trans g₃)) r₃) he

theorem ev_len {fn e : Expr} {pos : Pos} {ds : List V} (hf : EvV W A env h fn (.builtin "len")) (ha : Ev W A env [] h e (.lst ds)) (hz : ds.length < 2 ^ 62) (hs : starEach [e] env = [(false, eval e env)] := by rfl)
    (he : eval (.Call fn [e] [] pos) env = (do callWith pos (← eval fn env) [] (backTo pos (starEach [e] env)) (backToKw pos (keywordEach [] env))) := by rfl) : Ev W A env X h (.Call fn [e] [] pos) (.int ds.length) :=
  ev_b1 hf ha (fun s u Q E l r f => by
    cases r with
    | @lst a vs n _ ea _ ra =>
    have e2 : vs.toArray.size = ds.length := by rw [List.size_toArray, ra.length]
    exact PyProof.Rows.len_list ⟨_, ea, rfl, n, rfl⟩ (by rw [e2]; omega) (f _ _ (Gw.toks s _) (by rw [e2]; exact .int _ _))) hs he
theorem ev_abs {fn e : Expr} {pos : Pos} {a : Int} (hf : EvV W A env h fn (.builtin "abs")) (ha : Ev W A env [] h e (.int a)) (hs : starEach [e] env = [(false, eval e env)] := by rfl)
    (he : eval (.Call fn [e] [] pos) env = (do callWith pos (← eval fn env) [] (backTo pos (starEach [e] env)) (backToKw pos (keywordEach [] env))) := by rfl) : Ev W A env X h (.Call fn [e] [] pos) (.int (a.natAbs : Int)) :=
  ev_b1 hf ha (fun s u Q E l r f => by
    cases r
    refine call_abs_int fun u tk => f _ _ (Gw.toks s _) ?_
    have : (if a < 0 then -a else a) = (a.natAbs : Int) := by split <;> omega
    rw [this]; exact .int _ _) hs he

theorem le_fresh {h h' : Heap} {g : Heap} (l : Le h h') : h.get? h'.objs.size = none := by
  cases e : h.get? h'.objs.size with
  | none => rfl
  | some o => exact absurd (Heap.lt_size (l _ _ e)) (Nat.lt_irrefl _)
theorem RdA.past {X : List Addr} {h : Heap} {vs : List Value} {ds : List V} (r : RdA X h vs ds) (o : Obj) : RdA (h.objs.size :: X) (h.push o) vs ds :=
  r.move fun a o' e _ hx => ⟨Le.push _ _ _ e, fun z => (List.mem_cons.mp z).elim (fun q => absurd (Heap.lt_size e) (q ▸ Nat.lt_irrefl _)) hx⟩

/-- two lists joined: a new one -/
theorem evf_add {l r : Expr} {pos : Pos} {a b : List V} (c : Cx W k A h₀ L env X h) (ha : Ev W A env Y h l (.lst a)) (hb : Ev W A env Y h r (.lst b)) (hz : a.length + b.length ≤ sizeLine) (hY : ∀ (s' : Heap) vs ds, RdA Y s' vs ds → (ds = a ∨ ds = b) → RdA X s' vs ds) : EvF W A env X h (.BinOp l .Add r pos) (a ++ b) := fun s Q E le f =>
  wpAny_BinOp (ha s _ _ le fun u s₁ g₁ r₁ => hb s₁ _ _ (le.trans g₁.le) fun v s₂ g₂ r₂ => by
    have r₁' := r₁.le g₂.le
    cases r₁' with
    | @lst x vs n _ ex _ rx =>
    cases r₂ with
    | @lst y ws m _ ey _ ry =>
    refine PySem.P.add_list ex ey ?_ (by rw [List.size_toArray, List.size_toArray, rx.length, ry.length]; exact hz)
    have l2 : Le h s₂.heap := le.trans (g₁.le.trans g₂.le)
    have rr : RdA X s₂.heap (vs ++ ws) (a ++ b) := (hY _ _ _ rx (.inl rfl)).append (hY _ _ _ ry (.inr rfl))
    have e : vs.toArray ++ ws.toArray = (vs ++ ws).toArray := by simp
    rw [e]
    exact f _ (vs ++ ws) 0 _ (g₁.trans (g₂.trans (Gw.push s₂ _))) (le_fresh (g := h) (g₁.le.trans g₂.le)) (Heap.get?_push_size _ rfl) (c.fresh l2) (rr.le (Le.push _)) (rr.past _))
theorem evf_addX {l r : Expr} {pos : Pos} {a b : List V} (c : Cx W k A h₀ L env X h) (ha : Ev W A env X h l (.lst a)) (hb : Ev W A env X h r (.lst b)) (hz : a.length + b.length ≤ sizeLine) : EvF W A env X h (.BinOp l .Add r pos) (a ++ b) := evf_add c ha hb hz fun _ _ _ r _ => r
theorem evf_addF {l r : Expr} {pos : Pos} {a b : List V} (c : Cx W k A h₀ L env X h) (ha : Ev W A env [] h l (.lst a)) (hb : Ev W A env [] h r (.lst b)) (hz : a.length + b.length ≤ sizeLine) (fa : ∀ x ∈ a, x.flat = true) (fb : ∀ x ∈ b, x.flat = true) : EvF W A env X h (.BinOp l .Add r pos) (a ++ b) := evf_add c ha hb hz fun _ _ _ r q => r.flat (q.elim (fun e => e ▸ fa) fun e => e ▸ fb)

/-- an item of a list -/
theorem ev_item {v i : Expr} {pos : Pos} {ds : List V} {j : Int} {d : V} (hv : Ev W A env X h v (.lst ds)) (hi : Ev W A env [] h i (.int j)) (h0 : 0 ≤ j) (hd : ds[j.toNat]? = some d) (hj : j < 2 ^ 63)
    (hs : ∀ l u, subscripted i false (.ref l) (.int j u) = operate [.ref l, .int j u] (getItem (.ref l) (.int j u)) := by intro _ _; with_unfolding_all rfl) : Ev W A env X h (.Subscript v i pos) d := fun s Q E l f =>
  Subscript_ (hv s _ _ l fun o s₁ g₁ r₁ => hi s₁ _ _ (l.trans g₁.le) fun w s₂ g₂ r₂ => by
    cases r₂
    have r := r₁.le g₂.le
    cases r with
    | @lst a vs n _ ea _ ra =>
    obtain ⟨x, hx, rx⟩ := ra.get hd
    have hl : s₂.heap.IsList a vs.toArray := ⟨_, ea, rfl, n, rfl⟩
    exact tail_any hl.typeIs slot_list_getitem.lookup (wpAny_getItem_list hl h0 hj (by simpa using hx) (f _ _ (g₁.trans g₂) rx)) (hs _ _))
end
end Mine
namespace Mine
open PySem PySem.Calls PySem.Spec PyProof.Rows

section
variable {B : Bd} {μ μ₁ μ₂ : Mu} {ρ : Rho} {Post Post' : Fl → Mu → Rho → Prop}

theorem mu_at {x : Str} {a : Addr} {ds ds' : List V} : Mu.at (μ₁ ++ (x, a, ds) :: μ₂) = Mu.at (μ₁ ++ (x, a, ds') :: μ₂) := by simp [Mu.at]

/-- a list of the function's own turns -/
theorem Sat.mutate {Kp γ s} {x : Str} {a : Addr} {ds ds' : List V} {h' : Heap} {tk : Nat} {vs' : List Value} {n' : Nat} (y : Sat B Kp γ (μ₁ ++ (x, a, ds) :: μ₂) ρ s) (hs : Heap.SameBut a s.heap h') (e : h'.get? a = some (lstO vs' n'))
    (r : RdA (Mu.at (μ₁ ++ (x, a, ds) :: μ₂) ++ B.X₀) s.heap vs' ds') : Sat B Kp γ (μ₁ ++ (x, a, ds') :: μ₂) ρ { s with heap := h', toks := tk } := by
  have hat := mu_at (μ₁ := μ₁) (μ₂ := μ₂) (x := x) (a := a) (ds := ds) (ds' := ds')
  have am : a ∈ Mu.at (μ₁ ++ (x, a, ds) :: μ₂) := by simp [Mu.at]
  obtain ⟨hva, hax, vs, n, ea, ra⟩ := y.muts (x, a, ds) (by simp)
  have sqa : IsSq (lstO vs n) := ⟨_, _, rfl⟩
  have mv : ∀ {v d}, Rd (Mu.at (μ₁ ++ (x, a, ds) :: μ₂) ++ B.X₀) s.heap v d → Rd (Mu.at (μ₁ ++ (x, a, ds') :: μ₂) ++ B.X₀) h' v d := fun r => r.move fun b o e q hx => ⟨(hs.2 b fun z => hx (by rw [z]; exact List.mem_append.mpr (.inl am))).trans e, by rw [← hat]; exact hx⟩
  have mvA : ∀ {v d}, RdA (Mu.at (μ₁ ++ (x, a, ds) :: μ₂) ++ B.X₀) s.heap v d → RdA (Mu.at (μ₁ ++ (x, a, ds') :: μ₂) ++ B.X₀) h' v d := fun r => r.move fun b o e q hx => ⟨(hs.2 b fun z => hx (by rw [z]; exact List.mem_append.mpr (.inl am))).trans e, by rw [← hat]; exact hx⟩
  have aL : B.env.locals ≠ a := by
    intro z
    obtain ⟨m, hm⟩ := y.cn.ns
    exact ns_notSq hm _ (z ▸ ea) sqa
  have aC : ∀ z c, (z, c) ∈ B.env.cells → c ≠ a := by
    intro z c hz q
    obtain ⟨v, hv⟩ := y.cells z c hz
    exact cell_notSq hv _ (q ▸ ea) sqa
  have vr : ∀ {z v}, Var B.env s.heap z v → Var B.env h' z v := by
    rintro z v (⟨p, m, q, r⟩ | ⟨p, c, q, r⟩)
    · exact .inl ⟨p, m, q.sameBut hs aL, r⟩
    · exact .inr ⟨p, c, q, r.sameBut hs (aC z c (mem_of_lookup q))⟩
  refine ⟨y.wf, ⟨y.cn.gr, y.cn.bel, y.cn.above, y.cn.hand, y.cn.room, y.cn.units, fun b o e => ?_, ?_⟩, ?_, y.h₀kp, fun b o e => ?_, fun z c hz => ?_, fun q hq => mv (y.gam q hq), fun z d hz => ?_, fun q hq => ?_, hat ▸ y.nd⟩
  · exact (hs.2 b fun z => (y.kp b o (y.h₀kp b o e)).2.2.2 (z ▸ am)).trans (y.cn.keep b o e)
  · obtain ⟨m, hm⟩ := y.cn.ns
    exact ⟨m, hm.sameBut hs aL⟩
  · obtain ⟨h, t, e⟩ := y.same
    exact ⟨h', tk, by rw [e]⟩
  · have k := y.kp b o e
    exact ⟨(hs.2 b fun z => k.2.2.2 (z ▸ am)).trans k.1, k.2.1, k.2.2.1, by rw [← hat]; exact k.2.2.2⟩
  · obtain ⟨v, hv⟩ := y.cells z c hz
    exact ⟨v, hv.sameBut hs (aC z c hz)⟩
  · obtain ⟨v, h1, h2⟩ := y.vars z d hz
    exact ⟨v, vr h1, mv h2⟩
  · have other : ∀ q ∈ μ₁ ++ (x, a, ds) :: μ₂, q.2.1 ≠ a → Var B.env h' q.1 (.ref q.2.1) ∧ q.2.1 ∉ B.X₀ ∧ ∃ vs n, h'.get? q.2.1 = some (lstO vs n) ∧ RdA (Mu.at (μ₁ ++ (x, a, ds') :: μ₂) ++ B.X₀) h' vs q.2.2 := by
      intro q hq hne
      obtain ⟨h1, h2, vs₂, n₂, h3, h4⟩ := y.muts q hq
      exact ⟨vr h1, h2, vs₂, n₂, (hs.2 _ hne).trans h3, mvA h4⟩
    have nd := y.nd
    unfold Mu.at at nd
    rw [List.map_append, List.map_cons] at nd
    have nd1 := List.nodup_append.mp nd
    have nd2 := List.nodup_cons.mp nd1.2.1
    rcases List.mem_append.mp hq with h1 | h1
    · exact other q (List.mem_append.mpr (.inl h1)) fun z => nd1.2.2 _ (List.mem_map.mpr ⟨q, h1, rfl⟩) a (.head _) z
    · rcases List.mem_cons.mp h1 with rfl | h1
      · exact ⟨vr hva, hax, vs', n', e, mvA r⟩
      · exact other q (List.mem_append.mpr (.inr (.tail _ h1))) fun z => nd2.1 (List.mem_map.mpr ⟨q, h1, z⟩)

/-- a list's append -/
theorem tri_append {x : Str} {a : Addr} {ds : List V} {e : Expr} {d : V} {px apos cpos pos : Pos} (hμ : μ = μ₁ ++ (x, a, ds) :: μ₂) (he : Es B μ ρ (μ.at ++ B.X₀) e d) (hz : ds.length ≤ sizeLine) (h : Post .next (μ₁ ++ (x, a, ds ++ [d]) :: μ₂) ρ)
    (hline : (apos.endLine == cpos.line) = true := by rfl) (hse : starEach [e] B.env = [(false, eval e B.env)] := by rfl) (hi : interactive B.env = false := by rfl) (hd : (x == ("__debug__" : Str)) = false := by decide)
    (hbase : attributeBase (.Name x px) "append" B.env (eval (.Name x px) B.env) = eval (.Name x px) B.env := by rfl) (hsw : swapsWith (.Call (.Attribute (.Name x px) "append" apos) [e] [] cpos) none pos.line B.env = pure false := by rfl) :
    Tr1 B μ ρ (.Expr (.Call (.Attribute (.Name x px) "append" apos) [e] [] cpos) pos) Post := fun Kp γ s E y => by
  subst hμ
  obtain ⟨hva, hax, vs, n, ea, ra⟩ := y.muts (x, a, ds) (by simp)
  refine wpAny_Expr (wpAny_Call_append hbase (by rw [show backTo cpos (starEach [e] B.env) = [(false, eval e B.env)] from by rw [hse]; rfl]; rfl) hline (by rw [hse]; rfl) ?_) hi hsw
  have ev : Ev B.W B.A B.env [] s.heap (.Name x px) (.lst ds) := ev_var (y.cx.sub (Y := []) fun _ h => (nomatch h)) hva (.lst ea (fun h => (nomatch h)) (ra.sub fun _ h => (nomatch h))) hd
  have go : wpAny (model B.W.prog B.W.w) B.A (loadName B.env x) (fun ov s₁ => ov = .ref a ∧ s₁ = s) E s := by
    rcases hva with ⟨p, m, q, r⟩ | ⟨p | ⟨p, p'⟩, c, q, r⟩
    · exact wpAny_loadName_local y.wf.ek p q r ⟨rfl, rfl⟩
    · exact wpAny_loadName_cell y.wf.ek p q r ⟨rfl, rfl⟩
    · exact wpAny_loadName_free y.wf.ek p q r ⟨rfl, rfl⟩ p'
  refine wpAny_Name (wpAny_mono go (fun ov s₁ q => ?_) fun _ _ e => e) hd
  obtain ⟨rfl, rfl⟩ := q
  refine ⟨a, vs.toArray, rfl, ⟨_, n, ea, rfl, rfl, rfl⟩, he Kp γ s₁ y s₁ _ _ (Le.refl _) fun v s₂ g₂ r₂ => ?_⟩
  refine append_at (g₂.le _ _ ea) (fun h' hs' e' => ?_) (by rw [List.size_toArray, ra.length]; exact hz)
  have e2 : h'.get? a = some (lstO (vs ++ [v]) (n + 1)) := by rw [e', List.push_toArray]
  exact ⟨.next, _, _, trivial, (y.gw g₂).mutate (tk := s₂.toks) hs' e2 ((ra.le g₂.le).append (.cons r₂ .nil)), h⟩
end
end Mine
namespace Mine
open PySem PySem.Calls PySem.Spec PyProof.Rows

mutual
def V.py : V → PyData
  | .none => .none
  | .bool b => .bool b
  | .int i => .int i
  | .str x => .str x
  | .typ _ => .none
  | .tup ds => .tuple (V.pys ds)
  | .lst ds => .list (V.pys ds)
def V.pys : List V → List PyData
  | [] => []
  | d :: ds => V.py d :: V.pys ds
end
def V.ok : Nat → V → Bool
  | _, .none => true
  | _, .bool _ => true
  | _, .int _ => true
  | _, .str x => PyData.strOk x
  | n + 1, .tup ds => ds.all (V.ok n)
  | n + 1, .lst ds => ds.all (V.ok n)
  | _, _ => false

mutual
theorem rd_reads {X : List Addr} {h : Heap} : ∀ {v : Value} {d : V} (n : Nat), Rd X h v d → d.ok n = true → ∃ as, Reads h v d.py as
  | _, _, _, .none, _ => ⟨_, Reads.none⟩
  | _, _, _, .bool b, _ => ⟨_, Reads.bool b⟩
  | _, _, _, .int i t, _ => ⟨_, Reads.int i t⟩
  | _, _, _, .str x t, _ => ⟨_, Reads.str x t⟩
  | _, _, n, .typ _, hk => by cases n <;> simp [V.ok] at hk
  | _, _, 0, .tup _ _ _, hk => by simp [V.ok] at hk
  | _, _, 0, .lst _ _ _, hk => by simp [V.ok] at hk
  | _, _, n + 1, .tup e _ r, hk => by
    obtain ⟨as, q⟩ := rda_reads n r (by simpa [V.ok] using hk)
    rw [V.py]
    exact ⟨as, reads_tuple_at e rfl rfl (by simpa using q)⟩
  | _, _, n + 1, .lst e _ r, hk => by
    obtain ⟨as, q⟩ := rda_reads n r (by simpa [V.ok] using hk)
    rw [V.py]
    exact ⟨_, reads_list_at e rfl rfl (by simpa using q)⟩
theorem rda_reads {X : List Addr} {h : Heap} : ∀ {vs : List Value} {ds : List V} (n : Nat), RdA X h vs ds → (∀ d ∈ ds, d.ok n = true) → ∃ as, ReadsAll h vs (V.pys ds) as
  | _, _, _, .nil, _ => ⟨_, ReadsAll.nil⟩
  | _, _, n, .cons hd r, hk => by
    obtain ⟨as, q⟩ := rd_reads n hd (hk _ (.head _))
    obtain ⟨bs, p⟩ := rda_reads n r fun d hm => hk d (.tail _ hm)
    rw [V.pys]
    exact ⟨_, ReadsAll.cons q p⟩
end
theorem v_lay : ∀ (n : Nat) (d : V), d.ok n = true → d.py.canLay0 = true ∧ d.py.depth ≤ n ∧ PyData.eqv d.py d.py = true := by
  have all : ∀ (n : Nat), (∀ d : V, d.ok n = true → d.py.canLay0 = true ∧ d.py.depth ≤ n ∧ PyData.eqv d.py d.py = true) → ∀ ds : List V, (∀ d ∈ ds, d.ok n = true) → PyData.canLayAll0 (V.pys ds) = true ∧ PyData.depthAll (V.pys ds) ≤ n ∧ PyData.eqvAll (V.pys ds) (V.pys ds) = true := by
    intro n ih ds
    induction ds with
    | nil => intro _; simp [V.pys, PyData.canLayAll0, PyData.depthAll, PyData.eqvAll]
    | cons d ds hi =>
      intro h
      have h1 := ih d (h d (.head _))
      have h2 := hi fun e he => h e (.tail _ he)
      simp only [V.pys, PyData.canLayAll0, PyData.depthAll, PyData.eqvAll, h1.1, h2.1, h1.2.2, h2.2.2, Bool.and_self, true_and, and_true]
      have a1 := h1.2.1
      have a2 := h2.2.1
      omega
  intro n
  induction n with
  | zero =>
    intro d h
    cases d <;> simp_all [V.ok, V.py, PyData.canLay0, PyData.depth, PyData.eqv]
  | succ n ih =>
    intro d h
    cases d with
    | none => simp [V.py, PyData.canLay0, PyData.depth, PyData.eqv]
    | bool b => simp [V.py, PyData.canLay0, PyData.depth, PyData.eqv]
    | int i => simp [V.py, PyData.canLay0, PyData.depth, PyData.eqv]
    | str x => simp [V.ok] at h; simp [V.py, PyData.canLay0, PyData.depth, PyData.eqv, h]
    | typ b => simp [V.ok] at h
    | tup ds =>
      have q := all n ih ds (by simpa [V.ok] using h)
      have q2 := q.2.1
      simp only [V.py, PyData.canLay0, PyData.depth, PyData.eqv, q.1, q.2.2, true_and, and_true]
      omega
    | lst ds =>
      have q := all n ih ds (by simpa [V.ok] using h)
      have q2 := q.2.1
      simp only [V.py, PyData.canLay0, PyData.depth, PyData.eqv, q.1, q.2.2, true_and, and_true]
      omega

theorem v_shaped {n : Nat} {d : V} (h : d.ok n = true) (hn : n ≤ 64) : SeqAt.shaped d.py = true := by
  obtain ⟨a, b, _⟩ := v_lay n d h
  unfold SeqAt.shaped
  rw [a, Bool.true_and]
  exact decide_eq_true (by omega)

section
variable {W : Wd} {k : Nat} {A : Around} {h₀ : Heap} {L : Addr} {env : Env} {X Y Z : List Addr} {h : Heap}
/-- == of two things that read alike -/
theorem ev_eqV {l r : Expr} {pos : Pos} {d : V} (c : Cx W k A h₀ L env X h) (ha : Ev W A env [] h l d) (hb : Ev W A env [] h r d) (n : Nat) (ho : d.ok n = true) (hn : n ≤ 64) (hm : behindInMarks .Eq r = false := by with_unfolding_all rfl) : Ev W A env X h (.Compare l [.Eq] [r] pos) (.bool true) :=
  ev_cmp ha hb (fun s u v Q E le ru rv f => by
    obtain ⟨as, ra⟩ := rd_reads n ru ho
    obtain ⟨bs, rb⟩ := rd_reads n rv ho
    refine eq_dataH ra rb (v_shaped ho hn) (v_shaped ho hn) (by have := c.cn.units; omega) (f _ _ (Gw.refl s) ?_)
    rw [(v_lay n d ho).2.2]; exact .bool _) hm
theorem bt_eqV {l r : Expr} {pos : Pos} {d : V} (c : Cx W k A h₀ L env X h) (ha : Ev W A env [] h l d) (hb : Ev W A env [] h r d) (n : Nat) (ho : d.ok n = true) (hn : n ≤ 64) (hm : behindInMarks .Eq r = false := by with_unfolding_all rfl) : Bt W A env h (.Compare l [.Eq] [r] pos) true :=
  bt_cmp ha hb (fun s u v Q E le ru rv f => by
    obtain ⟨as, ra⟩ := rd_reads n ru ho
    obtain ⟨bs, rb⟩ := rd_reads n rv ho
    refine eq_dataH ra rb (v_shaped ho hn) (v_shaped ho hn) (by have := c.cn.units; omega) ?_
    rw [(v_lay n d ho).2.2]; exact f _ (Gw.refl s)) hm
theorem bt_neV {l r : Expr} {pos : Pos} {d : V} (c : Cx W k A h₀ L env X h) (ha : Ev W A env [] h l d) (hb : Ev W A env [] h r d) (n : Nat) (ho : d.ok n = true) (hn : n ≤ 64) (hm : behindInMarks .NotEq r = false := by with_unfolding_all rfl) : Bt W A env h (.Compare l [.NotEq] [r] pos) false :=
  bt_cmp ha hb (fun s u v Q E le ru rv f => by
    obtain ⟨as, ra⟩ := rd_reads n ru ho
    obtain ⟨bs, rb⟩ := rd_reads n rv ho
    refine ne_dataH ra rb (v_shaped ho hn) (v_shaped ho hn) (by have := c.cn.units; omega) ?_
    rw [(v_lay n d ho).2.2]; exact f _ (Gw.refl s)) hm

def V.tyName : V → String
  | .none => "NoneType"
  | .bool _ => "bool"
  | .int _ => "int"
  | .str _ => "str"
  | .typ _ => "type"
  | .tup _ => "tuple"
  | .lst _ => "list"
theorem ev_type {fn e : Expr} {pos : Pos} {d : V} (hf : EvV W A env h fn (.type "type")) (ha : Ev W A env [] h e d) (hd : (match d with | .typ _ => false | _ => true) = true := by rfl) (hs : starEach [e] env = [(false, eval e env)] := by rfl)
    (he : eval (.Call fn [e] [] pos) env = (do callWith pos (← eval fn env) [] (backTo pos (starEach [e] env)) (backToKw pos (keywordEach [] env))) := by rfl) : Ev W A env X h (.Call fn [e] [] pos) (.typ d.tyName) :=
  ev_t1 hf ha (fun s u Q E l r f => by
    cases r with
    | none => exact call_type_of (Tx := "NoneType") rfl (by decide +kernel) (f _ _ (Gw.refl s) (.typ _))
    | bool b => exact call_type_of (Tx := "bool") rfl (by decide +kernel) (f _ _ (Gw.refl s) (.typ _))
    | int i t => exact call_type_of (Tx := "int") rfl (by decide +kernel) (f _ _ (Gw.refl s) (.typ _))
    | str x t => exact call_type_of (Tx := "str") rfl (by decide +kernel) (f _ _ (Gw.refl s) (.typ _))
    | typ n => cases hd
    | tup e hx q => exact call_type_of (Tx := "tuple") ⟨_, e, rfl⟩ (by decide +kernel) (f _ _ (Gw.refl s) (.typ _))
    | lst e hx q => exact call_type_of (Tx := "list") ⟨_, e, rfl⟩ (by decide +kernel) (f _ _ (Gw.refl s) (.typ _))) hs he
theorem ev_typ {e : Expr} {n : String} (hf : EvV W A env h e (.type n)) : Ev W A env X h e (.typ n) := fun s Q E l f => hf s _ _ l fun s' g => f _ s' g (.typ n)
theorem bt_isT {l r : Expr} {pos : Pos} {n m : String} (ha : Ev W A env [] h l (.typ n)) (hb : Ev W A env [] h r (.typ m)) (hm : behindInMarks .Is r = false := by with_unfolding_all rfl) : Bt W A env h (.Compare l [.Is] [r] pos) (decide (n = m)) :=
  bt_cmp ha hb (fun s u v Q E le ru rv f => by
    cases ru; cases rv
    by_cases e : n = m
    · subst e; exact wpAny_is_self rfl (by simpa using f _ (Gw.refl s))
    · exact wpAny_is_other rfl (fun z => e (by injection z)) (by simpa [e] using f _ (Gw.refl s))) hm
def V.isNone : V → Bool
  | .none => true
  | _ => false
theorem bt_isNotN {l r : Expr} {pos : Pos} {d : V} (ha : Ev W A env [] h l d) (hb : Ev W A env [] h r .none) (hm : behindInMarks .IsNot r = false := by with_unfolding_all rfl) : Bt W A env h (.Compare l [.IsNot] [r] pos) (!d.isNone) :=
  bt_cmp ha hb (fun s u v Q E le ru rv f => by
    cases rv
    cases ru <;> first | exact wpAny_isNot_self rfl (f _ (Gw.refl s)) | exact wpAny_isNot_other rfl (fun z => by cases z) (f _ (Gw.refl s))) hm
theorem bt_isN {l r : Expr} {pos : Pos} {d : V} (ha : Ev W A env [] h l d) (hb : Ev W A env [] h r .none) (hm : behindInMarks .Is r = false := by with_unfolding_all rfl) : Bt W A env h (.Compare l [.Is] [r] pos) d.isNone :=
  bt_cmp ha hb (fun s u v Q E le ru rv f => by
    cases rv
    cases ru <;> first | exact wpAny_is_self rfl (f _ (Gw.refl s)) | exact wpAny_is_other rfl (fun z => by cases z) (f _ (Gw.refl s))) hm

/-- an item of a tuple -/
theorem ev_itemT {v i : Expr} {pos : Pos} {ds : List V} {j : Int} {d : V} (hv : Ev W A env X h v (.tup ds)) (hi : Ev W A env [] h i (.int j)) (h0 : 0 ≤ j) (hd : ds[j.toNat]? = some d) (hj : j < 2 ^ 63)
    (hs : ∀ l u, subscripted i false (.ref l) (.int j u) = operate [.ref l, .int j u] (getItem (.ref l) (.int j u)) := by intro _ _; with_unfolding_all rfl) : Ev W A env X h (.Subscript v i pos) d := fun s Q E l f =>
  Subscript_ (hv s _ _ l fun o s₁ g₁ r₁ => hi s₁ _ _ (l.trans g₁.le) fun w s₂ g₂ r₂ => by
    cases r₂
    have r := r₁.le g₂.le
    cases r with
    | @tup a vs n _ ea _ ra =>
    obtain ⟨x, hx, rx⟩ := ra.get hd
    have hl : j.toNat < vs.length := (List.getElem?_eq_some_iff.mp hx).1
    refine tail_any (T := "tuple") ⟨_, ea, rfl⟩ slot_tuple_getitem.lookup (PySem.P.getItem_tuple ea (by omega) hj (k := j.toNat) (seqIndex_of h0 (by rw [List.size_toArray]; omega)) (by simpa using hx) (f _ _ (g₁.trans g₂) rx)) (hs _ _))
end
end Mine
namespace Mine
open PySem PySem.Calls PySem.Spec PyProof.Rows

/-- an expression whose items can be gone over: n of them, item i reads as it i -/
def Src (W : Wd) (A : Around) (env : Env) (Y : List Addr) (h : Heap) (iter : Expr) (n : Nat) (it : Nat → V) : Prop :=
  ∀ (s : Shared) (Q E : Value → Shared → Prop), Le h s.heap →
    (∀ (I : Addr) (fp : List Addr) (P : Nat → Value → Prop) (St : Nat → Heap → Prop) (s' : Shared), Gw s s' → s.heap.get? I = none → Walks W.prog W.w A I fp [I] n P St → St 0 s'.heap → (∀ b ∈ fp, b < s'.heap.objs.size) → (∀ i h, St i h → ∃ o, h.get? I = some o ∧ ¬ IsSq o) →
      (∀ i v h', i < n → P i v → (∀ b o, b ≠ I → s'.heap.get? b = some o → h'.get? b = some o) → Rd Y h' v (it i)) → Q (.ref I) s') →
    wpAny (model W.prog W.w) A (eval iter env) (fun xv s₁ => wpAny (model W.prog W.w) A (pyIter xv) Q E s₁) E s

section
variable {W : Wd} {k : Nat} {A : Around} {h₀ : Heap} {L : Addr} {env : Env} {X Y : List Addr} {h : Heap}
theorem src_list {iter : Expr} {ds : List V} (hh : A.handled = none) (he : Ev W A env Y h iter (.lst ds)) : Src W A env Y h iter ds.length (fun i => ds.getD i .none) := fun s Q E l f =>
  he s _ _ l fun v s₁ g₁ r₁ => by
    cases r₁ with
    | @lst a vs n _ ea hax ra =>
    have hl : s₁.heap.IsList a vs.toArray := ⟨_, ea, rfl, n, rfl⟩
    refine wpAny_pyIter_list hl ?_
    have hne : a ≠ s₁.heap.objs.size := Nat.ne_of_lt (Heap.lt_size ea)
    have hlen : vs.toArray.size = ds.length := by rw [List.size_toArray, ra.length]
    have Wk := Walks.list (prog := W.prog) (w := W.w) (A := A) hh s₁.heap.objs.size a hne vs.toArray
    rw [hlen] at Wk
    refine f _ _ _ _ _ (g₁.trans (Gw.push s₁ _)) (le_fresh (g := h) g₁.le) Wk ⟨⟨_, Heap.get?_push_size _ rfl, rfl, rfl⟩, ⟨_, Heap.get?_push_of_some _ ea, rfl, n, rfl⟩⟩ ?_ ?_ ?_
    · intro b hb
      show b < (s₁.heap.push _).objs.size
      rw [Heap.size_push]
      rcases List.mem_cons.mp hb with rfl | hb
      · exact Nat.lt_succ_self _
      · rw [List.mem_singleton.mp hb]; exact Nat.lt_succ_of_lt (Heap.lt_size ea)
    · rintro i h ⟨⟨o, e, hc, hd⟩, _⟩
      refine ⟨o, e, ?_⟩
      rintro ⟨its, n', q⟩
      rw [hd] at q; cases q
    · intro i v h' hi hv hk
      obtain ⟨d, hd, rd⟩ := ra.getV (show vs[i]? = some v by simpa using hv)
      have : ds.getD i .none = d := by rw [List.getD_eq_getElem?_getD, hd]; rfl
      show Rd Y h' v (ds.getD i .none)
      rw [this]
      exact rd.move fun b o e _ hx => ⟨hk b o (Nat.ne_of_lt (Heap.lt_size e)) (Heap.get?_push_of_some _ e), hx⟩
theorem src_range {e : Expr} {x : Str} {p pos : Pos} {N : Int} (hh : A.handled = none) (hv : EvV W A env h (.Name x p) (.type "range")) (he : Ev W A env X h e (.int N)) (hlo : -(2 ^ 62) ≤ N) (hhi : N < 2 ^ 62) (hse : starEach [e] env = [(false, eval e env)] := by rfl) :
    Src W A env Y h (.Call (.Name x p) [e] [] pos) N.toNat (fun i => .int (i : Nat)) := fun s Q E l f =>
  evr hv he l hlo hhi (fun I s' g hn hI => by
    refine f I [I] _ _ s' g hn (Walks.range hh I 0 1 N.toNat) (by simpa using hI) ?_ ?_ ?_
    · intro b hb
      rw [List.mem_singleton.mp hb]; exact Heap.lt_size hI
    · intro i h st
      refine ⟨_, st, ?_⟩
      rintro ⟨its, n', q⟩
      cases q
    · rintro i v h' hi ⟨t, rfl⟩ _
      have : (0 + (i : Int) * 1) = (i : Int) := by omega
      rw [this]; exact .int _ _) hse

theorem Rd.fresh {X : List Addr} {h h' : Heap} {D : Addr} {v : Value} {d : V} (r : Rd X h v d) (hD : h.get? D = Option.none) (l : Le h h') : Rd (D :: X) h' v d := r.move fun b o e _ hx => ⟨l b o e, fun z => (List.mem_cons.mp z).elim (fun q => by rw [q, hD] at e; cases e) hx⟩
theorem RdA.fresh {X : List Addr} {h h' : Heap} {D : Addr} {v : List Value} {d : List V} (r : RdA X h v d) (hD : h.get? D = none) (l : Le h h') : RdA (D :: X) h' v d := r.move fun b o e _ hx => ⟨l b o e, fun z => (List.mem_cons.mp z).elim (fun q => by rw [q, hD] at e; cases e) hx⟩

/-- a name that a comprehension draws from around it -/
theorem var_free {scope : Scope} {cl : List (Str × Addr)} {C : Addr} {y : Str} {u : Value} {h : Heap} (hv : Var env h y u) (hk : (compEnvC scope cl C env).kindOf y = some .cell) (hc : env.kindOf y = some .cell) (hl : cl.lookup y = env.cells.lookup y) : Var (compEnvC scope cl C env) h y u := by
  rcases hv with ⟨a, _⟩ | ⟨_, c, b, d⟩
  · rw [hc] at a; cases a
  · exact .inr ⟨.inl hk, c, by show cl.lookup y = some c; rw [hl]; exact b, d⟩

def picked (n : Nat) (b : Nat → Bool) (g : Nat → V) : List V := ((List.range n).filter b).map g
theorem picked_succ {n : Nat} {b : Nat → Bool} {g : Nat → V} : picked (n + 1) b g = picked n b g ++ (if b n then [g n] else []) := by
  unfold picked
  rw [List.range_succ, List.filter_append, List.map_append]
  congr 1
  by_cases h : b n = true <;> simp [h]
theorem picked_len {n : Nat} {b : Nat → Bool} {g : Nat → V} : (picked n b g).length ≤ n := by
  unfold picked
  rw [List.length_map]
  exact Nat.le_trans (List.length_filter_le _ _) (by simp)

/-- a list comprehension of one clause: a new list -/
theorem evf_comp {elt iter : Expr} {x : Str} {px pos : Pos} {ifs : List Expr} {scope : Scope} {cl : List (Str × Addr)} {n : Nat} {it : Nat → V} (b : Nat → Bool) (g : Nat → V) (c : Cx W k A h₀ L env X h)
    (hclos : closureFor scope env = pure cl) (hcell : ∀ y ∈ scope.names, y.2 ≠ .cell) (hkind : scope.kind = .function) (hnames : ∀ y ∈ scope.names, y.2 = .local → scope.names.lookup y.1 = some .local) (hx : scope.names.lookup x = some .local)
    (hsrc : Src W A env X h iter n it) (hn : n ≤ sizeLine)
    (tests : ∀ i C v s E (Q : Bool → Shared → Prop), i < n → Le h s.heap → Cx W k A h₀ L (compEnvC scope cl C env) X s.heap → Var (compEnvC scope cl C env) s.heap x v → Rd X s.heap v (it i) → (∀ s', Gw s s' → Q (b i) s') →
      wpAny (model W.prog W.w) A (forIn ifs true fun c r => if r = true then do let ok ← isTrue c (compEnvC scope cl C env) (eval c (compEnvC scope cl C env)); pure (ForInStep.yield ok) else pure (ForInStep.yield r)) Q E s)
    (helt : ∀ i C D v h', i < n → b i = true → Le h h' → h.get? D = none → Cx W k A h₀ L (compEnvC scope cl C env) (D :: X) h' → Var (compEnvC scope cl C env) h' x v → Rd X h' v (it i) → Ev W A (compEnvC scope cl C env) (D :: X) h' elt (g i))
    (hs : ∀ x, foldedSetIterable iter env x = pure x := by intro _; rfl) : EvF W A env X h (.ListComp elt [⟨.Name x px, iter, ifs, 0⟩] scope pos) (picked n b g) := fun s Q E l f => by
  rw [eval_ListComp]
  refine wpAny_comprehension_free (use := none) rfl hs hclos hkind hnames (hsrc s _ _ l fun I fp P St s₂ g₂ hIn Wk hst hfp hIs hit => ?_)
  have l₂ : Le h s₂.heap := l.trans g₂.le
  refine wpAny_newObj_type (wpAny_newFunctionEnv hcell (by intro y hy; simp at hy) (fun h₁ hns₁ hsb₁ => ?_) hkind)
  dsimp only at hns₁ hsb₁ ⊢
  generalize hH2 : s₂.heap.push { cls := .type "list", dict := none, data := .seq ([] : List Value).toArray } = H2 at hns₁ hsb₁ ⊢
  have hC : H2.objs.size = s₂.heap.objs.size + 1 := by rw [← hH2, Heap.size_push]
  have hDC : s₂.heap.objs.size ≠ H2.objs.size := by rw [hC]; exact Nat.ne_of_lt (Nat.lt_succ_self _)
  have below : ∀ b, b < s₂.heap.objs.size → b ≠ H2.objs.size ∧ b ≠ s₂.heap.objs.size := fun b hb => ⟨by rw [hC]; exact Nat.ne_of_lt (Nat.lt_succ_of_lt hb), Nat.ne_of_lt hb⟩
  have hDf : s₂.heap.objs.size ∉ fp := fun hm => Nat.lt_irrefl _ (hfp _ hm)
  have hCf : H2.objs.size ∉ fp := fun hm => by have := hfp _ hm; rw [hC] at this; exact Nat.lt_irrefl _ (Nat.lt_of_succ_lt this)
  have old : ∀ b o, s₂.heap.get? b = some o → h₁.get? b = some o := fun b o e => hsb₁.extBut b o (below b (Heap.lt_size e)).1 (Heap.get?_push_of_some _ (hH2 ▸ Heap.get?_push_of_some _ e))
  have hacc : h₁.get? s₂.heap.objs.size = some (lstO [] 0) := hsb₁.extBut _ _ hDC (Heap.get?_push_of_some _ (hH2 ▸ Heap.get?_push_size _ rfl))
  have hst₁ : St 0 h₁ := Wk.frame _ _ _ hst fun b _ o e => old b o e
  have hIf : I ∈ fp := Wk.sub I (List.mem_singleton.mpr rfl)
  have hIlt : I < s₂.heap.objs.size := hfp I hIf
  have hIC : I ≠ H2.objs.size := (below I hIlt).1
  have hID : I ≠ s₂.heap.objs.size := (below I hIlt).2
  have fresh : ∀ a, s₂.heap.objs.size ≤ a → s₂.heap.get? a = none := fun a ha => by
    cases e : s₂.heap.get? a with
    | none => rfl
    | some o' => exact absurd (Heap.lt_size e) (Nat.not_lt.mpr ha)
  have hD₀ : s₂.heap.get? s₂.heap.objs.size = none := fresh _ (Nat.le_refl _)
  have hC₀ : s₂.heap.get? H2.objs.size = none := fresh _ (by rw [hC]; exact Nat.le_succ _)
  have hDX : s₂.heap.objs.size ∉ X := c.fresh l₂
  have hhI : h.get? I = none := by
    cases e : h.get? I with
    | none => rfl
    | some o => have := l _ _ e; rw [hIn] at this; cases this
  have hoC : ∀ {h' : Heap} {m : Str → Option Value} {v : Value}, Le h h' → h'.Ns H2.objs.size m → m x = some v → Cx W k A h₀ L (compEnvC scope cl H2.objs.size env) X h' ∧ Var (compEnvC scope cl H2.objs.size env) h' x v := fun lh hm hv =>
    ⟨⟨c.cn.le lh, hkind, c.eg, c.eb, (c.le lh).xs⟩, .inl ⟨lookup_relabel_local hx, _, hm, hv⟩⟩
  have loop : ∀ s₃ : Shared, s₃ = { s₂ with heap := h₁, toks := s₂.toks + ([] : List (Str × Value)).length } →
      codeAny (model W.prog W.w) A (.compLoop (.ListComp elt [⟨.Name x px, iter, ifs, 0⟩] scope pos) 0 (.ref I) (.ref s₂.heap.objs.size) (compEnvC scope cl H2.objs.size env))
        (compPost (model W.prog W.w) A E none Q (.ref s₂.heap.objs.size) H2.objs.size) s₃ := by
    rintro s₃ rfl
    refine codeAny_compLoop_tests (fun q s' => ∃ h' tk i ys m m', s' = { s₂ with heap := h', toks := tk } ∧ i ≤ n ∧ q = n + 1 - i ∧ St i h' ∧ h'.Ns H2.objs.size m' ∧ h'.get? s₂.heap.objs.size = some (lstO ys m) ∧ RdA (s₂.heap.objs.size :: X) h' ys (picked i b g) ∧
      (∀ b o, b ≠ I → s₂.heap.get? b = some o → h'.get? b = some o)) ?_ (n + 1) ⟨h₁, _, 0, [], 0, _, rfl, Nat.zero_le _, rfl, hst₁, hns₁, hacc, .nil, fun b o _ e => old b o e⟩
    rintro q s' ⟨h', tk, i, ys, mm, m', rfl, hi, rfl, hst', hn', hD', hys, hk'⟩
    have lh' : Le h h' := fun b o e => hk' b o (fun z => by rw [z, hhI] at e; cases e) (l₂ b o e)
    obtain ⟨oI, heI, hnI⟩ := hIs _ _ hst'
    by_cases hlt : i < n
    · refine Wk.item i _ _ _ hlt hst' fun v h₂ tk₂ hPv hst₂ hk₂ => ?_
      have hk₂' : ∀ b o, b ≠ I → h'.get? b = some o → h₂.get? b = some o := fun b o hb e => hk₂ b o (by simpa using hb) e
      refine wpAny_assign_Name (wpAny_storeName_local (lookup_relabel_local hx) (hn'.at' fun o e => hk₂' _ o (Ne.symm hIC) e) (fun h₃ hn₃ hs₃ => ?_) (by simp [compEnvC, relabel, hkind]))
      have k3 : ∀ b o, b ≠ I → s₂.heap.get? b = some o → h₃.get? b = some o := fun b o hb e => hs₃.extBut b o (fun z => by
        have z' : b = H2.objs.size := z
        rw [z', hC₀] at e; cases e) (hk₂' b o hb (hk' b o hb e))
      have lh₃ : Le h h₃ := fun b o e => k3 b o (fun z => by rw [z, hhI] at e; cases e) (l₂ b o e)
      have hst₃ : St (i + 1) h₃ := Wk.frame _ _ _ hst₂ fun b hb o e => hs₃.extBut b o (fun z => hCf (by have z' : b = H2.objs.size := z; rw [← z']; exact hb)) e
      have hD₃ : h₃.get? s₂.heap.objs.size = some (lstO ys mm) := hs₃.extBut _ _ hDC (hk₂' _ _ (Ne.symm hID) hD')
      have hys₃ : RdA (s₂.heap.objs.size :: X) h₃ ys (picked i b g) := hys.move fun b o e sq hx => ⟨hs₃.extBut b o (fun z => by
          have z' : b = H2.objs.size := z
          rw [z'] at e
          exact ns_notSq hn' _ e sq) (hk₂' b o (fun z => hnI (by rw [z, heI] at e; cases e; exact sq)) e), hx⟩
      have rdv : Rd X h₃ v (it i) := hit i v h₃ hlt hPv k3
      obtain ⟨cx₃, vx₃⟩ := hoC lh₃ hn₃ (by simp : (if x = x then some v else m' x) = some v)
      refine tests i _ v _ _ _ hlt lh₃ cx₃ vx₃ rdv fun s₄ g₄ => ?_
      obtain ⟨⟨h₄, tk₄, rfl⟩, le₄⟩ := g₄
      have hst₄ : St (i + 1) h₄ := Wk.frame _ _ _ hst₃ fun b _ o e => le₄ b o e
      cases hb : b i with
      | false =>
        simp only [Bool.false_eq_true, if_false]
        refine ⟨n + 1 - (i + 1), by omega, h₄, tk₄, i + 1, ys, mm, _, rfl, hlt, rfl, hst₄, hn₃.keeps le₄, le₄ _ _ hD₃, ?_, fun b o hb e => le₄ b o (k3 b o hb e)⟩
        rw [picked_succ, hb]; simpa using hys₃.le le₄
      | true =>
        simp only [if_true]
        have cx₄ : Cx W k A h₀ L (compEnvC scope cl H2.objs.size env) (s₂.heap.objs.size :: X) h₄ := ⟨(cx₃.le le₄).cn, hkind, c.eg, c.eb, fun a ha => (List.mem_cons.mp ha).elim (fun e => ⟨_, e ▸ le₄ _ _ hD₃⟩) ((cx₃.le le₄).xs a)⟩
        refine helt i _ s₂.heap.objs.size v h₄ hlt hb (lh₃.trans le₄) ?_ cx₄ (vx₃.le le₄) (rdv.le le₄) _ _ _ (Le.refl _) fun y s₅ g₅ r₅ => ?_
        · cases e : h.get? s₂.heap.objs.size with
          | none => rfl
          | some o => exact absurd (Heap.lt_size (l₂ _ _ e)) (Nat.lt_irrefl _)
        obtain ⟨⟨h₅, tk₅, rfl⟩, le₅⟩ := g₅
        have hD₅ := le₅ _ _ (le₄ _ _ hD₃)
        have hys₅ := (hys₃.le le₄).le le₅
        refine append_at hD₅ (fun h₆ hs₆ hD₆ => ?_) (by rw [List.size_toArray, hys.length]; exact Nat.le_trans picked_len (Nat.le_trans hi hn))
        have mv6 : ∀ {v d}, Rd (s₂.heap.objs.size :: X) h₅ v d → Rd (s₂.heap.objs.size :: X) h₆ v d := fun r => r.move fun b o e sq hx => ⟨hs₆.extBut b o (fun z => hx (z ▸ .head _)) e, hx⟩
        have mv6A : ∀ {v d}, RdA (s₂.heap.objs.size :: X) h₅ v d → RdA (s₂.heap.objs.size :: X) h₆ v d := fun r => r.move fun b o e sq hx => ⟨hs₆.extBut b o (fun z => hx (z ▸ .head _)) e, hx⟩
        have e2 : h₆.get? s₂.heap.objs.size = some (lstO (ys ++ [y]) (mm + 1)) := by rw [hD₆, List.push_toArray]
        refine ⟨n + 1 - (i + 1), by omega, h₆, tk₅, i + 1, ys ++ [y], mm + 1, _, rfl, hlt, rfl, ?_, ((hn₃.keeps le₄).keeps le₅).sameBut hs₆ (Ne.symm hDC), e2, ?_, fun b o hb e => hs₆.extBut b o (fun z => by rw [z, hD₀] at e; cases e) (le₅ b o (le₄ b o (k3 b o hb e)))⟩
        · exact Wk.frame _ _ _ hst₄ fun b hb o e => hs₆.extBut b o (fun z => hDf (z ▸ hb)) (le₅ b o e)
        · rw [picked_succ, hb]
          exact (mv6A hys₅).append (.cons (mv6 r₅) .nil)
    · obtain rfl : i = n := by omega
      refine Wk.done _ _ _ hst' fun h₂ tk₂ hk₂ => ?_
      have hk₂' : ∀ b o, b ≠ I → h'.get? b = some o → h₂.get? b = some o := fun b o hb e => hk₂ b o (by simpa using hb) e
      have nC : ∀ {g : Heap} {m : Str → Option Value}, g.Ns H2.objs.size m → ∀ o, g.get? H2.objs.size = some o → ¬ IsSq o := fun hm => ns_notSq hm
      refine ⟨m', hn'.at' fun o e => hk₂' _ o (Ne.symm hIC) e, fun h₃ hs₃ => ?_⟩
      have hn₂ : h₂.Ns H2.objs.size m' := hn'.at' fun o e => hk₂' _ o (Ne.symm hIC) e
      have lk : ∀ b o, b ≠ I → s₂.heap.get? b = some o → h₃.get? b = some o := fun b o hb e => hs₃.extBut b o (fun z => by rw [z, hC₀] at e; cases e) (hk₂' b o hb (hk' b o hb e))
      have les : Le s.heap h₃ := fun b o e => lk b o (fun z => by rw [z, hIn] at e; cases e) (g₂.le b o e)
      have hys₃ : RdA (s₂.heap.objs.size :: X) h₃ ys (picked i b g) := hys.move fun b o e sq hx => ⟨hs₃.extBut b o (fun z => by rw [z] at e; exact ns_notSq hn' _ e sq) (hk₂' b o (fun z => hnI (by rw [z, heI] at e; cases e; exact sq)) e), hx⟩
      refine f s₂.heap.objs.size ys mm _ (g₂.same.elim fun hh q => q.elim fun tt e => ⟨⟨h₃, tk₂, by rw [e]⟩, les⟩) (le_fresh (g := h) g₂.le) (hs₃.extBut _ _ hDC (hk₂' _ _ (Ne.symm hID) hD')) hDX (hys₃.sub fun a ha => .tail _ ha) hys₃
  exact codeAny_compStart_list (loop _ rfl) (Wk.self 0 _ _ _ hst₁ (loop _ rfl))

/-- the items are plain: nothing to mind -/
theorem evf_compF {elt iter : Expr} {x : Str} {px pos : Pos} {ifs : List Expr} {scope : Scope} {cl : List (Str × Addr)} {n : Nat} {it : Nat → V} (b : Nat → Bool) (g : Nat → V) (c : Cx W k A h₀ L env X h)
    (hclos : closureFor scope env = pure cl) (hcell : ∀ y ∈ scope.names, y.2 ≠ .cell) (hkind : scope.kind = .function) (hnames : ∀ y ∈ scope.names, y.2 = .local → scope.names.lookup y.1 = some .local) (hx : scope.names.lookup x = some .local)
    (hsrc : Src W A env X h iter n it) (hn : n ≤ sizeLine)
    (tests : ∀ i C v s E (Q : Bool → Shared → Prop), i < n → Le h s.heap → Cx W k A h₀ L (compEnvC scope cl C env) X s.heap → Var (compEnvC scope cl C env) s.heap x v → Rd X s.heap v (it i) → (∀ s', Gw s s' → Q (b i) s') →
      wpAny (model W.prog W.w) A (forIn ifs true fun c r => if r = true then do let ok ← isTrue c (compEnvC scope cl C env) (eval c (compEnvC scope cl C env)); pure (ForInStep.yield ok) else pure (ForInStep.yield r)) Q E s)
    (helt : ∀ i C v h', i < n → b i = true → Le h h' → Cx W k A h₀ L (compEnvC scope cl C env) X h' → Var (compEnvC scope cl C env) h' x v → Rd X h' v (it i) → Ev W A (compEnvC scope cl C env) X h' elt (g i))
    (hg : ∀ i, i < n → (g i).flat = true)
    (hs : ∀ x, foldedSetIterable iter env x = pure x := by intro _; rfl) : EvF W A env X h (.ListComp elt [⟨.Name x px, iter, ifs, 0⟩] scope pos) (picked n b g) :=
  evf_comp b g c hclos hcell hkind hnames hx hsrc hn tests (fun i C D v h' hi hb l _ cx vx r => (helt i C v h' hi hb l (cx.sub fun a ha => .tail _ ha) vx r).flat (hg i hi)) hs
end
end Mine
namespace Mine
open PySem PySem.Calls PySem.Spec PyProof.Rows

section
variable {B : Bd} {μ : Mu} {ρ : Rho} {Kp : Addr → Obj → Prop} {γ : List (Value × V)} {s : Shared}
theorem ev_rho {x : Str} {pos : Pos} {d : V} (y : Sat B Kp γ μ ρ s) (h : ρ.lookup x = some d) (hd : (x == ("__debug__" : Str)) = false := by decide) : Ev B.W B.A B.env (μ.at ++ B.X₀) s.heap (.Name x pos) d := by
  obtain ⟨v, h1, h2⟩ := y.vars x d h
  exact ev_var y.cx h1 h2 hd
theorem ev_nm {x : Str} {pos : Pos} {d : V} (y : Sat B Kp γ μ ρ s) (h : ρ.lookup x = some d) (hd : (x == ("__debug__" : Str)) = false := by decide) : Ev B.W B.A B.env [] s.heap (.Name x pos) d := (ev_rho y h hd).sub fun _ h => (nomatch h)
/-- a list that may turn, read -/
theorem ev_mu {x : Str} {pos : Pos} {a : Addr} {ds : List V} (y : Sat B Kp γ μ ρ s) (h : (x, a, ds) ∈ μ) (hd : (x == ("__debug__" : Str)) = false := by decide) : Ev B.W B.A B.env B.X₀ s.heap (.Name x pos) (.lst ds) := by
  obtain ⟨h1, h2, vs, n, h3, h4⟩ := y.muts _ h
  exact ev_var (y.cx.sub fun a ha => List.mem_append.mpr (.inr ha)) h1 (.lst h3 h2 (h4.sub fun a ha => List.mem_append.mpr (.inr ha))) hd
theorem ev_mu0 {x : Str} {pos : Pos} {a : Addr} {ds : List V} (y : Sat B Kp γ μ ρ s) (h : (x, a, ds) ∈ μ) (hd : (x == ("__debug__" : Str)) = false := by decide) : Ev B.W B.A B.env [] s.heap (.Name x pos) (.lst ds) := (ev_mu y h hd).sub fun _ h => (nomatch h)
theorem ev_rho0 {x : Str} {pos : Pos} {d : V} (y : Sat B Kp γ μ ρ s) (h : ρ.lookup x = some d) (hd : (x == ("__debug__" : Str)) = false := by decide) : Ev B.W B.A B.env B.X₀ s.heap (.Name x pos) d :=
  (ev_rho y h hd).sub fun a ha => List.mem_append.mpr (.inr ha)
/-- fewer names known -/
theorem Tri.weak {body : List Stmt} {Post : Fl → Mu → Rho → Prop} {ρ' : Rho} (x : Tri B μ ρ' body Post) (h : ∀ z d, ρ'.lookup z = some d → ρ.lookup z = some d) : Tri B μ ρ body Post := fun Kp γ s E y => x Kp γ s E (y.forget h)
end

/-- each name of the one is so known in the other -/
def Sub : Rho → Rho → Prop
  | [], _ => True
  | q :: r, ρ => ρ.lookup q.1 = some q.2 ∧ Sub r ρ
theorem Sub.look : ∀ {ρ' ρ : Rho}, Sub ρ' ρ → ∀ z d, ρ'.lookup z = some d → ρ.lookup z = some d
  | [], _, _, z, d, h => by cases h
  | q :: r, ρ, ⟨h1, h2⟩, z, d, h => by
    obtain ⟨x, e⟩ := q
    rcases lookup_put h with ⟨rfl, rfl⟩ | ⟨_, h⟩
    · exact h1
    · exact Sub.look h2 z d h
theorem tri_end {B : Bd} {μ : Mu} {ρ ρ' : Rho} {Post : Fl → Mu → Rho → Prop} (hs : Sub ρ' ρ) (h : Post .next μ ρ') : Tri B μ ρ [] Post := Tri.weak (tri_nil h) hs.look

def fnBody : Stmt → List Stmt
  | .FunctionDef _ _ b .. => b
  | _ => []
def fnArgs : Stmt → Arguments
  | .FunctionDef _ a .. => a
  | _ => ⟨[], [], none, [], [], none, []⟩
def fnScope : Stmt → Scope
  | .FunctionDef _ _ _ _ _ _ sc .. => sc
  | _ => default
abbrev fdOf (name : Str) (st : Stmt) (doc pm : Value) (an : Option Addr) (cdv ct : Value) : FuncData :=
  { name, qualname := name, params := fnArgs st, body := .stmts (fnBody st), scope := fnScope st, globals := mainGlobals, closure := [], defaults := .none, kwdefaults := .none, doc, pyModule := pm, annotations := an, code := cdv, closureTuple := ct, builtins := builtinsNs }

/-- the built-in names that the programs draw on -/
structure Std (W : Wd) : Prop where
  len : W.mg "len" = none ∧ W.mb "len" = some (.builtin "len")
  abs : W.mg "abs" = none ∧ W.mb "abs" = some (.builtin "abs")
  range : W.mg "range" = none ∧ W.mb "range" = some (.type "range")
  type : W.mg "type" = none ∧ W.mb "type" = some (.type "type")
  list : W.mg "list" = none ∧ W.mb "list" = some (.type "list")
  int : W.mg "int" = none ∧ W.mb "int" = some (.type "int")
  bool : W.mg "bool" = none ∧ W.mb "bool" = some (.type "bool")
end Mine
namespace Mine
open PySem PySem.Calls PySem.Spec PyProof.Rows
theorem fnc_def {W : Wd} {k : Nat} {f : Addr} {name : Str} {st : Stmt} {doc pm cdv ct : Value} {an : Option Addr} {ps : List Str} {args : List V} {d : V} (hd : W.defs f (fdOf name st doc pm an cdv ct))
    (hbind : ∀ vs, vs.length = ps.length → bindArgs (fdOf name st doc pm an cdv ct) ⟨vs, []⟩ = pure (ps.zip vs)) (hps : ps.Nodup) (hlen : args.length = ps.length)
    (hkind : ∀ n, ∀ x ∈ ps, (fnScope st).names.lookup x = some .local ∨ ((fnScope st).names.lookup x = some .cell ∧ ((cellsFrom n (fnScope st).names []).lookup x).isSome = true))
    (hnd : ((cellsFrom 0 (fnScope st).names []).map (·.1)).Nodup) (hco : (fnScope st).isCoroutine = false) (hgen : (fnScope st).isGenerator = false) (hk : (fnScope st).kind = .function)
    (h : ∀ A h₀ L X₀ s₀, Tri ⟨W, k, A, h₀, callEnvC (fdOf name st doc pm an cdv ct) L f, X₀, s₀⟩ [] (ps.zip args) (fnBody st) fun fl _ _ => fl = .ret d ∨ (fl = .next ∧ d = .none)) : FnC W (k + 1) f args d :=
  fnc_of hd rfl rfl rfl rfl hbind hps hlen hkind hnd hco hgen hk (by
    rintro ⟨W', k', A, h₀, env, X₀, s₀⟩ rfl rfl ⟨L, rfl⟩
    exact h A h₀ L X₀ s₀)
end Mine
namespace Mine
open PySem PySem.Calls PySem.Spec PyProof.Rows
/-- a name of the function's, drawn upon in a comprehension -/
theorem ev_free {B : Bd} {μ : Mu} {ρ : Rho} {Kp : Addr → Obj → Prop} {γ : List (Value × V)} {s : Shared} {X : List Addr} {h' : Heap} {scope : Scope} {cl : List (Str × Addr)} {C : Addr} {x : Str} {pos : Pos} {d : V} {X' : List Addr} {k' : Nat} {h₀' : Heap} {L' : Addr} (y : Sat B Kp γ μ ρ s) (l : Le s.heap h')
    (cx : Cx B.W k' B.A h₀' L' (compEnvC scope cl C B.env) X' h') (hl : ρ.lookup x = some d) (hX : ∀ a ∈ X, a ∈ μ.at ++ B.X₀) (hk : (compEnvC scope cl C B.env).kindOf x = some .cell := by rfl) (hc : B.env.kindOf x = some .cell := by rfl) (hcl : cl.lookup x = B.env.cells.lookup x := by rfl)
    (hd : (x == ("__debug__" : Str)) = false := by decide) : Ev B.W B.A (compEnvC scope cl C B.env) X h' (.Name x pos) d := by
  obtain ⟨v, h1, h2⟩ := y.vars x d hl
  exact ev_var (X := X) ⟨cx.cn, cx.ek, cx.eg, cx.eb, fun a ha => let ⟨o, e⟩ := y.cx.xs a (hX a ha); ⟨o, l _ _ e⟩⟩ (var_free (h1.le l) hk hc hcl) ((h2.le l).sub hX) hd
theorem ev_own {W : Wd} {k : Nat} {A : Around} {h₀ : Heap} {L : Addr} {env : Env} {X : List Addr} {h : Heap} {x : Str} {pos : Pos} {v : Value} {d : V} (c : Cx W k A h₀ L env X h) (hv : Var env h x v) (hr : Rd X h v d) (hd : (x == ("__debug__" : Str)) = false := by decide) : Ev W A env [] h (.Name x pos) d :=
  (ev_var c hv hr hd).sub fun _ h => (nomatch h)
theorem no_tests {W : Wd} {A : Around} {env : Env} {s : Shared} {Q : Bool → Shared → Prop} {E : Value → Shared → Prop} (f : ∀ s', Gw s s' → Q true s') :
    wpAny (model W.prog W.w) A (forIn ([] : List Expr) true fun c r => if r = true then do let ok ← isTrue c env (eval c env); pure (ForInStep.yield ok) else pure (ForInStep.yield r)) Q E s := wpAny_tests_nil (f s (Gw.refl s))
theorem one_test {W : Wd} {A : Around} {env : Env} {s : Shared} {Q : Bool → Shared → Prop} {E : Value → Shared → Prop} {c : Expr} {b : Bool} (hb : Bt W A env s.heap c b) (f : ∀ s', Gw s s' → Q b s') :
    wpAny (model W.prog W.w) A (forIn [c] true fun c r => if r = true then do let ok ← isTrue c env (eval c env); pure (ForInStep.yield ok) else pure (ForInStep.yield r)) Q E s := wpAny_tests_one (hb s _ _ (Le.refl _) f)
theorem picked_all {n : Nat} {g : Nat → V} : picked n (fun _ => true) g = (List.range n).map g := by unfold picked; rw [List.filter_eq_self.mpr (fun _ _ => rfl)]
end Mine
namespace Mine
open PySem PySem.Calls PySem.Spec PyProof.Rows PySem.W

theorem rd_script {P : Params} {h : Heap} {a : Addr} {ns : List Int} (w : Well P h (.ref a) (ofPy (PyData.list (ns.map PyData.int)))) : Rd [] h (.ref a) (.lst (ns.map .int)) := by
  have all : ∀ (ns : List Int) (vs : List Value), WellAll P h vs (ns.map fun i => WData.int i) → RdA [] h vs (ns.map .int) := by
    intro ns
    induction ns with
    | nil => intro vs x; cases x; exact .nil
    | cons n r ih =>
      intro vs x
      cases x with
      | cons p q => cases p; exact .cons (.int _ _) (ih _ q)
  have e : ofPy (PyData.list (ns.map PyData.int)) = .list (ns.map fun i => WData.int i) := by
    have : ∀ ns : List Int, ofPys (ns.map PyData.int) = ns.map fun i => WData.int i := by
      intro ns
      induction ns with
      | nil => rfl
      | cons n r ih => simp only [List.map_cons, ofPys, ofPy, ih]
    simp only [ofPy, this]
  rw [e] at w
  cases w with
  | list e r => exact .lst e (fun h => (nomatch h)) (all _ _ r)

theorem top_call {W : Wd} {k : Nat} {f a : Addr} {name : Str} {st : Stmt} {doc pm cdv ct : Value} {an : Option Addr} {s : Shared} {ns : List Int} {R : Result → Shared → Prop} {o : Obj} {d : V} (gr : Gr W s.heap) (hk : k < 100) (ho : s.heap.get? f = some o) (hdat : o.data = .func (fdOf name st doc pm an cdv ct)) (hcd : s.heap.CodeRec cdv name)
    (rs : Rd [] s.heap (.ref a) (.lst (ns.map .int)))
    (hbind : ∀ vs, vs.length = 1 → bindArgs (fdOf name st doc pm an cdv ct) ⟨vs, []⟩ = pure ((["script"] : List Str).zip vs))
    (hkind : ∀ n, (fnScope st).names.lookup ("script" : Str) = some .local ∨ ((fnScope st).names.lookup ("script" : Str) = some .cell ∧ ((cellsFrom n (fnScope st).names []).lookup ("script" : Str)).isSome = true))
    (hnd : ((cellsFrom 0 (fnScope st).names []).map (·.1)).Nodup) (hco : (fnScope st).isCoroutine = false) (hgen : (fnScope st).isGenerator = false) (hk2 : (fnScope st).kind = .function)
    (h : ∀ A h₀ L X₀ s₀, A.frames = some [callEnvC (fdOf name st doc pm an cdv ct) L f] → Tri ⟨W, k, A, h₀, callEnvC (fdOf name st doc pm an cdv ct) L f, X₀, s₀⟩ [] [(("script" : Str), .lst (ns.map .int))] (fnBody st) fun fl _ _ => fl = .ret d)
    (hR : ∀ v s', Gw s s' → Rd [] s'.heap v d → R (.ok (.ret v)) s') : codeAny (model W.prog W.w) callerA (.call (.ref f) ⟨[.ref a], []⟩) R s := by
  refine call_core (k := k) (fd := fdOf name st doc pm an cdv ct) (ps := ["script"]) (args := [.lst (ns.map .int)]) (X := []) gr (below_caller _) rfl ?_ ?_ ho hdat hcd (fun _ h => (nomatch h)) (.cons rs .nil) rfl rfl rfl rfl hbind (by decide) rfl ?_ hnd hco hgen hk2 ?_
  · rw [show callerA.depth = 301 from rfl]; unfold recursionLimit; omega
  · rw [show callerA.units = 4 from rfl, show cLine = 9900 from rfl]; omega
  · intro n x hx
    rw [List.mem_singleton.mp hx]
    exact hkind n
  · rintro ⟨W', k', A, h₀, env, X₀, s₀⟩ s₁ hW hk' ⟨L, hL⟩ hA hh hX hs sat
    dsimp only at hW hk' hL hA hh hX hs
    subst hW hk' hL hA hh hX hs
    refine wpAny_mono (h _ _ L _ _ rfl _ _ s₁ _ sat) (fun fl s' ou => ?_) fun _ _ e => e
    obtain ⟨fd', μ', ρ', fi, y, po⟩ := ou
    subst po
    have gw : Gw _ s' := ⟨y.same, fun a o e => (y.kp a o e).1⟩
    cases fl <;> first | exact fi.elim | exact hR _ s' gw fi

def HasDef (W : Wd) (name : Str) (s : Stmt) : Prop := ∃ f doc pm an cdv ct, W.defs f (fdOf name s doc pm an cdv ct) ∧ W.mg name = some (.ref f)
abbrev Kdefs (K : Frag) : Addr → FuncData → Prop := fun f fd => ∃ o, K.lookup f = some o ∧ o.data = .func fd ∧ codeIn K fd.code fd.qualname = true
theorem hasDef_of {K : Frag} {h : Heap} {prog : Program} {w : World} {mg mb : Str → Option Value} {name : Str} {st : Stmt} {f : Addr} {o : Obj} {doc pm cdv ct : Value} {an : Option Addr} (X : K.In h) (G : h.Ns mainGlobals mg) (e : nsIn K mainGlobals name = some (some (.ref f))) (l : K.lookup f = some o)
    (d : o.data = .func (fdOf name st doc pm an cdv ct)) (c : codeIn K cdv name = true) : HasDef ⟨prog, w, mg, mb, Kdefs K, h⟩ name st := ⟨f, doc, pm, an, cdv, ct, ⟨o, l, d, c⟩, mg_of X G e⟩
theorem gr_of {K : Frag} {h : Heap} {prog : Program} {w : World} {p : Program} {loose : List Str} {mean : ExcName → Option Value} {mg mb : Str → Option Value} (X : K.In h) (T : Top p loose mean mg mb h) : Gr ⟨prog, w, mg, mb, Kdefs K, h⟩ h :=
  ⟨T.g, T.b, T.nolimit, fun f fd ⟨o, h1, h2, h3⟩ => ⟨o, X _ _ h1, h2, codeRec_of X h3⟩, Le.refl _⟩
theorem built_of {K : Frag} {h : Heap} {p : Program} {loose : List Str} {mean : ExcName → Option Value} {mg mb : Str → Option Value} {x : Str} {v : Value} (X : K.In h) (T : Top p loose mean mg mb h) (e : nsIn K mainGlobals x = some none) (hb : bootBuiltins x = some v) (hx : x ≠ "__name__" := by decide) : mg x = none ∧ mb x = some v :=
  ⟨mg_none_of X T.g e, (T.builtins x hx).trans hb⟩
theorem std_of {K : Frag} {h : Heap} {prog : Program} {w : World} {p : Program} {loose : List Str} {mean : ExcName → Option Value} {mg mb : Str → Option Value} (X : K.In h) (T : Top p loose mean mg mb h) (h1 : nsIn K mainGlobals "len" = some none) (h2 : nsIn K mainGlobals "abs" = some none) (h3 : nsIn K mainGlobals "range" = some none)
    (h4 : nsIn K mainGlobals "type" = some none) (h5 : nsIn K mainGlobals "list" = some none) (h6 : nsIn K mainGlobals "int" = some none) (h7 : nsIn K mainGlobals "bool" = some none) : Std ⟨prog, w, mg, mb, Kdefs K, h⟩ :=
  ⟨built_of X T h1 boot_len, built_of X T h2 boot_abs, built_of X T h3 boot_range, built_of X T h4 PyProof.Rows.boot_type, built_of X T h5 PyProof.Rows.boot_list, built_of X T h6 PyProof.Rows.boot_int, built_of X T h7 PyProof.Rows.boot_bool⟩
end Mine
namespace Mine
open PySem PySem.Calls PySem.Spec PyProof.Rows

abbrev frs (l : List Env) : List Addr := l.filterMap (·.frame)
/-- the state has grown; the frames may have got their slots -/
structure Gx (fs : List Addr) (s s' : Shared) : Prop where
  same : ∃ h tk, s' = { s with heap := h, toks := tk }
  other : ∀ b o, s.heap.get? b = some o → b ∉ fs → s'.heap.get? b = some o
  up : s.heap.UpToSlots s'.heap
theorem Gw.gx {s s' : Shared} {fs : List Addr} (x : Gw s s') : Gx fs s s' := ⟨x.same, fun b o e _ => x.le b o e, Heap.UpToSlots.of_keeps x.le⟩
theorem Gx.trans {a b c : Shared} {fs : List Addr} (x : Gx fs a b) (y : Gx fs b c) : Gx fs a c := by
  obtain ⟨⟨h, t, rfl⟩, k, u⟩ := x
  obtain ⟨⟨h', t', rfl⟩, k', u'⟩ := y
  exact ⟨⟨h', t', rfl⟩, fun p o e n => k' p o (k p o e n) n, u.trans u'⟩

theorem gone_sub {h h' : Heap} {l : List Addr} (k : Le h h') : Le (TI.gone h l) (TI.gone h' l) := fun b o e => by
  obtain ⟨n, e⟩ := TI.gone_some e
  rw [TI.gone_get n]; exact k b o e
theorem gone_le {h : Heap} {l : List Addr} : Le (TI.gone h l) h := fun b o e => (TI.gone_some e).2
theorem ff_base {h base base' : Heap} : ∀ {l : List Env}, h.FunFrames base l → (∀ b ∈ frs l, base'.get? b = none) → h.FunFrames base' l
  | [], _, _ => trivial
  | env :: rest, ⟨hk, ⟨L, o, hf, hn, ho, hd⟩, hr⟩, k => by
    have hm : ∀ b ∈ frs rest, b ∈ frs (env :: rest) := fun b hb => by
      show b ∈ List.filterMap _ _
      rw [List.filterMap_cons, hf]; exact .tail _ hb
    refine ⟨hk, ⟨L, o, hf, k L ?_, ho, hd⟩, ff_base hr fun b hb => k b (hm b hb)⟩
    show L ∈ List.filterMap _ _
    rw [List.filterMap_cons, hf]; exact .head _
theorem fly_base {h base base' : Heap} {l : List Env} {e : Addr} {cls a0 : Value} (x : Heap.FlyingW base l e cls a0 h) (k : Le base' base) : Heap.FlyingW base' l e cls a0 h := by
  have no : ∀ b, base.get? b = none → base'.get? b = none := fun b hb => by
    cases q : base'.get? b with
    | none => rfl
    | some o => rw [k b o q] at hb; cases hb
  obtain ⟨f1, f2, f3, oe, vs, T, oT, ts, he, hcls, hd, h1, hnT, r⟩ := x
  refine ⟨fun b o e => f1 b o (k b o e), no _ f2, ff_base f3 fun b hb => no b (f3.mem hb).1, oe, vs, T, oT, ts, he, hcls, hd, h1, no _ hnT, r⟩
theorem fly_le {h h' base : Heap} {l : List Env} {e : Addr} {cls a0 : Value} (x : Heap.FlyingW base l e cls a0 h) (k : Le h h') : Heap.FlyingW base l e cls a0 h' := by
  obtain ⟨f1, f2, f3, oe, vs, T, oT, ts, he, hcls, hd, h1, hnT, hTe, hT, r⟩ := x
  exact ⟨fun b o e => k _ _ (f1 b o e), f2, f3.of_keeps fun b o e _ => ⟨o, k _ _ e, rfl⟩, oe, vs, T, oT, ts, k _ _ he, hcls, hd, h1, hnT, hTe, k _ _ hT, r⟩

/-- an exception is on its way, out to the frames l -/
def Fly (l : List Env) (cls : Value) (s : Shared) (e : Value) (s' : Shared) : Prop :=
  ∃ a a0, e = .ref a ∧ Gx (frs l) s s' ∧ Heap.FlyingW (TI.gone s.heap (frs l)) l a cls a0 s'.heap
theorem Fly.before {l : List Env} {cls : Value} {s₀ s : Shared} {e : Value} {s' : Shared} (g : Gw s₀ s) (x : Fly l cls s e s') : Fly l cls s₀ e s' := by
  obtain ⟨a, a0, rfl, gx, fl⟩ := x
  exact ⟨a, a0, rfl, g.gx.trans gx, fly_base fl (gone_sub g.le)⟩

/-- a call that raises -/
def FnX (W : Wd) (k : Nat) (f : Addr) (args : List V) (cls : Value) : Prop :=
  ∀ (A : Around) (h₀ : Heap) (L : Addr) (X : List Addr) (s : Shared) (vs : List Value) (l : List Env) (Q E : Value → Shared → Prop), Cn W k A h₀ L s.heap → A.frames = some l → (∀ a ∈ X, ∃ o, s.heap.get? a = some o) → RdA X s.heap vs args →
    (∀ e s', Fly l cls s e s' → E e s') → wpAny (model W.prog W.w) A (call (.ref f) vs) Q E s
def EvX (W : Wd) (A : Around) (env : Env) (h : Heap) (e : Expr) (cls : Value) : Prop :=
  ∀ (s : Shared) (l : List Env) (Q E : Value → Shared → Prop), Le h s.heap → A.frames = some l → (∀ e s', Fly l cls s e s' → E e s') → wpAny (model W.prog W.w) A (eval e env) Q E s

/-- what a body that raises leaves -/
inductive Rz (B : Bd) (cls : Value) (e : Value) (s' : Shared) : Prop
  | made (a : Addr) (h : Heap) (tk : Nat) (vs : List Value) : e = .ref a → s' = { B.s₀ with heap := s'.heap, toks := tk } → Cn B.W B.k B.A B.h₀ B.env.locals h → Heap.MadeExcOf h s'.heap a cls vs → Rz B cls e s'
  | on (s : Shared) : (∀ l, B.A.frames = some l → Fly l cls s e s') → (∃ h tk, s = { B.s₀ with heap := h, toks := tk }) → Cn B.W B.k B.A B.h₀ B.env.locals s.heap → Rz B cls e s'
def TriX (B : Bd) (μ : Mu) (ρ : Rho) (body : List Stmt) (cls : Value) : Prop :=
  ∀ Kp γ s Q E, Sat B Kp γ μ ρ s → (∀ e s', Rz B cls e s' → E e s') → wpAny (model B.W.prog B.W.w) B.A (execs body B.env) Q E s
def TrX1 (B : Bd) (μ : Mu) (ρ : Rho) (st : Stmt) (cls : Value) : Prop :=
  ∀ Kp γ s Q E, Sat B Kp γ μ ρ s → (∀ e s', Rz B cls e s' → E e s') → wpAny (model B.W.prog B.W.w) B.A (exec st B.env) Q E s

section
variable {B : Bd} {μ : Mu} {ρ : Rho} {cls : Value}
theorem trix_next {st : Stmt} {rest : List Stmt} (h : Tr1 B μ ρ st (fun f m r => match f with | .next => TriX B m r rest cls | _ => False)) : TriX B μ ρ (st :: rest) cls := fun Kp γ s Q E y hE => by
  refine wpAny_execs_cons (wpAny_mono (h Kp γ s E y) (fun fl s' o => ?_) fun _ _ e => e)
  obtain ⟨fd, m, r, a, b, c⟩ := o
  cases fl <;> cases fd <;> first | exact a.elim | exact c.elim | exact c Kp γ s' _ E b hE
theorem trix_here {st : Stmt} {rest : List Stmt} (h : TrX1 B μ ρ st cls) : TriX B μ ρ (st :: rest) cls := fun Kp γ s Q E y hE =>
  wpAny_execs_cons (h Kp γ s _ E y hE)
theorem trx_if {test : Expr} {body orelse : List Stmt} {pos : Pos} {b : Bool} (hb : Bs B μ ρ test b) (h : if b then TriX B μ ρ body cls else TriX B μ ρ orelse cls) : TrX1 B μ ρ (.If test body orelse pos) cls := fun Kp γ s Q E y hE => by
  refine wpAny_If (hb Kp γ s y s _ _ (Le.refl _) fun s' g => ?_)
  cases b with
  | true => exact h Kp γ s' Q E (y.gw g) hE
  | false => exact h Kp γ s' Q E (y.gw g) hE
theorem trx_assign {x : Str} {p pos : Pos} {e : Expr} (he : ∀ Kp γ s, Sat B Kp γ μ ρ s → EvX B.W B.A B.env s.heap e cls) (hs : swapsWith e (some (.Name x p)) pos.line B.env = pure false := by rfl) : TrX1 B μ ρ (.Assign [.Name x p] e pos) cls := fun Kp γ s Q E y hE => by
  obtain ⟨A₀, base, outer, fenv, bl, hfr, _⟩ := y.cn.bel
  exact wpAny_Assign_Name (he Kp γ s y s _ _ E (Le.refl _) hfr fun e s' fl => hE e s' (.on s (fun l hl => by rw [hfr] at hl; cases hl; exact fl) y.same y.cn)) hs
theorem trx_raiseB {c newId initId : String} (FC : ExcCallFacts c newId initId) (FR : ExcRaiseFacts c) {x : Str} {np cpos pos : Pos} {e₀ : Expr} {rest : List Expr} {ds : List V} {X : List Addr}
    (hx : ∀ Kp γ s, Sat B Kp γ μ ρ s → EvV B.W B.A B.env s.heap (.Name x np) (.type c)) (he : ∀ Kp γ s, Sat B Kp γ μ ρ s → EvA B.W B.A B.env X s.heap cpos (e₀ :: rest) ds) (hz : ds.length ≤ sizeLine)
    (hse : starEach (e₀ :: rest) B.env = (false, eval e₀ B.env) :: starEach rest B.env := by rfl) (hplain : (backTo cpos (starEach rest B.env)).any (·.1) = false := by rfl) :
    TrX1 B μ ρ (.Raise (some (.Call (.Name x np) (e₀ :: rest) [] cpos)) none pos) (.type c) := fun Kp γ s Q E y hE => by
  refine Raise_madeB FC FR y.cn.hand (hx Kp γ s y s _ _ (Le.refl _) fun s₁ g₁ => ⟨rfl, he Kp γ s y s₁ _ _ g₁.le fun vs s₂ g₂ r₂ => ⟨by rw [r₂.length]; exact hz, fun h' e m => ?_⟩⟩) hse hplain
  have g := g₁.trans g₂
  obtain ⟨h₂, t₂, e₂⟩ := (y.gw g).same
  exact hE _ _ (.made e s₂.heap t₂ vs rfl (by rw [e₂]) (y.cn.le g.le) m.of)
end

/-- from a body that raises to a call that raises -/
theorem fnx_of {W : Wd} {k : Nat} {f : Addr} {fd : FuncData} {body : List Stmt} {ps : List Str} {args : List V} {cls : Value} (hd : W.defs f fd) (hbody : fd.body = .stmts body) (hclo : fd.closure = []) (hgl : fd.globals = mainGlobals) (hbl : fd.builtins = builtinsNs)
    (hbind : ∀ vs, vs.length = ps.length → bindArgs fd ⟨vs, []⟩ = pure (ps.zip vs)) (hps : ps.Nodup) (hlen : args.length = ps.length)
    (hkind : ∀ n, ∀ x ∈ ps, fd.scope.names.lookup x = some .local ∨ (fd.scope.names.lookup x = some .cell ∧ ((cellsFrom n fd.scope.names []).lookup x).isSome = true))
    (hnd : ((cellsFrom 0 fd.scope.names []).map (·.1)).Nodup) (hco : fd.scope.isCoroutine = false) (hgen : fd.scope.isGenerator = false) (hk : fd.scope.kind = .function)
    (h : ∀ B : Bd, B.W = W → B.k = k → EnvIs fd f B.env → TriX B [] (ps.zip args) body cls) : FnX W (k + 1) f args cls := by
  intro A h₀ L X s vs l Q E cn hl hX ra hE
  have gr := cn.here
  obtain ⟨o, ho, hdat, hcd⟩ := gr.defs f fd hd
  obtain ⟨A₀, base, outer, fenv, bl, hfr, hfL, hfk⟩ := cn.bel
  rw [hl] at hfr
  obtain rfl : l = fenv :: outer := Option.some.inj hfr
  obtain ⟨m, hm⟩ := cn.ns
  have F : Fr h₀ L s.heap m := ⟨hm, cn.keep, cn.above⟩
  have hB1 : Below A base (fenv :: outer) s.heap := by
    have hnew : base.get? L = none := by
      cases hq : base.get? L with
      | none => rfl
      | some o => exact absurd (Nat.lt_of_lt_of_le (Heap.lt_size (bl.stays L o hq)) F.above) (Nat.lt_irrefl _)
    exact ⟨hl, fun b o e => F.keep b o (bl.stays b o e), .cons (by rw [hfk]; decide) hfL F.ns hnew (bl.frames.of_keeps fun b o e _ => ⟨o, F.keep b o e, rfl⟩)⟩
  refine wpAny_call (call_core gr hB1 cn.hand cn.room cn.units ho hdat hcd hX ra hbody hclo hgl hbl hbind hps hlen hkind hnd hco hgen hk ?_)
  rintro B s₁ rfl rfl he hA hh₀ rfl hs₀ sat
  have hBf : B.A.frames = some (B.env :: fenv :: outer) := by rw [hA]; exact Around.frames_deeper hl
  have hBe : B.env.frame = some B.env.locals := by obtain ⟨L', e⟩ := he.is; rw [e]; rfl
  have hBk : B.env.scope.kind = .function := by obtain ⟨L', e⟩ := he.is; rw [e]; exact hk
  have F0 : s.heap.FunFrames (TI.gone s.heap (frs (fenv :: outer))) (fenv :: outer) := ff_base hB1.frames fun b hb => TI.gone_none hb
  have no : ∀ b, s.heap.get? b = none → (TI.gone s.heap (frs (fenv :: outer))).get? b = none := fun b hb => by
    cases q : (TI.gone s.heap (frs (fenv :: outer))).get? b with
    | none => rfl
    | some o => rw [gone_le b o q] at hb; cases hb
  have Lnew : ∀ {h : Heap}, Cn B.W B.k B.A B.h₀ B.env.locals h → s.heap.get? B.env.locals = none := fun c => by
    cases q : s.heap.get? B.env.locals with
    | none => rfl
    | some o => exact absurd (Heap.lt_size q) (Nat.not_lt.mpr (hh₀ ▸ c.above))
  have FF : ∀ {h : Heap}, Cn B.W B.k B.A B.h₀ B.env.locals h → h.FunFrames (TI.gone s.heap (frs (fenv :: outer))) (B.env :: fenv :: outer) := fun {h} c => by
    obtain ⟨m, hm⟩ := c.ns
    exact .cons (by rw [hBk]; decide) hBe hm (no _ (Lnew c)) (F0.of_keeps fun b o e _ => ⟨o, c.keep b o (hh₀ ▸ e), rfl⟩)
  refine h B rfl rfl he _ _ s₁ _ _ sat fun e s' rz => ?_
  cases rz with
  | made a h' tk vs' e1 e2 c mx =>
    subst e1
    have L1 : Le s.heap h' := fun b o e => c.keep b o (hh₀ ▸ e)
    refine wpAny_leaves_madeW hBf hBe (fun b o e => L1 b o (gone_le b o e)) (FF c) mx fun h'' t fl _ _ up => hE _ _ ⟨a, _, rfl, ⟨?_, fun b o e n => ?_, ?_⟩, fl⟩
    · exact ⟨h'', tk, by rw [e2, hs₀]⟩
    · exact fl.1 b o ((TI.gone_get n).trans e)
    · exact (Heap.UpToSlots.of_keeps L1).trans ((Heap.UpToSlots.of_keeps mx.keeps).trans up)
  | on s₂ fl sm c =>
    obtain ⟨a, a0, rfl, gx, f2⟩ := fl _ hBf
    have L1 : Le s.heap s₂.heap := fun b o e => c.keep b o (hh₀ ▸ e)
    have lb : Le (TI.gone s.heap (frs (fenv :: outer))) (TI.gone s₂.heap (frs (B.env :: fenv :: outer))) := fun b o e => by
      obtain ⟨n, e⟩ := TI.gone_some e
      rw [TI.gone_get]
      · exact L1 b o e
      · intro hm
        have hm' : b ∈ List.filterMap (·.frame) (B.env :: fenv :: outer) := hm
        rw [List.filterMap_cons, hBe] at hm'
        rcases List.mem_cons.mp hm' with q | q
        · rw [q, Lnew c] at e; cases e
        · exact n q
    refine wpAny_leaves_onW hBf hBe (fly_base f2 lb) fun h'' fl' up => hE _ _ ⟨a, a0, rfl, ⟨?_, fun b o e n => ?_, ?_⟩, fl'⟩
    · obtain ⟨h1, t1, q1⟩ := sm
      obtain ⟨h2, t2, q2⟩ := gx.same
      exact ⟨h'', t2, by rw [q2, q1, hs₀]⟩
    · exact fl'.1 b o ((TI.gone_get n).trans e)
    · exact (Heap.UpToSlots.of_keeps L1).trans (gx.up.trans up)

theorem fnx_def {W : Wd} {k : Nat} {f : Addr} {name : Str} {st : Stmt} {doc pm cdv ct : Value} {an : Option Addr} {ps : List Str} {args : List V} {cls : Value} (hd : W.defs f (fdOf name st doc pm an cdv ct))
    (hbind : ∀ vs, vs.length = ps.length → bindArgs (fdOf name st doc pm an cdv ct) ⟨vs, []⟩ = pure (ps.zip vs)) (hps : ps.Nodup) (hlen : args.length = ps.length)
    (hkind : ∀ n, ∀ x ∈ ps, (fnScope st).names.lookup x = some .local ∨ ((fnScope st).names.lookup x = some .cell ∧ ((cellsFrom n (fnScope st).names []).lookup x).isSome = true))
    (hnd : ((cellsFrom 0 (fnScope st).names []).map (·.1)).Nodup) (hco : (fnScope st).isCoroutine = false) (hgen : (fnScope st).isGenerator = false) (hk : (fnScope st).kind = .function)
    (h : ∀ A h₀ L X₀ s₀, TriX ⟨W, k, A, h₀, callEnvC (fdOf name st doc pm an cdv ct) L f, X₀, s₀⟩ [] (ps.zip args) (fnBody st) cls) : FnX W (k + 1) f args cls :=
  fnx_of hd rfl rfl rfl rfl hbind hps hlen hkind hnd hco hgen hk (by
    rintro ⟨W', k', A, h₀, env, X₀, s₀⟩ rfl rfl ⟨L, rfl⟩
    exact h A h₀ L X₀ s₀)

section
variable {W : Wd} {k : Nat} {A : Around} {h₀ : Heap} {L : Addr} {env : Env} {X Y : List Addr} {h : Heap}
theorem evx_call {fn : Expr} {es : List Expr} {e : Expr} {pos : Pos} {f : Addr} {fd : FuncData} {ds : List V} {cls : Value} (c : Cx W k A h₀ L env X h) (hf : EvV W A env h fn (.ref f)) (ha : EvA W A env X h pos (e :: es) ds) (hd : W.defs f fd) (hc : FnX W k f ds cls)
    (hs : starEach (e :: es) env = (false, eval e env) :: starEach es env := by rfl)
    (he : eval (.Call fn (e :: es) [] pos) env = (do callWith pos (← eval fn env) [] (backTo pos (starEach (e :: es) env)) (backToKw pos (keywordEach [] env))) := by rfl) : EvX W A env h (.Call fn (e :: es) [] pos) cls := fun s l Q E le hl g => by
  obtain ⟨o, ho, hdat, hcd⟩ := c.cn.here.defs f fd hd
  refine Call_ (hf s _ _ le fun s₁ g₁ => callWith_def hdat (ha s₁ _ _ (le.trans g₁.le) fun vs s₂ g₂ r₂ => ?_) hs) he
  have l₂ : Le h s₂.heap := le.trans (g₁.le.trans g₂.le)
  exact ⟨l₂ _ _ ho, hc A h₀ L X s₂ vs l Q E (c.cn.le l₂) hl (c.le l₂).xs r₂ fun e s' fl => g e s' (fl.before (g₁.trans g₂))⟩
end

/-- the function's own frame has got its slots -/
theorem Sat.gx {B : Bd} {Kp γ μ ρ s s'} (x : Sat B Kp γ μ ρ s) (g : Gx [B.env.locals] s s') : Sat B Kp γ μ ρ s' := by
  obtain ⟨⟨h', tk, rfl⟩, oth, up⟩ := g
  have hk : ∀ b o, b ≠ B.env.locals → s.heap.get? b = some o → h'.get? b = some o := fun b o n e => oth b o e (by simpa using n)
  obtain ⟨m₀, hm₀⟩ := x.cn.ns
  have sq : ∀ b o, s.heap.get? b = some o → IsSq o → h'.get? b = some o := fun b o e q => hk b o (fun z => ns_notSq hm₀ o (z ▸ e) q) e
  have mv : ∀ {X v d}, Rd X s.heap v d → Rd X h' v d := fun r => r.move fun b o e q hx => ⟨sq b o e q, hx⟩
  have mvA : ∀ {X v d}, RdA X s.heap v d → RdA X h' v d := fun r => r.move fun b o e q hx => ⟨sq b o e q, hx⟩
  have vr : ∀ {y v}, Var B.env s.heap y v → Var B.env h' y v := by
    rintro y v (⟨p, m, q, r⟩ | ⟨p, c, q, r⟩)
    · exact .inl ⟨p, m, up.ns q, r⟩
    · obtain ⟨o, e, hd⟩ := r
      exact .inr ⟨p, c, q, o, hk c o (x.wf.cl _ _ (mem_of_lookup q)) e, hd⟩
  refine ⟨x.wf, ⟨x.cn.gr, x.cn.bel, x.cn.above, x.cn.hand, x.cn.room, x.cn.units, fun b o e => ?_, ⟨m₀, up.ns hm₀⟩⟩, ?_, x.h₀kp, fun b o e => ?_, fun y c hm => ?_, fun q hq => mv (x.gam q hq), fun z d hz => ?_, fun q hq => ?_, x.nd⟩
  · exact hk b o (x.kp b o (x.h₀kp b o e)).2.1 (x.cn.keep b o e)
  · obtain ⟨h, t, e⟩ := x.same
    exact ⟨h', tk, by rw [e]⟩
  · have k := x.kp b o e
    exact ⟨hk b o k.2.1 k.1, k.2⟩
  · obtain ⟨v, o, e, hd⟩ := x.cells y c hm
    exact ⟨v, o, hk c o (x.wf.cl y c hm) e, hd⟩
  · obtain ⟨v, h1, h2⟩ := x.vars z d hz
    exact ⟨v, vr h1, mv h2⟩
  · obtain ⟨h1, h2, vs, n, h3, h4⟩ := x.muts q hq
    exact ⟨vr h1, h2, vs, n, sq _ _ h3 ⟨_, _, rfl⟩, mvA h4⟩
end Mine
namespace Mine
open PySem PySem.Calls PySem.Spec PyProof.Rows

section
variable {B : Bd} {μ : Mu} {ρ : Rho} {Post : Fl → Mu → Rho → Prop} {cls : Value}
/-- a try whose body does not raise -/
theorem tri_tryN {body : List Stmt} {h₀ : ExceptHandler} {hs : List ExceptHandler} {pos : Pos} (h : Tri B μ ρ body Post) : Tr1 B μ ρ (.Try body (h₀ :: hs) [] [] pos) Post := fun Kp γ s E y => by
  refine wpAny_Try_except (wpAny_mono (h Kp γ s _ y) (fun fl s' o => ?_) fun _ _ e => e)
  cases fl <;> first | exact wpAny_execs_nil o | exact o

/-- the clauses of a try in the law's own frame -/
def HdX (B : Bd) (μ : Mu) (ρ : Rho) (hs : List ExceptHandler) (cls : Value) (Post : Fl → Mu → Rho → Prop) : Prop :=
  ∀ Kp γ s₀ s E a a0, Sat B Kp γ μ ρ s₀ → Gx [B.env.locals] s₀ s → Heap.FlyingW (TI.gone s₀.heap [B.env.locals]) [B.env] a cls a0 s.heap → wpAny (model B.W.prog B.W.w) B.A (handleBy (.ref a) B.env hs) (Out B Kp γ Post) E s

theorem fly_gx {B : Bd} {s₀ s : Shared} {h' : Heap} {a : Addr} {a0 : Value} {L : List Env} (g : Gx [B.env.locals] s₀ s) (st : (TI.gone s₀.heap [B.env.locals]).StaysIn h') (up : s.heap.UpToSlots h') : Gx [B.env.locals] s₀ { s with heap := h' } := by
  obtain ⟨⟨h1, t1, rfl⟩, o, u⟩ := g
  exact ⟨⟨h', t1, rfl⟩, fun b o' e n => st b o' ((TI.gone_get n).trans e), u.trans up⟩

theorem tri_tryX {x : Str} {p apos pos : Pos} {e : Expr} {h₀ : ExceptHandler} {hs : List ExceptHandler} (hfr : B.A.frames = some [B.env]) (hf : B.env.frame = some B.env.locals) (he : ∀ Kp γ s, Sat B Kp γ μ ρ s → EvX B.W B.A B.env s.heap e cls) (hh : HdX B μ ρ (h₀ :: hs) cls Post)
    (hsw : swapsWith e (some (.Name x p)) apos.line B.env = pure false := by rfl) : Tr1 B μ ρ (.Try [.Assign [.Name x p] e apos] (h₀ :: hs) [] [] pos) Post := fun Kp γ s E y => by
  have hfs : frs [B.env] = [B.env.locals] := by show List.filterMap _ _ = _; rw [List.filterMap_cons, hf]; rfl
  refine wpAny_Try_except (wpAny_execs_cons (wpAny_Assign_Name (he Kp γ s y s _ _ _ (Le.refl _) hfr fun e' s₁ fl => ?_) hsw))
  obtain ⟨a, a0, rfl, gx, fw⟩ := fl
  rw [hfs] at gx fw
  refine wpAny_looks_onW hfr hf fw fun h₁ held up => wpAny_landsW held fun h₂ fw' up' => ?_
  exact hh Kp γ s _ E a a0 y (fly_gx (L := []) (a := a) (a0 := a0) (fly_gx (L := []) (a := a) (a0 := a0) gx held.1 up) fw'.1 up') fw'

/-- a built-in class that does not match -/
theorem hd_missB {T : String} {t : Str} {pt pos : Pos} {b₀ : Stmt} {suite : List Stmt} {rest : List ExceptHandler} {X : String} (hg : B.W.mg t = none) (hb : B.W.mb t = some (.type T)) (h3 : subB X (.type T) = some false) (hr : HdX B μ ρ rest (.type X) Post)
    (hx : B.env.kindOf t = some .globalImplicit := by rfl) (hd : (t == ("__debug__" : Str)) = false := by decide) (h1 : subB T (.type "BaseException") = some true := by decide +kernel) (h2 : subB ((Manifest.find? T).elim "type" fun y => y.metatype) (.type "tuple") = some false := by decide +kernel) :
    HdX B μ ρ (.ExceptHandler (some (.Name t pt)) none (b₀ :: suite) pos :: rest) (.type X) Post := fun Kp γ s₀ s E a a0 y gx fw => by
  have y' := y.gx gx
  refine wpAny_handleBy_builtin (X := X) (T := T) (b := false) (isSubtype_of_subB h1) (isSubtype_of_subB h2) (isSubtype_of_subB h3) ?_
  refine Name_function_global y'.wf.ek hx (loadGlobal_builtin (by rw [y'.wf.eg]; exact y'.cn.here.g) hg (by rw [y'.wf.eb]; exact y'.cn.here.b) hb ⟨rfl, ?_, ?_⟩) hd
  · obtain ⟨ob, h1, h2⟩ := fw.there
    exact ⟨ob, h1, h2⟩
  · exact hr Kp γ s₀ s E a a0 y gx fw

theorem run_suite {M : Model} {a : Addr} {A : Around} {x : Str} {px apos : Pos} {c : Expr} {d : V} {Kp γ s₀ s} {a0 : Value} {E : Value → Shared → Prop} (y : Sat B Kp γ μ ρ s₀) (gx : Gx [B.env.locals] s₀ s) (fw : Heap.FlyingW (TI.gone s₀.heap [B.env.locals]) [B.env] a cls a0 s.heap)
    (hx : B.env.kindOf x = some .local ∨ (B.env.kindOf x = some .cell ∧ (B.env.cells.lookup x).isSome = true)) (hc : ∀ (s : Shared) (Q E : Value → Shared → Prop), (∀ v s', Gw s s' → Rd (μ.at ++ B.X₀) s'.heap v d → Q v s') → wpAny M A (eval c B.env) Q E s)
    (h : Post .next μ ((x, d) :: ρ)) (hn : μ.names.contains x = false) (hs : swapsWith c (some (.Name x px)) apos.line B.env = pure false) :
    wpAny M A (setFlight (.ref a) none) (fun _ s₂ => wpAny M A (execs [.Assign [.Name x px] c apos] B.env) (Out B Kp γ Post) E s₂) E s := by
  refine lands_againW fw fun h' fw' up => ?_
  have y' := y.gx (fly_gx (L := []) (a := a) (a0 := a0) gx fw'.1 up)
  refine wpAny_execs_cons (wpAny_Assign_Name (hc _ _ _ fun v s' g r => ?_) hs)
  have y₂ := y'.gw g
  exact store_any y₂.wf.ek y₂.wf.apart y₂.wf.cl y₂.cn.ns y₂.cells hx fun h'' tk b st => wpAny_execs_nil ⟨.next, _, _, trivial, y₂.stored st r (notin hn), h⟩

/-- a built-in class that matches; the clause stores a constant -/
theorem hd_hitB {T : String} {t x : Str} {pt px apos pos : Pos} {c : Expr} {d : V} {rest : List ExceptHandler} {X : String} (hg : B.W.mg t = none) (hb : B.W.mb t = some (.type T)) (h3 : subB X (.type T) = some true)
    (hxk : B.env.kindOf x = some .local ∨ (B.env.kindOf x = some .cell ∧ (B.env.cells.lookup x).isSome = true)) (hc : ∀ (A : Around) (s : Shared) (Q E : Value → Shared → Prop), (∀ v s', Gw s s' → Rd (μ.at ++ B.X₀) s'.heap v d → Q v s') → wpAny (model B.W.prog B.W.w) A (eval c B.env) Q E s) (h : Post .next μ ((x, d) :: ρ))
    (hn : μ.names.contains x = false := by rfl) (hs : swapsWith c (some (.Name x px)) apos.line B.env = pure false := by rfl)
    (hx : B.env.kindOf t = some .globalImplicit := by rfl) (hd : (t == ("__debug__" : Str)) = false := by decide) (h1 : subB T (.type "BaseException") = some true := by decide +kernel) (h2 : subB ((Manifest.find? T).elim "type" fun y => y.metatype) (.type "tuple") = some false := by decide +kernel) :
    HdX B μ ρ (.ExceptHandler (some (.Name t pt)) none [.Assign [.Name x px] c apos] pos :: rest) (.type X) Post := fun Kp γ s₀ s E a a0 y gx fw => by
  have y' := y.gx gx
  refine wpAny_handleBy_builtin (X := X) (T := T) (b := true) (isSubtype_of_subB h1) (isSubtype_of_subB h2) (isSubtype_of_subB h3) ?_
  refine Name_function_global y'.wf.ek hx (loadGlobal_builtin (by rw [y'.wf.eg]; exact y'.cn.here.g) hg (by rw [y'.wf.eb]; exact y'.cn.here.b) hb ⟨rfl, ?_, ?_⟩) hd
  · obtain ⟨ob, h1, h2⟩ := fw.there
    exact ⟨ob, h1, h2⟩
  · exact run_suite y gx fw hxk (hc _) h hn hs

/-- a constant is evaluated anywhere -/
theorem any_bool {M : Model} {env : Env} {X : List Addr} {i : Bool} {n : Nat} {pos : Pos} : ∀ (A : Around) (s : Shared) (Q E : Value → Shared → Prop), (∀ v s', Gw s s' → Rd X s'.heap v (.bool i) → Q v s') → wpAny M A (eval (.Constant (.bool i) n pos) env) Q E s := fun A s Q E f => Constant_bool (f _ _ (Gw.refl s) (.bool _))
theorem any_str {M : Model} {env : Env} {X : List Addr} {i : Str} {n : Nat} {pos : Pos} : ∀ (A : Around) (s : Shared) (Q E : Value → Shared → Prop), (∀ v s', Gw s s' → Rd X s'.heap v (.str i) → Q v s') → wpAny M A (eval (.Constant (.str i) n pos) env) Q E s := fun A s Q E f => Constant_str (f _ _ (Gw.toks s _) (.str _ _))
theorem any_none {M : Model} {env : Env} {X : List Addr} {n : Nat} {pos : Pos} : ∀ (A : Around) (s : Shared) (Q E : Value → Shared → Prop), (∀ v s', Gw s s' → Rd X s'.heap v .none → Q v s') → wpAny M A (eval (.Constant .none n pos) env) Q E s := fun A s Q E f => Constant_none (f _ _ (Gw.refl s) .none)
end

section
variable {W : Wd} {k : Nat} {A : Around} {h₀ : Heap} {L : Addr} {env : Env} {X Y : List Addr} {h : Heap}
theorem foldl_app : ∀ (n : Nat) (l : List Value) (a : Array Value), List.foldl (fun x1 x2 => x1 ++ x2) a (List.replicate n l.toArray) = a ++ (List.replicate n l).flatten.toArray
  | 0, l, a => by simp
  | n + 1, l, a => by
    rw [List.replicate_succ, List.foldl_cons, foldl_app n l, List.replicate_succ, List.flatten_cons]
    simp
theorem RdA.rep {vs : List Value} {ds : List V} (r : RdA X h vs ds) : ∀ n : Nat, RdA X h (List.replicate n vs).flatten (List.replicate n ds).flatten
  | 0 => .nil
  | n + 1 => by rw [List.replicate_succ, List.replicate_succ, List.flatten_cons, List.flatten_cons]; exact r.append (RdA.rep r n)
/-- a list of one item, many times -/
theorem evf_mul {l r : Expr} {pos : Pos} {d : V} {x : Int} (c : Cx W k A h₀ L env X h) (hl : Ev W A env X h l (.lst [d])) (hr : Ev W A env [] h r (.int x)) (hlo : -(2 ^ 62) ≤ x) (hz : x ≤ 2 ^ 24) : EvF W A env X h (.BinOp l .Mult r pos) (List.replicate x.toNat d) := fun s Q E le f =>
  wpAny_BinOp (hl s _ _ le fun u s₁ g₁ r₁ => hr s₁ _ _ (le.trans g₁.le) fun v s₂ g₂ r₂ => by
    have r₁' := r₁.le g₂.le
    cases r₂ with
    | int _ tk =>
    cases r₁' with
    | @lst a vs n _ ea _ ra =>
    have hvl : vs.length = 1 := ra.length
    have hne : vs.toArray.isEmpty = false := by
      match vs, hvl with
      | [_], _ => rfl
    have hsz : vs.toArray.size * x.toNat ≤ 2 ^ 24 := by rw [List.size_toArray, hvl]; omega
    refine wpAny_binaryOp_repeat_ref (T := "list") (U := "int") (by decide) ⟨_, ea, rfl⟩ (fun s' => typeIs_int s' x tk) noFill_list_mul F.fills_int_mul F.slot_int_rmul repeat_list F.slot_int_index.lookup
      (call_meets F.slot_int_rmul (typeIs_int s₂ x tk) F.entry_int_rmul (F.args_int_rmul_2 _ _) (int___rmul___int_list x tk a vs.toArray n)
      ⟨ea, rfl, ⟨_, ea, rfl⟩, call_meets F.slot_list_mul ⟨_, ea, rfl⟩ F.entry_list_mul (F.args_list_mul_2 _ _)
        (AutoListH.list___mul___list_int_3 a vs.toArray n x tk (by simp [Builtin.List.listFitsIndex]; omega) (by omega) (by simp [Builtin.List.listTooLong, sizeLine]; rw [List.size_toArray] at hsz; omega))
        ⟨ea, ?_⟩⟩)
    rw [hne, foldl_app]
    have l2 : Le h s₂.heap := le.trans (g₁.le.trans g₂.le)
    have rr : RdA X s₂.heap (List.replicate x.toNat vs).flatten (List.replicate x.toNat d) := by
      have := ra.rep x.toNat
      rwa [show (List.replicate x.toNat [d]).flatten = List.replicate x.toNat d by simp] at this
    have e : (#[] : Array Value) ++ (List.replicate x.toNat vs).flatten.toArray = (List.replicate x.toNat vs).flatten.toArray := by simp
    simp only [Bool.false_eq_true, if_false]
    rw [e]
    exact f _ (List.replicate x.toNat vs).flatten 0 _ (g₁.trans (g₂.trans (Gw.push s₂ _))) (le_fresh (g := h) (g₁.le.trans g₂.le)) (Heap.get?_push_size _ rfl) (c.fresh l2) (rr.le (Le.push _)) (rr.past _))
end
end Mine
namespace Mine
open PySem PySem.Calls PySem.Spec PyProof.Rows

def zints (ns : List Int) : List V := ns.map .int
theorem ints_len (ns : List Int) : (zints ns).length = ns.length := List.length_map ..
theorem ints_get {ns : List Int} {i : Int} (h0 : 0 ≤ i) (h : i < ns.length) : (zints ns)[i.toNat]? = some (.int (ns.getD i.toNat 0)) := by
  unfold zints
  rw [List.getElem?_map, List.getD_eq_getElem?_getD, List.getElem?_eq_getElem (by omega)]; rfl
theorem cat_ints {a b : List Int} : zints a ++ zints b = zints (a ++ b) := (List.map_append ..).symm
theorem flat_ints {a : List Int} : ∀ x ∈ zints a, x.flat = true := fun x hx => by
  obtain ⟨i, _, rfl⟩ := List.mem_map.mp hx
  rfl
theorem ok_ints (ns : List Int) : V.ok 8 (.lst (zints ns)) = true := by
  simp only [V.ok, zints, List.all_map, List.all_eq_true]
  intro x _
  rfl

section
variable {B : Bd} {μ : Mu} {ρ : Rho} {Kp : Addr → Obj → Prop} {γ : List (Value × V)} {s : Shared}
/-- a call of a def of the program -/
theorem ev_fn {name : Str} {st : Stmt} {es : List Expr} {e : Expr} {p pos : Pos} {ds : List V} {d : V} {X : List Addr} (y : Sat B Kp γ μ ρ s) (H : HasDef B.W name st) (hc : ∀ f doc pm an cdv ct, B.W.defs f (fdOf name st doc pm an cdv ct) → FnC B.W B.k f ds d) (hX : ∀ a ∈ X, a ∈ μ.at ++ B.X₀) (ha : EvA B.W B.A B.env X s.heap pos (e :: es) ds)
    (hx : B.env.kindOf name = some .globalImplicit := by rfl) (hdb : (name == ("__debug__" : Str)) = false := by decide) (hs : starEach (e :: es) B.env = (false, eval e B.env) :: starEach es B.env := by rfl)
    (hev : eval (.Call (.Name name p) (e :: es) [] pos) B.env = (do callWith pos (← eval (.Name name p) B.env) [] (backTo pos (starEach (e :: es) B.env)) (backToKw pos (keywordEach [] B.env))) := by rfl) :
    Ev B.W B.A B.env X s.heap (.Call (.Name name p) (e :: es) [] pos) d := by
  obtain ⟨f, doc, pm, an, cdv, ct, h1, h2⟩ := H
  have cx := y.cx.sub hX
  exact ev_call cx (evv_glob cx h2 hx hdb) ha h1 (hc f doc pm an cdv ct h1) hs hev
theorem evx_fn {name : Str} {st : Stmt} {es : List Expr} {e : Expr} {p pos : Pos} {ds : List V} {cls : Value} {X : List Addr} (y : Sat B Kp γ μ ρ s) (H : HasDef B.W name st) (hc : ∀ f doc pm an cdv ct, B.W.defs f (fdOf name st doc pm an cdv ct) → FnX B.W B.k f ds cls) (hX : ∀ a ∈ X, a ∈ μ.at ++ B.X₀) (ha : EvA B.W B.A B.env X s.heap pos (e :: es) ds)
    (hx : B.env.kindOf name = some .globalImplicit := by rfl) (hdb : (name == ("__debug__" : Str)) = false := by decide) (hs : starEach (e :: es) B.env = (false, eval e B.env) :: starEach es B.env := by rfl)
    (hev : eval (.Call (.Name name p) (e :: es) [] pos) B.env = (do callWith pos (← eval (.Name name p) B.env) [] (backTo pos (starEach (e :: es) B.env)) (backToKw pos (keywordEach [] B.env))) := by rfl) :
    EvX B.W B.A B.env s.heap (.Call (.Name name p) (e :: es) [] pos) cls := by
  obtain ⟨f, doc, pm, an, cdv, ct, h1, h2⟩ := H
  have cx := y.cx.sub hX
  exact evx_call cx (evv_glob cx h2 hx hdb) ha h1 (hc f doc pm an cdv ct h1) hs hev
end
theorem sub_nil {X : List Addr} : ∀ a ∈ ([] : List Addr), a ∈ X := fun _ h => (nomatch h)
theorem sub_self {X : List Addr} : ∀ a ∈ X, a ∈ X := fun _ h => h
end Mine
namespace Mine
open PySem PySem.Calls PySem.Spec PyProof.Rows
set_option maxRecDepth 100000
namespace L6
abbrev st (i : Nat) : Stmt := (PySem.Challenge.pw_k19_0006.main.body).getD i (.Pass ⟨0, 0, 0, 0⟩)
def cell (ns : List Int) (i : Int) : Int := ns.getD i.toNat 0
structure Fns (W : Wd) : Prop where
  N : Std W
  ve : W.mg "ValueError" = none ∧ W.mb "ValueError" = some (.type "ValueError")
  cell : HasDef W "_law_cell" (st 3)
  size : HasDef W "_law_size" (st 4)
  fresh : HasDef W "fresh_memory" (st 1)

local macro_rules | `(tactic| walk_at "Mv") => `(tactic| first
  | exact ev_int | exact ev_none | exact ev_bool | exact ev_str
  | exact ev_nm (by assumption) (by rfl)
  | exact ev_rho (by assumption) (by rfl)
  | exact ev_rho0 (by assumption) (by rfl)
  | exact ev_mu0 (by assumption) (List.Mem.head _)
  | (refine ev_add ?_ ?_ <;> walk_at "Mv")
  | (refine ev_sub ?_ ?_ <;> walk_at "Mv")
  | (refine ev_mulL ?_ ?_ <;> walk_at "Mv")
  | (refine ev_mod ?_ ?_ <;> walk_at "Mv")
  | (refine ev_div ?_ ?_ <;> walk_at "Mv")
  | (refine ev_neg ?_ <;> walk_at "Mv")
  | (refine ev_ltI ?_ ?_ <;> walk_at "Mv")
  | (refine ev_abs (evv_built (Sat.cx (by assumption)) (Fns.N (by assumption)).abs.1 (Fns.N (by assumption)).abs.2) ?_; walk_at "Mv")
  | (refine ev_len (evv_built (Sat.cx (by assumption)) (Fns.N (by assumption)).len.1 (Fns.N (by assumption)).len.2) ?_ ?_; (walk_at "Mv"); (first | assumption | omega | (rw [ints_len]; omega))))
local macro_rules | `(tactic| walk_at "Mb") => `(tactic| first
  | (refine bt_eqI ?_ ?_ <;> walk_at "Mv")
  | (refine bt_neI ?_ ?_ <;> walk_at "Mv")
  | (refine bt_ltI ?_ ?_ <;> walk_at "Mv")
  | (refine bt_leI ?_ ?_ <;> walk_at "Mv")
  | (refine bt_gtI ?_ ?_ <;> walk_at "Mv")
  | (refine bt_geI ?_ ?_ <;> walk_at "Mv"))

theorem cell_c {W : Wd} {f : Addr} {doc pm cdv ct : Value} {an : Option Addr} {k : Nat} (F : Fns W) (hd : W.defs f (fdOf "_law_cell" (st 3) doc pm an cdv ct)) {ns : List Int} {i : Int} (h0 : 0 ≤ i) (hz : ns.length < 2 ^ 62) :
    FnC W (k + 1) f [.lst (zints ns), .int i] (.int (cell ns i)) := by
  refine fnc_def (ps := ["script", "i"]) hd ?_ (by decide) rfl ?_ (by decide) rfl rfl rfl ?_
  · intro vs hv
    match vs, hv with
    | [a, b], _ => rfl
  · intro n x hx
    simp only [List.mem_cons, List.not_mem_nil, or_false] at hx
    rcases hx with rfl | rfl <;> exact .inl rfl
  · intro A h₀ L X₀ s₀
    refine tri_cons (tri_if (b := decide (i < ((zints ns).length : Int))) (fun Kp γ s y => by walk_at "Mb") ?_)
    rw [ints_len]
    by_cases hi : i < (ns.length : Int)
    · rw [decide_eq_true hi]
      refine tri_cons (tri_ret (d := .int (cell ns i)) ?_ (.inl rfl))
      intro Kp γ s y
      refine ev_item (ds := zints ns) (j := i) ?_ ?_ h0 (ints_get h0 hi) (by omega)
      · walk_at "Mv"
      · walk_at "Mv"
    · rw [decide_eq_false hi]
      refine tri_nil (tri_cons (tri_ret (d := .int (cell ns i)) ?_ (.inl rfl)))
      intro Kp γ s y
      have : cell ns i = 0 := by unfold cell; rw [List.getD_eq_getElem?_getD, List.getElem?_eq_none (by omega)]; rfl
      rw [this]
      walk_at "Mv"

def size (ns : List Int) : Int := if cell ns 0 % 4 = 0 then cell ns 1 % 5 - 2 else if cell ns 0 % 4 = 1 then -((cell ns 1).natAbs : Int) else 1 + cell ns 1 % 48
theorem size_le (ns : List Int) : size ns ≤ 48 := by unfold size; split; omega; split <;> omega

theorem size_c {W : Wd} {f : Addr} {doc pm cdv ct : Value} {an : Option Addr} {k : Nat} (F : Fns W) (hd : W.defs f (fdOf "_law_size" (st 4) doc pm an cdv ct)) {ns : List Int} (hz : ns.length < 2 ^ 62) :
    FnC W (k + 1 + 1) f [.lst (zints ns)] (.int (size ns)) := by
  refine fnc_def (ps := ["script"]) hd ?_ (by decide) rfl ?_ (by decide) rfl rfl rfl ?_
  · intro vs hv
    match vs, hv with
    | [a], _ => rfl
  · intro n x hx
    simp only [List.mem_cons, List.not_mem_nil, or_false] at hx
    rcases hx with rfl <;> exact .inl rfl
  · intro A h₀ L X₀ s₀
    refine tri_cons (tri_assign (d := .int (cell ns 0 % 4)) (.inl rfl) (fun Kp γ s y => ev_mod (ev_fn (X := []) y F.cell (fun f doc pm an cdv ct h => cell_c F h (by decide) hz) sub_nil (eva_cons (by walk_at "Mv") (eva_cons (by walk_at "Mv") eva_nil))) ev_int) ?_)
    refine tri_cons (tri_assign (d := .int (cell ns 1)) (.inl rfl) (fun Kp γ s y => ev_fn y F.cell (fun f doc pm an cdv ct h => cell_c F h (by decide) hz) sub_self (eva_cons (by walk_at "Mv") (eva_cons (by walk_at "Mv") eva_nil))) ?_)
    refine tri_cons (tri_if (b := decide (cell ns 0 % 4 = 0)) (fun Kp γ s y => by walk_at "Mb") ?_)
    by_cases h1 : cell ns 0 % 4 = 0
    · rw [decide_eq_true h1]
      refine tri_cons (tri_ret (d := .int (size ns)) ?_ (.inl rfl))
      intro Kp γ s y
      rw [show size ns = cell ns 1 % 5 - 2 by unfold size; rw [if_pos h1]]
      walk_at "Mv"
    rw [decide_eq_false h1]
    refine tri_nil (tri_cons (tri_if (b := decide (cell ns 0 % 4 = 1)) (fun Kp γ s y => by walk_at "Mb") ?_))
    by_cases h2 : cell ns 0 % 4 = 1
    · rw [decide_eq_true h2]
      refine tri_cons (tri_ret (d := .int (size ns)) ?_ (.inl rfl))
      intro Kp γ s y
      rw [show size ns = -((cell ns 1).natAbs : Int) by unfold size; rw [if_neg h1, if_pos h2]]
      walk_at "Mv"
    rw [decide_eq_false h2]
    refine tri_nil (tri_cons (tri_ret (d := .int (size ns)) ?_ (.inl rfl)))
    intro Kp γ s y
    rw [show size ns = 1 + cell ns 1 % 48 by unfold size; rw [if_neg h1, if_neg h2]]
    walk_at "Mv"

def mem (n : Int) : List V := .int (-n) :: List.replicate (n - 1).toNat (.int 0)
theorem fresh_c {W : Wd} {f : Addr} {doc pm cdv ct : Value} {an : Option Addr} {k : Nat} (F : Fns W) (hd : W.defs f (fdOf "fresh_memory" (st 1) doc pm an cdv ct)) {n : Int} (h1 : 1 ≤ n) (h2 : n ≤ 48) :
    FnC W (k + 1) f [.int n] (.lst (mem n)) := by
  refine fnc_def (ps := ["size"]) hd ?_ (by decide) rfl ?_ (by decide) rfl rfl rfl ?_
  · intro vs hv
    match vs, hv with
    | [a], _ => rfl
  · intro n x hx
    simp only [List.mem_cons, List.not_mem_nil, or_false] at hx
    rcases hx with rfl <;> exact .inl rfl
  · intro A h₀ L X₀ s₀
    refine tri_cons (tri_if (b := decide (n < 1)) (fun Kp γ s y => by walk_at "Mb") ?_)
    rw [decide_eq_false (by omega)]
    refine tri_nil (tri_cons (tri_ret (d := .lst (mem n)) (fun Kp γ s y => ?_) (.inl rfl)))
    have hsl : (100 : Nat) ≤ sizeLine := by decide
    exact EvF.ev (evf_addX y.cx (EvF.ev (evf_list y.cx (eva_cons (by walk_at "Mv") eva_nil))) (EvF.ev (evf_mul y.cx (EvF.ev (evf_list y.cx (eva_cons (by walk_at "Mv") eva_nil))) (by walk_at "Mv") (by omega) (by omega))) (by simp; omega))
theorem fresh_x {W : Wd} {f : Addr} {doc pm cdv ct : Value} {an : Option Addr} {k : Nat} (F : Fns W) (hd : W.defs f (fdOf "fresh_memory" (st 1) doc pm an cdv ct)) {n : Int} (h1 : n < 1) :
    FnX W (k + 1) f [.int n] (.type "ValueError") := by
  refine fnx_def (ps := ["size"]) hd ?_ (by decide) rfl ?_ (by decide) rfl rfl rfl ?_
  · intro vs hv
    match vs, hv with
    | [a], _ => rfl
  · intro n x hx
    simp only [List.mem_cons, List.not_mem_nil, or_false] at hx
    rcases hx with rfl <;> exact .inl rfl
  · intro A h₀ L X₀ s₀
    refine trix_here (trx_if (b := decide (n < 1)) (fun Kp γ s y => by walk_at "Mb") ?_)
    rw [decide_eq_true h1]
    exact trix_here (trx_raiseB (X := []) PySem.F.excCall_ValueError PySem.F.excRaise_ValueError (fun Kp γ s y => evv_built y.cx F.ve.1 F.ve.2) (fun Kp γ s y => eva_cons ev_str eva_nil) (by decide))

theorem mem_get {n : Int} {j : Nat} (h : 1 ≤ n) (hj : (j : Int) < n) : ∃ i : Int, (mem n)[j]? = some (.int i) ∧ (0 < j → i = 0) ∧ (j = 0 → i = -n) := by
  unfold mem
  cases j with
  | zero => exact ⟨-n, rfl, fun h => absurd h (Nat.lt_irrefl _), fun _ => rfl⟩
  | succ j =>
    refine ⟨0, ?_, fun _ => rfl, fun h => by omega⟩
    rw [List.getElem?_cons_succ, List.getElem?_replicate, if_pos (by omega)]
theorem mem_len {n : Int} (h : 1 ≤ n) : ((mem n).length : Int) = n := by unfold mem; rw [List.length_cons, List.length_replicate]; omega

set_option maxHeartbeats 4000000 in
theorem law_t {W : Wd} {A : Around} {h₀ : Heap} {L f : Addr} {X₀ : List Addr} {s₀ : Shared} {k : Nat} {doc pm cdv ct : Value} {an : Option Addr} (F : Fns W) {ns : List Int} (hz : ns.length < 2 ^ 62) (hfr : A.frames = some [callEnvC (fdOf "law" (st 5) doc pm an cdv ct) L f]) :
    Tri ⟨W, k + 1 + 1, A, h₀, callEnvC (fdOf "law" (st 5) doc pm an cdv ct) L f, X₀, s₀⟩ [] [(("script" : Str), .lst (zints ns))] (fnBody (st 5)) fun fl _ _ => fl = .ret (.bool true) := by
  refine tri_cons (tri_assign (d := .int (size ns)) (.inl rfl) (fun Kp γ s y => ev_fn y F.size (fun f doc pm an cdv ct h => size_c F h hz) sub_self (eva_cons (by walk_at "Mv") eva_nil)) ?_)
  have hle := size_le ns
  generalize size ns = n at hle ⊢
  refine tri_cons (tri_assign (.inl rfl) (fun Kp γ s y => ev_none) ?_)
  refine tri_cons (tri_assign (.inl rfl) (fun Kp γ s y => ev_bool) ?_)
  by_cases h1 : n < 1
  · refine tri_cons (tri_tryX (cls := .type "ValueError") hfr rfl (fun Kp γ s y => evx_fn (X := []) y F.fresh (fun f doc pm an cdv ct h => fresh_x F h h1) sub_nil (eva_cons (by walk_at "Mv") eva_nil)) (hd_hitB (d := .bool true) F.ve.1 F.ve.2 (by decide +kernel) (.inl rfl) any_bool ?_))
    refine tri_cons (tri_if (b := decide (n < 1)) (fun Kp γ s y => by walk_at "Mb") ?_)
    rw [decide_eq_true h1]
    refine tri_cons (tri_if (b := false) (fun Kp γ s y => bt_not (b := true) (bt_val (by walk_at "Mv"))) ?_)
    exact tri_nil (tri_cons (tri_ret (fun Kp γ s y => ev_bool) rfl))
  · have h1' : 1 ≤ n := by omega
    refine tri_cons (tri_tryN (tri_cons (tri_assign (d := .lst (mem n)) (.inl rfl) (fun Kp γ s y => ev_fn y F.fresh (fun f doc pm an cdv ct h => fresh_c F h h1' hle) sub_self (eva_cons (by walk_at "Mv") eva_nil)) (tri_nil ?_))))
    refine tri_cons (tri_if (b := decide (n < 1)) (fun Kp γ s y => by walk_at "Mb") ?_)
    rw [decide_eq_false h1]
    refine tri_nil (tri_cons (tri_if (b := false) (fun Kp γ s y => bt_val (by walk_at "Mv")) ?_))
    refine tri_nil (tri_cons (tri_if (b := false) (fun Kp γ s y => bt_not (b := true) (bt_isT (n := "list") (m := "list") (ev_type (d := .lst (mem n)) (evv_built y.cx F.N.type.1 F.N.type.2) (by walk_at "Mv")) (ev_typ (evv_built y.cx F.N.list.1 F.N.list.2)))) ?_))
    have ml := mem_len h1'
    refine tri_nil (tri_cons (tri_if (b := decide (((mem n).length : Int) ≠ n)) (fun Kp γ s y => by walk_at "Mb") ?_))
    rw [decide_eq_false (by omega)]
    refine tri_nil (tri_cons (tri_forR (N := n) (X := []) (fun j μ ρ => ∃ ρ', ρ = ρ' ∧ μ = [] ∧ ρ.lookup ("got" : Str) = some (V.lst (mem n)) ∧ ρ.lookup ("size" : Str) = some (V.int n)) (.inl rfl) (fun Kp γ s y => evv_built y.cx F.N.range.1 F.N.range.2) (fun Kp γ s y => by walk_at "Mv") (by omega) (by omega) ⟨_, rfl, rfl, rfl, rfl⟩ ?_ ?_ ?_))
    · rintro i μ' ρ' ⟨_, rfl, rfl, _⟩
      rfl
    · rintro j μ' ρ' hj ⟨_, rfl, rfl, e1, e2⟩
      obtain ⟨i, q1, q2, q3⟩ := mem_get h1' (show (j : Int) < n by omega)
      have it : ∀ {Kp γ s p1 p2 p3}, Sat ⟨W, k + 1 + 1, A, h₀, callEnvC (fdOf "law" (st 5) doc pm an cdv ct) L f, X₀, s₀⟩ Kp γ [] ((("j" : Str), .int (j : Nat)) :: ρ') s → Ev W A (callEnvC (fdOf "law" (st 5) doc pm an cdv ct) L f) [] s.heap (.Subscript (.Name "got" p1) (.Name "j" p2) p3) (.int i) := fun y =>
        ev_item (ds := mem n) (j := (j : Int)) (ev_nm y e1) (ev_nm y rfl) (by omega) q1 (by omega)
      refine tri_cons (tri_if (b := false) (fun Kp γ s y => bt_not (b := true) (bt_isT (n := "int") (m := "int") (ev_type (d := .int i) (evv_built y.cx F.N.type.1 F.N.type.2) (it y)) (ev_typ (evv_built y.cx F.N.int.1 F.N.int.2)))) ?_)
      refine tri_nil (tri_cons (tri_if (b := (decide ((0 : Int) < (j : Int)) && (decide (i ≠ 0) && true))) (fun Kp γ s y => bt_and (bt_gtI (by walk_at "Mv") ev_int) fun _ => bt_and (bt_neI (it y) ev_int) fun _ => bt_and_nil) ?_))
      have : (decide ((0 : Int) < (j : Int)) && (decide (i ≠ 0) && true)) = false := by
        by_cases h0 : 0 < j
        · rw [q2 h0]; simp
        · simp; omega
      rw [this]
      exact tri_nil (tri_nil ⟨_, rfl, rfl, e1, e2⟩)
    · rintro m r ⟨_, rfl, rfl, e1, e2⟩
      obtain ⟨i, q1, q2, q3⟩ := mem_get (j := 0) h1' (by omega)
      refine tri_cons (tri_if (b := decide (i + n ≠ 0)) (fun Kp γ s y => bt_neI (ev_add (ev_item (ds := mem n) (j := 0) (ev_nm y e1) ev_int (by decide) q1 (by decide)) (ev_nm y e2)) ev_int) ?_)
      rw [q3 rfl, decide_eq_false (by omega)]
      exact tri_nil (tri_cons (tri_ret (fun Kp γ s y => ev_bool) rfl))
end L6
end Mine
open PySem PySem.W PyProof.Rows Mine Mine.L6 in
set_option maxRecDepth 100000 in
set_option maxHeartbeats 8000000 in
theorem PySem.Challenge.cw_k19_0006_holds : PySem.Challenge.rw_k19_0006.Holds := by
  w_on
  o_law
  k_head
  (case hw => w_witness2)
  k_fill
  intro w s₀ s₁ mg mb G Y fa o pm cd doc dV kV ho hd hcd hD hmg hg args vals as hpre hlay hrd hwl hlo
  have KX := kIn_of Y
  refine Ground.open G ?_
  intro T B D TE TW
  try (refine guard_noD D (by decide +kernel) ?_; clear D)
  wrow_args hpre hlay hrd hwl hlo
  first | refine callC_kw (enter_call ?_) | refine enter_call ?_ | refine callC_kw (enter_callW ?_) | refine enter_callW ?_ | w_how
  try refine codeAny_mono ?_ (fun _ _ g => GoodW.toG g)
  have hD1 := Dflts.none hD rfl
  have hD2 := Dflts.noKw hD
  subst hD1 hD2
  rename List Int => ns
  rename Well _ _ _ _ => wl
  rename ¬ _ < _ => hlen
  have hlen' : ns.length ≤ 63 := by omega
  have gr := gr_of (prog := PySem.Challenge.rw_k19_0006.row.prog) (w := w) KX T
  have N := std_of (prog := PySem.Challenge.rw_k19_0006.row.prog) (w := w) KX T (by k_is) (by k_is) (by k_is) (by k_is) (by k_is) (by k_is) (by k_is)
  have F' := @Fns.mk _ N
  have F := F' (built_of KX T (by k_is) (by first | exact boot_ValueError | rfl | decide +kernel))
    (by refine' hasDef_of KX T.g ?h1 ?h2 ?h3 ?h4; (case h1 => k_is); (case h2 => k_is); (case h3 => rfl); (case h4 => k_is))
    (by refine' hasDef_of KX T.g ?h1 ?h2 ?h3 ?h4; (case h1 => k_is); (case h2 => k_is); (case h3 => rfl); (case h4 => k_is))
    (by refine' hasDef_of KX T.g ?h1 ?h2 ?h3 ?h4; (case h1 => k_is); (case h2 => k_is); (case h3 => rfl); (case h4 => k_is))
  refine top_call (k := 2) (f := fa) (name := "law") (st := st 5) (doc := doc) (pm := pm) (an := none) (cdv := cd) (ct := .none) (ns := ns) (d := .bool true) gr (by decide) ho (by rw [hd]; rfl) hcd (rd_script wl) ?_ ?_ (by decide) rfl rfl rfl ?_ ?_
  · intro vs hv
    match vs, hv with
    | [a], _ => rfl
  · exact fun n => .inl rfl
  · intro A h₀ L X₀ s₀ hfr
    exact law_t F (by omega) hfr
  · intro v s' g r
    cases r
    exact ⟨.inl ⟨_, _, [], rfl, fun _ => rfl, .bool true, postW_of rfl (w_eq_bool (w_res rfl) w_lit) rfl, unshared_nil⟩, g.le, by obtain ⟨_, _, e⟩ := g.same; rw [e], by obtain ⟨_, _, e⟩ := g.same; rw [e]; exact hg⟩
