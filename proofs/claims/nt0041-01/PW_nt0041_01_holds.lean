import PyProof.Rows.All
import Wide.All
import OpenK.AllK
import Wide.FinOn
import PySem.Challenge.RW_nt0041_01
set_option Elab.async false
section
set_option Elab.async false
set_option linter.all false
set_option maxRecDepth 100000
set_option genSizeOf false
set_option genInjectivity false
namespace Mine
open PySem PySem.W PySem.Calls PyProof.Rows PySem.Spec

/-! mini values and the mini heap -/
inductive MV where
  | none
  | bool (b : Bool)
  | int (i : Int)
  | str (s : Str)
  | bytes (b : List UInt8)
  | tup (l : List MV)
  | loc (i : Nat)
  | raw (v : Value)
  | exc (C : Addr) (told : MV)
  | rng (n : Int)

inductive MObj where
  | list (l : List MV)
  | dict (kvs : List (Str × MV))
  | inst (C : Addr) (j : Nat)
  | ns (kvs : List (Str × MV))
  | cell (v : Option MV)

abbrev MH := Nat → Option MObj
noncomputable def upd (σ : MH) (l : Nat) (o : MObj) : MH := fun i => if i = l then some o else σ i
abbrev Loc := List (Str × Option MV)

structure Wd where
  as : List Addr
  im : List (Addr × Obj)
  hid : List (Addr × Obj)

structure Wd.le (W W' : Wd) : Prop where
  as : W.as <+: W'.as
  im : ∀ p ∈ W.im, p ∈ W'.im
  hid : W'.hid = W.hid

theorem Wd.le.refl (W : Wd) : W.le W := ⟨List.prefix_refl _, fun _ h => h, rfl⟩
theorem Wd.le.trans {W W' W'' : Wd} (a : W.le W') (b : W'.le W'') : W.le W'' := ⟨a.as.trans b.as, fun p h => b.im p (a.im p h), b.hid.trans a.hid⟩

mutual
inductive VRep (W : Wd) : MV → Value → Prop
  | none : VRep W .none .none
  | bool (b) : VRep W (.bool b) (.bool b)
  | int (i t) : VRep W (.int i) (.int i t)
  | str (s t) : VRep W (.str s) (.str s t)
  | bytes (b t) : VRep W (.bytes b) (.bytes b.toArray t)
  | tup {l vs n a} : (a, ({ cls := .type "tuple", data := .seq vs.toArray n } : Obj)) ∈ W.im → VReps W l vs → VRep W (.tup l) (.ref a)
  | loc {i a} : W.as[i]? = some a → VRep W (.loc i) (.ref a)
  | raw (v) : VRep W (.raw v) v
  | exc {C told e dx fs sl hs n v t} : (e, (⟨.ref C, some dx, .fields fs, sl⟩ : Obj)) ∈ W.im → (dx, dictOf [⟨hs, .str "told" t, v⟩] n) ∈ W.im → VRep W told v → VRep W (.exc C told) (.ref e)
  | rng {n a t u v} : (a, ({ cls := .type "range", dict := none, data := .fields #[.int 0 t, .int n u, .int 1 v], slots := #[] } : Obj)) ∈ W.im → VRep W (.rng n) (.ref a)
inductive VReps (W : Wd) : List MV → List Value → Prop
  | nil : VReps W [] []
  | cons {x v xs vs} : VRep W x v → VReps W xs vs → VReps W (x :: xs) (v :: vs)
end

theorem prefix_get {α : Type} {l l' : List α} (h : l <+: l') {i : Nat} {a : α} (e : l[i]? = some a) : l'[i]? = some a := by
  obtain ⟨t, rfl⟩ := h
  rw [List.getElem?_append_left (List.getElem?_eq_some_iff.mp e).1]; exact e

theorem VRep.mono {W W' : Wd} (h : W.le W') {x v} (q : VRep W x v) : VRep W' x v := by
  induction q using VRep.rec (motive_2 := fun xs vs _ => VReps W' xs vs) with
  | none => exact .none
  | bool b => exact .bool b
  | int i t => exact .int i t
  | str s t => exact .str s t
  | bytes b t => exact .bytes b t
  | tup m _ ih => exact .tup (h.im _ m) ih
  | loc e => exact .loc (prefix_get h.as e)
  | raw v => exact .raw v
  | exc a b _ ih => exact .exc (h.im _ a) (h.im _ b) ih
  | rng m => exact .rng (h.im _ m)
  | nil => exact .nil
  | cons _ _ i1 i2 => exact .cons i1 i2
theorem VRep.intv {W : Wd} {i v} (q : VRep W (.int i) v) : ∃ t, v = .int i t := by cases q; exact ⟨_, rfl⟩
theorem VRep.bytesv {W : Wd} {b v} (q : VRep W (.bytes b) v) : ∃ t, v = .bytes b.toArray t := by cases q; exact ⟨_, rfl⟩
theorem VRep.strv {W : Wd} {x v} (q : VRep W (.str x) v) : ∃ t, v = .str x t := by cases q; exact ⟨_, rfl⟩
theorem VRep.locv {W : Wd} {i v} (q : VRep W (.loc i) v) : ∃ a, v = .ref a ∧ W.as[i]? = some a := by cases q with | loc h => exact ⟨_, rfl, h⟩
theorem VRep.tupv {W : Wd} {l v} (q : VRep W (.tup l) v) : ∃ vs n a, v = .ref a ∧ (a, ({ cls := .type "tuple", data := .seq vs.toArray n } : Obj)) ∈ W.im ∧ VReps W l vs := by cases q with | tup m r => exact ⟨_, _, _, rfl, m, r⟩
theorem VRep.rngv {W : Wd} {n v} (q : VRep W (.rng n) v) : ∃ a t u w, v = .ref a ∧ (a, ({ cls := .type "range", dict := Option.none, data := .fields #[.int 0 t, .int n u, .int 1 w], slots := #[] } : Obj)) ∈ W.im := by cases q with | rng m => exact ⟨_, _, _, _, rfl, m⟩
theorem VReps.mono {W W' : Wd} (h : W.le W') : ∀ {xs vs}, VReps W xs vs → VReps W' xs vs := by
  intro xs
  induction xs with
  | nil => intro vs q; cases q; exact .nil
  | cons x xs ih =>
    intro vs q
    cases q with
    | cons a b => exact .cons (a.mono h) (ih b)

inductive KVs (W : Wd) : List (Str × MV) → List (Str × Value) → Prop
  | nil : KVs W [] []
  | cons {k x v xs vs} : VRep W x v → KVs W xs vs → KVs W ((k, x) :: xs) ((k, v) :: vs)
inductive Ents (W : Wd) : List (Str × MV) → List DictEntry → Prop
  | nil : Ents W [] []
  | cons {k x v hs t xs es} : VRep W x v → Ents W xs es → Ents W ((k, x) :: xs) (⟨hs, .str k t, v⟩ :: es)
theorem KVs.mono {W W' : Wd} (h : W.le W') {xs vs} (q : KVs W xs vs) : KVs W' xs vs := by
  induction q with
  | nil => exact .nil
  | cons a _ ih => exact .cons (a.mono h) ih
theorem Ents.mono {W W' : Wd} (h : W.le W') {xs vs} (q : Ents W xs vs) : Ents W' xs vs := by
  induction q with
  | nil => exact .nil
  | cons a _ ih => exact .cons (a.mono h) ih

structure Gl where
  prog : Program
  w : World
  K : Frag
  p : Program
  loose : List Str
  mean : ExcName → Option Value
  mg : Str → Option Value
  mb : Str → Option Value

abbrev Gl.M (G : Gl) : Model := model G.prog G.w

inductive ORep (G : Gl) (W : Wd) : MObj → Obj → Prop
  | list {l vs n} : VReps W l vs → l.length ≤ 65536 → ORep G W (.list l) (listOf vs.toArray n)
  | dict {kvs vs o} : KVs W kvs vs → o.IsDictOf (strKind G.prog G.w) vs → (kvs.map (·.1)).Nodup → kvs.length ≤ 64 → ORep G W (.dict kvs) o
  | inst {C j dx} : W.as[j]? = some dx → ORep G W (.inst C j) (instObj C dx)
  | ns {kvs es n} : Ents W kvs es → (kvs.map (·.1)).Nodup → kvs.length ≤ 64 → ORep G W (.ns kvs) (dictOf es n)
  | cell {x v o} : VRep W x v → o.data = .cell (some v) → ORep G W (.cell (some x)) o
  | cell0 {o} : o.data = .cell none → ORep G W (.cell none) o

theorem ORep.mono {G : Gl} {W W' : Wd} (h : W.le W') {o ob} (q : ORep G W o ob) : ORep G W' o ob := by
  cases q with
  | list a b => exact .list (a.mono h) b
  | dict a b c d => exact .dict (a.mono h) b c d
  | inst a => exact .inst (prefix_get h.as a)
  | ns a b c => exact .ns (a.mono h) b c
  | cell a b => exact .cell (a.mono h) b
  | cell0 b => exact .cell0 b

inductive ObjAt (G : Gl) (W : Wd) (led : List (Addr × Obj)) (i : Nat) (o : MObj) : Prop
  | mk (a : Addr) (ob : Obj) (h1 : W.as[i]? = some a) (h2 : (a, ob) ∈ led) (h3 : ORep G W o ob) : ObjAt G W led i o
structure Mem (G : Gl) (W : Wd) (σ : MH) (led : List (Addr × Obj)) : Prop where
  nd : (W.as ++ (W.im.map (·.1) ++ W.hid.map (·.1))).Nodup
  obj : ∀ i o, σ i = some o → ObjAt G W led i o
  off : ∀ i, W.as.length ≤ i → σ i = none
  on : ∀ i, i < W.as.length → (σ i).isSome = true
  im : ∀ p ∈ W.im, p ∈ led
  hid : ∀ p ∈ W.hid, p ∈ led

structure Fx where
  name : Str
  scope : Scope
  n : Nat
  tr : Bool
  hd : Bool
  top : Bool
  cl : List (Str × Addr)
  cells : List (Str × MV)

structure Cx where
  dp : Nat
  un : Nat
  gd : Option (List Code)
  hdv : Option Value
  L : Addr
  a : Addr
  cd : Value
  outer : List Env
  A₀ : Around
  base : Heap
  h₀ : Heap

abbrev Cx.env (F : Fx) (C : Cx) : Env := envX F.name F.scope C.L C.a C.cd F.cl
abbrev Cx.A (F : Fx) (C : Cx) : Around := { handled := C.hdv, depth := C.dp, frames := some (C.env F :: C.outer), guards := C.gd, units := C.un }

structure COk (G : Gl) (F : Fx) (C : Cx) : Prop where
  kind : F.scope.kind = .function
  below : Below C.A₀ C.base C.outer C.h₀
  inK : G.K.In C.h₀
  top : Top G.p G.loose G.mean G.mg G.mb C.h₀
  room : C.dp + F.n < recursionLimit
  units : C.un + 8 * F.n + 8 < cLine
  hd : F.hd = false → C.hdv = Option.none
  top0 : F.top = true → C.outer = [] ∧ C.base = C.h₀

structure LRep (W : Wd) (F : Fx) (ρ : Loc) (m : Str → Option Value) : Prop where
  nd : (ρ.map (·.1)).Nodup
  kind : ∀ p ∈ ρ, F.scope.names.lookup p.1 = some .local ∧ (p.1 == ("__debug__" : Str)) = false
  val : ∀ x mv, (x, some mv) ∈ ρ → ∃ v, m x = some v ∧ VRep W mv v
  cells : ∀ p ∈ F.cells, ∃ c o v, F.cl.lookup p.1 = some c ∧ (c, o) ∈ W.im ∧ o.data = .cell (some v) ∧ VRep W p.2 v

theorem LRep.mono {W W' : Wd} {F ρ m} (h : W.le W') (l : LRep W F ρ m) : LRep W' F ρ m :=
  ⟨l.nd, l.kind, fun x mv e => (by obtain ⟨v, a, b⟩ := l.val x mv e; exact ⟨v, a, b.mono h⟩), fun p hp => (by obtain ⟨c, o, v, e1, e2, e3, e4⟩ := l.cells p hp; exact ⟨c, o, v, e1, h.im _ e2, e3, e4.mono h⟩)⟩

/-- one case to open, where a chain of ∃ and ∧ would have six -/
inductive StEx (G : Gl) (F : Fx) (C : Cx) (W : Wd) (ρ : Loc) (σ : MH) (s : Shared) : Prop
  | mk (m : Str → Option Value) (led : List (Addr × Obj)) (hF : Fr C.h₀ C.L s.heap m) (hN : News C.h₀ C.L s.heap led) (hl : LRep W F ρ m) (hm : Mem G W σ led) : StEx G F C W ρ σ s
structure St (G : Gl) (F : Fx) (C : Cx) (W : Wd) (ρ : Loc) (σ : MH) (s : Shared) : Prop where
  ok : COk G F C
  ex : StEx G F C W ρ σ s

structure Same (s s' : Shared) : Prop where
  gens : s'.gens = s.gens
  drawn : s'.drawn = s.drawn
  os : s'.os = s.os
theorem Same.refl (s : Shared) : Same s s := ⟨rfl, rfl, rfl⟩
theorem Same.trans {a b c : Shared} (x : Same a b) (y : Same b c) : Same a c := ⟨y.gens.trans x.gens, y.drawn.trans x.drawn, y.os.trans x.os⟩
theorem Same.of (s : Shared) (h : Heap) (t : Nat) : Same s { s with heap := h, toks := t } := ⟨rfl, rfl, rfl⟩

structure MX where
  C : Addr
  told : MV

/-- the exception's dict and its told -/
inductive XIn (W : Wd) (x : MX) (dx : Addr) : Prop
  | mk (hs : Int) (t : Nat) (v : Value) (n : Nat) (h1 : (dx, dictOf [⟨hs, .str "told" t, v⟩] n) ∈ W.im) (h2 : VRep W x.told v) : XIn W x dx

inductive FreshX (G : Gl) (F : Fx) (C : Cx) (W : Wd) (x : MX) (σ : MH) (e : Value) (s' : Shared) : Prop
  | mk (ea dx : Addr) (vs : Array Value) (sl : Array (Option Value)) (a0 : Value) (m : Str → Option Value) (led : List (Addr × Obj)) (h1 : e = .ref ea) (h2 : Fr C.h₀ C.L s'.heap m) (h3 : News C.h₀ C.L s'.heap led) (h4 : Mem G W σ led) (h5 : XIn W x dx)
    (h6 : s'.heap.get? ea = some ⟨.ref x.C, some dx, .fields vs, sl⟩ ∧ vs[1]? = some .none ∧ vs[0]? = some a0 ∧ C.h₀.get? ea = none ∧ ea ≠ C.L ∧ ea ∉ led.map (·.1)) : FreshX G F C W x σ e s'

noncomputable def FlyD (B : Heap) (l : List Env) (e c dx : Addr) (h : Heap) : Prop := (∃ a0, Heap.FlyingW B l e (.ref c) a0 h) ∧ ∃ o, h.get? e = some o ∧ o.dict = some dx

inductive FlownX (G : Gl) (F : Fx) (C : Cx) (W : Wd) (x : MX) (σ : MH) (e : Value) (s' : Shared) : Prop
  | mk (ea dx : Addr) (g₂ : Heap) (m : Str → Option Value) (led : List (Addr × Obj)) (B : Heap) (h1 : e = .ref ea) (h2 : Fr C.h₀ C.L g₂ m) (h3 : g₂.UpToSlots s'.heap) (h4 : C.base.StaysIn B) (h5 : ∀ q ∈ led, B.get? q.1 = some q.2 ∧ C.base.get? q.1 = none) (h6 : Mem G W σ led) (h7 : XIn W x dx)
    (h8 : FlyD B (C.env F :: C.outer) ea x.C dx s'.heap) : FlownX G F C W x σ e s'

noncomputable def StX (G : Gl) (F : Fx) (C : Cx) (W : Wd) (x : MX) (σ : MH) (e : Value) (s' : Shared) : Prop :=
  COk G F C ∧ ((F.tr = false ∧ FreshX G F C W x σ e s') ∨ FlownX G F C W x σ e s')

noncomputable def EOk (G : Gl) (F : Fx) (C : Cx) (EE : Value → Shared → Prop) : Prop := F.tr = false → PassesOwn G.M (C.A F) (C.env F) EE

noncomputable def Post {α β : Type} (G : Gl) (F : Fx) (C : Cx) (W : Wd) (s : Shared) (rel : Wd → β → α → Prop) (ρ : Loc) (Q : β → MH → Prop) (QQ : α → Shared → Prop) : Prop :=
  ∀ W' b σ' a s', W.le W' → Same s s' → Q b σ' → rel W' b a → St G F C W' ρ σ' s' → QQ a s'
noncomputable def PostX (G : Gl) (F : Fx) (C : Cx) (W : Wd) (s : Shared) (X : MX → MH → Prop) (EE : Value → Shared → Prop) : Prop :=
  ∀ W' x σ' e s', W.le W' → Same s s' → X x σ' → StX G F C W' x σ' e s' → EE e s'

theorem Post.from {α β : Type} {G : Gl} {F : Fx} {C : Cx} {W W' : Wd} {s s' : Shared} {rel : Wd → β → α → Prop} {ρ : Loc} {Q : β → MH → Prop} {QQ : α → Shared → Prop}
    (p : Post G F C W s rel ρ Q QQ) (h : W.le W') (hs : Same s s') : Post G F C W' s' rel ρ Q QQ := fun W'' b σ' a s'' h' hs' q r st => p W'' b σ' a s'' (h.trans h') (hs.trans hs') q r st
theorem PostX.from {G : Gl} {F : Fx} {C : Cx} {W W' : Wd} {s s' : Shared} {X : MX → MH → Prop} {EE : Value → Shared → Prop}
    (p : PostX G F C W s X EE) (h : W.le W') (hs : Same s s') : PostX G F C W' s' X EE := fun W'' b σ' a s'' h' hs' q st => p W'' b σ' a s'' (h.trans h') (hs.trans hs') q st

/-- a tree of the model at a mini state -/
noncomputable def HT {α β : Type} (G : Gl) (F : Fx) (ρ : Loc) (σ : MH) (t : Cx → Sem α) (rel : Wd → β → α → Prop) (Q : β → MH → Prop) (X : MX → MH → Prop) : Prop :=
  ∀ C W s QQ EE, St G F C W ρ σ s → EOk G F C EE → Post G F C W s rel ρ Q QQ → PostX G F C W s X EE → wpAny G.M (C.A F) (t C) QQ EE s

noncomputable def HE (G : Gl) (F : Fx) (ρ : Loc) (σ : MH) (e : Expr) (Q : MV → MH → Prop) (X : MX → MH → Prop) : Prop := HT G F ρ σ (fun C => eval e (C.env F)) VRep Q X
noncomputable def BRep (_ : Wd) (b : Bool) (c : Bool) : Prop := c = b
noncomputable def HB (G : Gl) (F : Fx) (ρ : Loc) (σ : MH) (e : Expr) (Q : Bool → MH → Prop) (X : MX → MH → Prop) : Prop := HT G F ρ σ (fun C => isTrue e (C.env F) (eval e (C.env F))) BRep Q X
/-- arguments, items -/
noncomputable def HA (G : Gl) (F : Fx) (ρ : Loc) (σ : MH) (es : List Expr) (Q : List MV → MH → Prop) (X : MX → MH → Prop) : Prop :=
  ∀ pos, HT G F ρ σ (fun C => spliced (backTo pos (starEach es (C.env F)))) VReps Q X

inductive MFlow where
  | next | brk | cont | ret (v : MV)
inductive FlRep (W : Wd) : MFlow → Flow → Prop
  | next : FlRep W .next .next
  | brk : FlRep W .brk .brk
  | cont : FlRep W .cont .cont
  | ret {x v} : VRep W x v → FlRep W (.ret x) (.ret v)

noncomputable def HS (G : Gl) (F : Fx) (ρ : Loc) (σ : MH) (ss : List Stmt) (Q : MFlow → Loc → MH → Prop) (X : MX → MH → Prop) : Prop :=
  ∀ C W s QQ EE, St G F C W ρ σ s → EOk G F C EE →
    (∀ W' fl ρ' σ' f s', W.le W' → Same s s' → Q fl ρ' σ' → FlRep W' fl f → St G F C W' ρ' σ' s' → QQ f s') → PostX G F C W s X EE → wpAny G.M (C.A F) (execs ss (C.env F)) QQ EE s

noncomputable def HC (G : Gl) (n : Nat) (f : Value) (vs : List MV) (σ : MH) (Q : MV → MH → Prop) (X : MX → MH → Prop) : Prop :=
  ∀ F C W ρ s av QQ EE, n ≤ F.n → F.hd = false → St G F C W ρ σ s → VReps W vs av → Post G F C W s VRep ρ Q QQ →
    (∀ W' x σ' e s', W.le W' → Same s s' → X x σ' → COk G F C → FlownX G F C W' x σ' e s' → EE e s') → wpAny G.M (C.A F) (call f av) QQ EE s

theorem HC.mono {G : Gl} {n n' : Nat} {f vs σ} {Q : MV → MH → Prop} {X : MX → MH → Prop} (h : HC G n f vs σ Q X) (hn : n ≤ n') : HC G n' f vs σ Q X :=
  fun F C W ρ s av QQ EE hF => h F C W ρ s av QQ EE (Nat.le_trans hn hF)
theorem HT.weaken {α β : Type} {G : Gl} {F : Fx} {ρ : Loc} {σ : MH} {t : Cx → Sem α} {rel : Wd → β → α → Prop} {Q Q' : β → MH → Prop} {X X' : MX → MH → Prop} (h : HT G F ρ σ t rel Q X)
    (hq : ∀ b σ', Q b σ' → Q' b σ') (hx : ∀ x σ', X x σ' → X' x σ') : HT G F ρ σ t rel Q' X' :=
  fun C W s QQ EE st eo p px => h C W s QQ EE st eo (fun W' b σ' a s' h1 h2 q r st => p W' b σ' a s' h1 h2 (hq _ _ q) r st) fun W' x σ' e s' h1 h2 q st => px W' x σ' e s' h1 h2 (hx _ _ q) st

/-! moving the state -/
theorem St.push {G F C W ρ σ s s'} (st : St G F C W ρ σ s) (hk : ∀ b o, s.heap.get? b = some o → s'.heap.get? b = some o) : St G F C W ρ σ s' := by
  obtain ⟨m, led, hF, hN, hl, hm⟩ := st.ex
  exact ⟨st.ok, m, led, hF.keeps hk, hN.grown hk, hl, hm⟩
theorem St.toks {G F C W ρ σ s s'} (st : St G F C W ρ σ s) (e : s'.heap = s.heap) : St G F C W ρ σ s' := st.push fun b o h => by rw [e]; exact h

section
variable {G : Gl} {F : Fx} {ρ : Loc} {σ : MH} {Q : MV → MH → Prop} {X : MX → MH → Prop}

theorem he_loc {x : Str} {mv : MV} {pos : Pos} (hx : (x, some mv) ∈ ρ) (h : Q mv σ) : HE G F ρ σ (.Name x pos) Q X := by
  intro C W s QQ EE st eo p px
  obtain ⟨m, led, hF, hN, hl, hm⟩ := st.ex
  obtain ⟨v, hv, hr⟩ := hl.val x mv hx
  have hk := hl.kind _ hx
  exact nameX_L hF hv (p W mv σ v s (.refl W) (.refl s) h hr st) st.ok.kind hk.1 hk.2

theorem he_none {k pos} (h : Q .none σ) : HE G F ρ σ (.Constant .none k pos) Q X := fun C W s QQ EE st eo p px => Constant_none (p W _ σ _ s (.refl W) (.refl s) h .none st)
theorem he_bool {b k pos} (h : Q (.bool b) σ) : HE G F ρ σ (.Constant (.bool b) k pos) Q X := fun C W s QQ EE st eo p px => Constant_bool (p W _ σ _ s (.refl W) (.refl s) h (.bool b) st)
theorem he_int {i k pos} (h : Q (.int i) σ) : HE G F ρ σ (.Constant (.int i) k pos) Q X := fun C W s QQ EE st eo p px => wpAny_Constant_int (p W _ σ _ _ (.refl W) (Same.of s s.heap _) h (.int i _) (st.toks rfl))
theorem he_str {i k pos} (h : Q (.str i) σ) : HE G F ρ σ (.Constant (.str i) k pos) Q X := fun C W s QQ EE st eo p px => wpAny_Constant_str (p W _ σ _ _ (.refl W) (Same.of s s.heap _) h (.str i _) (st.toks rfl))
theorem he_bytes {i k pos} (h : Q (.bytes i) σ) : HE G F ρ σ (.Constant (.bytes i) k pos) Q X := fun C W s QQ EE st eo p px => PySem.W.Constant_bytes (p W _ σ _ _ (.refl W) (Same.of s s.heap _) h (.bytes i _) (st.toks rfl))

end
end Mine
end
section
set_option Elab.async false
set_option linter.all false
set_option maxRecDepth 100000
set_option genSizeOf false
set_option genInjectivity false
namespace Mine
open PySem PySem.W PySem.Calls PyProof.Rows PySem.Spec

noncomputable def PV (G : Gl) (F : Fx) (ρ : Loc) (σ : MH) (e : Expr) (v : MV) : Prop := ∀ (Q : MV → MH → Prop) (X : MX → MH → Prop), Q v σ → HE G F ρ σ e Q X
noncomputable def PB (G : Gl) (F : Fx) (ρ : Loc) (σ : MH) (e : Expr) (b : Bool) : Prop := ∀ (Q : Bool → MH → Prop) (X : MX → MH → Prop), Q b σ → HB G F ρ σ e Q X
noncomputable def PC (G : Gl) (n : Nat) (f : Value) (vs : List MV) (σ : MH) (v : MV) : Prop := ∀ (Q : MV → MH → Prop) (X : MX → MH → Prop), Q v σ → HC G n f vs σ Q X

theorem he_pv {G F ρ σ e v} {Q : MV → MH → Prop} {X : MX → MH → Prop} (h : PV G F ρ σ e v) (q : Q v σ) : HE G F ρ σ e Q X := h Q X q
theorem hb_pb {G F ρ σ e v} {Q : Bool → MH → Prop} {X : MX → MH → Prop} (h : PB G F ρ σ e v) (q : Q v σ) : HB G F ρ σ e Q X := h Q X q

/-! operators on plain values -/
inductive Bin : Operator → MV → MV → MV → Prop
  | add (a b) : Bin .Add (.int a) (.int b) (.int (a + b))
  | sub (a b) : Bin .Sub (.int a) (.int b) (.int (a - b))
  | mul {a b : Int} (h : -(2 ^ 64) < b ∧ b < 2 ^ 64) : Bin .Mult (.int a) (.int b) (.int (a * b))
  | div {a b : Int} (h : 0 < b ∧ b < 2 ^ 20 ∧ -(2 ^ 60) < a ∧ a < 2 ^ 60) : Bin .FloorDiv (.int a) (.int b) (.int (a / b))
  | mod {a b : Int} (h : 0 < b) : Bin .Mod (.int a) (.int b) (.int (a % b))
  | bytes {a b : List UInt8} (h : a.length + b.length ≤ 16777216) : Bin .Add (.bytes a) (.bytes b) (.bytes (a ++ b))

theorem bin_ok {G : Gl} {A : Around} {E : Value → Shared → Prop} {s : Shared} {op x y z vx vy} {W : Wd} {QQ : Value → Shared → Prop} (h : Bin op x y z) (hx : VRep W x vx) (hy : VRep W y vy)
    (q : ∀ vz s', s'.heap = s.heap → Same s s' → VRep W z vz → QQ vz s') : wpAny G.M A (binaryOp op vx vy) QQ E s := by
  cases h with
  | add => obtain ⟨_, rfl⟩ := hx.intv; obtain ⟨_, rfl⟩ := hy.intv; exact PyProof.Rows.add_int (q _ _ rfl (Same.of s s.heap _) (.int _ _))
  | sub => obtain ⟨_, rfl⟩ := hx.intv; obtain ⟨_, rfl⟩ := hy.intv; exact PyProof.Rows.sub_int (q _ _ rfl (Same.of s s.heap _) (.int _ _))
  | mul h => obtain ⟨_, rfl⟩ := hx.intv; obtain ⟨_, rfl⟩ := hy.intv; exact PyProof.Rows.mul_int (q _ _ rfl (Same.of s s.heap _) (.int _ _)) (IntMulOk.of_right (intBits_le_64 h.1 h.2))
  | div h =>
    rename_i a b
    obtain ⟨_, rfl⟩ := hx.intv; obtain ⟨_, rfl⟩ := hy.intv
    refine PyProof.Rows.floordiv_int (by omega) ?_ (Or.inl (PyProof.noPylong_small (by omega)))
    have e : a.fdiv b = a / b := Int.fdiv_eq_ediv_of_nonneg a (by omega)
    rw [e]
    exact q _ _ rfl (Same.of s s.heap _) (.int _ _)
  | mod h =>
    rename_i a b
    obtain ⟨_, rfl⟩ := hx.intv; obtain ⟨_, rfl⟩ := hy.intv
    refine PyProof.Rows.mod_int' (by omega) ?_
    have e : a.fmod b = a % b := Int.fmod_eq_emod_of_nonneg a (by omega)
    rw [e]
    exact q _ _ rfl (Same.of s s.heap _) (.int _ _)
  | bytes h =>
    rename_i a b
    obtain ⟨_, rfl⟩ := hx.bytesv; obtain ⟨_, rfl⟩ := hy.bytesv
    refine KBy.add_bytes (by simpa using h) fun t' k => ?_
    have := q (.bytes (a ++ b).toArray t') { s with toks := k } rfl (Same.of s s.heap _) (.bytes _ t')
    rw [← List.append_toArray] at this
    exact this

noncomputable def isNone : MV → Bool
  | .none => true
  | _ => false
noncomputable def noRaw : MV → Bool
  | .raw _ => false
  | _ => true

/-- what a mini value reads as -/
inductive DRep (σ : MH) : MV → PyData → Prop
  | none : DRep σ .none .none
  | bool (b) : DRep σ (.bool b) (.bool b)
  | int (i) : DRep σ (.int i) (.int i)
  | tupN : DRep σ (.tup [.none]) (.tuple [.none])
  | tupI (i) : DRep σ (.tup [.int i]) (.tuple [.int i])
  | ints {l} {ns : List Int} : σ l = some (.list (ns.map MV.int)) → DRep σ (.loc l) (.list (ns.map PyData.int))

inductive Cmp (σ : MH) : CmpOp → MV → MV → Bool → Prop
  | lt (a b) : Cmp σ .Lt (.int a) (.int b) (decide (a < b))
  | le (a b) : Cmp σ .LtE (.int a) (.int b) (decide (a ≤ b))
  | gt (a b) : Cmp σ .Gt (.int a) (.int b) (decide (b < a))
  | ge (a b) : Cmp σ .GtE (.int a) (.int b) (decide (b ≤ a))
  | eq (a b) : Cmp σ .Eq (.int a) (.int b) (decide (a = b))
  | ne (a b) : Cmp σ .NotEq (.int a) (.int b) (!decide (a = b))
  | isN {x} : noRaw x = true → Cmp σ .Is x .none (isNone x)
  | notN {x} : noRaw x = true → Cmp σ .IsNot x .none (!isNone x)
  | eqb (a b) : Cmp σ .Eq (.bytes a) (.bytes b) (a == b)
  | neb (a b) : Cmp σ .NotEq (.bytes a) (.bytes b) (a != b)
  | eqd {x y dx dy} : DRep σ x dx → DRep σ y dy → Cmp σ .Eq x y (PyData.eqv dx dy)
  | ned {x y dx dy} : DRep σ x dx → DRep σ y dy → Cmp σ .NotEq x y (!PyData.eqv dx dy)
  | inT (a : Int) (l : List Int) : Cmp σ .In (.int a) (.tup (l.map MV.int)) (l.contains a)

theorem vreps_ints {W : Wd} {ns : List Int} {vs} (h : VReps W (ns.map MV.int) vs) : IntsAre vs ns := by
  induction ns generalizing vs with
  | nil => cases h; exact .nil
  | cons n ns ih =>
    cases h with
    | cons a b =>
      obtain ⟨t, rfl⟩ := a.intv
      exact .cons _ _ (ih b)

theorem intsAre_reads {h : Heap} {vs ns} (q : IntsAre vs ns) : ReadsAll h vs (ns.map PyData.int) [] := by
  induction q with
  | nil => exact .nil
  | cons n t _ ih => exact .cons (as := []) (bs := []) (.int n t) ih

theorem canLay_ints : ∀ ns : List Int, PyData.canLayAll0 (ns.map PyData.int) = true
  | [] => rfl
  | _ :: r => by simp [PyData.canLayAll0, PyData.canLay0, canLay_ints r]
theorem depth_ints : ∀ ns : List Int, PyData.depthAll (ns.map PyData.int) ≤ 1
  | [] => by simp [PyData.depthAll]
  | _ :: r => by have := depth_ints r; simp [PyData.depthAll, PyData.depth]; omega

theorem drep_depth {σ : MH} {x d} (q : DRep σ x d) : d.canLay0 = true ∧ d.depth ≤ 4 := by
  cases q with
  | none => exact ⟨rfl, by simp [PyData.depth]⟩
  | bool b => exact ⟨rfl, by simp [PyData.depth]⟩
  | int i => exact ⟨rfl, by simp [PyData.depth]⟩
  | tupN => exact ⟨by simp [PyData.canLay0, PyData.canLayAll0], by simp [PyData.depth, PyData.depthAll]⟩
  | tupI i => exact ⟨by simp [PyData.canLay0, PyData.canLayAll0], by simp [PyData.depth, PyData.depthAll]⟩
  | @«ints» l ns e => exact ⟨by simp [PyData.canLay0, canLay_ints], by have := depth_ints ns; simp only [PyData.depth]; omega⟩

theorem drep_reads {G : Gl} {W : Wd} {σ : MH} {led} {h₀ : Heap} {L : Addr} {h : Heap} (N : News h₀ L h led) (hm : Mem G W σ led) {x d v} (q : DRep σ x d) (r : VRep W x v) : ∃ as, Reads h v d as := by
  cases q with
  | none => cases r; exact ⟨[], .none⟩
  | bool b => cases r; exact ⟨[], .bool b⟩
  | int i => cases r; exact ⟨[], .int i _⟩
  | tupN =>
    cases r with
    | tup m rs =>
      cases rs with
      | cons a b => cases b; cases a; exact ⟨_, .tuple (N _ (hm.im _ m)).1 rfl rfl (.cons .none .nil)⟩
  | tupI i =>
    cases r with
    | tup m rs =>
      cases rs with
      | cons a b => cases b; cases a; exact ⟨_, .tuple (N _ (hm.im _ m)).1 rfl rfl (.cons (.int i _) .nil)⟩
  | «ints» e =>
    cases r with
    | loc ha =>
      obtain ⟨a, ob, h1, h2, h3⟩ := hm.obj _ _ e
      rw [ha] at h1
      cases h1
      cases h3 with
      | list hv hz => exact ⟨_, .list (N _ h2).1 rfl rfl (intsAre_reads (vreps_ints hv))⟩

theorem isNone_v {W : Wd} {x v} (h : VRep W x v) (hn : noRaw x = true) : (v == Value.none) = isNone x := by
  cases h <;> first | rfl | cases hn | (simp [isNone])

theorem any_ints {W : Wd} {a : Int} {t : Tok} {ns vs} (q : IntsAre vs ns) : ∀ y, y ∈ vs → ∃ n u, y = Value.int n u := by
  induction q with
  | nil => intro _ h; cases h
  | cons n u _ ih =>
    intro y h
    rcases List.mem_cons.mp h with rfl | h
    · exact ⟨n, u, rfl⟩
    · exact ih y h
noncomputable def eqTo (a : Int) : Value → Bool
  | .int n _ => n == a
  | _ => false
theorem any_eqTo {a : Int} {ns vs} (q : IntsAre vs ns) : vs.any (eqTo a) = ns.contains a := by
  induction q with
  | nil => rfl
  | cons n u _ ih =>
    rw [List.any_cons, ih, List.contains_cons]
    congr 1
    show (n == a) = (a == n)
    exact Bool.beq_comm

theorem cmp_ok {G F C W ρ σ s op x y b vx vy} {E : Value → Shared → Prop} {QQ : Value → Shared → Prop} (st : St G F C W ρ σ s) (h : Cmp σ op x y b) (hx : VRep W x vx) (hy : VRep W y vy)
    (q : QQ (.bool b) s) : wpAny G.M (C.A F) (compareOp op vx vy) QQ E s := by
  have hu := st.ok.units
  cases h with
  | lt => obtain ⟨_, rfl⟩ := hx.intv; obtain ⟨_, rfl⟩ := hy.intv; exact PyProof.Rows.lt_int q
  | le => obtain ⟨_, rfl⟩ := hx.intv; obtain ⟨_, rfl⟩ := hy.intv; exact PyProof.Rows.le_int q
  | gt => obtain ⟨_, rfl⟩ := hx.intv; obtain ⟨_, rfl⟩ := hy.intv; exact PyProof.Rows.gt_int q
  | ge => obtain ⟨_, rfl⟩ := hx.intv; obtain ⟨_, rfl⟩ := hy.intv; exact PyProof.Rows.ge_int q
  | eq a b =>
    obtain ⟨_, rfl⟩ := hx.intv; obtain ⟨_, rfl⟩ := hy.intv
    refine PyProof.Rows.eq_int ?_
    have : (a == b) = decide (a = b) := by by_cases h : a = b <;> simp [h]
    rw [this]; exact q
  | ne a b =>
    obtain ⟨_, rfl⟩ := hx.intv; obtain ⟨_, rfl⟩ := hy.intv
    refine PyProof.Rows.ne_int ?_
    have : (a != b) = !decide (a = b) := by by_cases h : a = b <;> simp [h]
    rw [this]; exact q
  | isN hn => cases hy; refine is_none ?_; rw [isNone_v hx hn]; exact q
  | notN hn => cases hy; refine isNot_none ?_; rw [isNone_v hx hn]; exact q
  | eqb => obtain ⟨_, rfl⟩ := hx.bytesv; obtain ⟨_, rfl⟩ := hy.bytesv; exact eq_bytes (by simpa using q)
  | neb => obtain ⟨_, rfl⟩ := hx.bytesv; obtain ⟨_, rfl⟩ := hy.bytesv; exact ne_bytes (by simpa using q)
  | eqd ha hb =>
    obtain ⟨m, led, hF, hN, hl, hm⟩ := st.ex
    obtain ⟨as, r1⟩ := drep_reads hN hm ha hx
    obtain ⟨bs, r2⟩ := drep_reads hN hm hb hy
    refine SeqAt.compareEq_reads r1 r2 (drep_depth ha).1 (drep_depth hb).1 ?_ q
    have := (drep_depth ha).2
    show C.un + min _ _ < cLine
    omega
  | ned ha hb =>
    obtain ⟨m, led, hF, hN, hl, hm⟩ := st.ex
    obtain ⟨as, r1⟩ := drep_reads hN hm ha hx
    obtain ⟨bs, r2⟩ := drep_reads hN hm hb hy
    refine SeqAt.compareNe_reads r1 r2 (drep_depth ha).1 (drep_depth hb).1 ?_ q
    have := (drep_depth ha).2
    show C.un + min _ _ < cLine
    omega
  | inT a l =>
    obtain ⟨m, led, hF, hN, hl, hm⟩ := st.ex
    cases hx
    cases hy with
    | tup mm rs =>
      have hi := vreps_ints rs
      refine SeqAt.in_tupleAt (eqTo a) (items := _) ⟨_, (hN _ (hm.im _ mm)).1, rfl, _, rfl⟩ (fun y hy => ?_) ?_
      · obtain ⟨n, u, rfl⟩ := any_ints (W := W) (a := a) (t := 0) hi y (by simpa using hy)
        exact SeqAt.EqAt.int_int _ _ _ _
      · rw [← Array.any_toList, any_eqTo hi]; exact q
end Mine
end
section
set_option Elab.async false
set_option linter.all false
set_option maxRecDepth 100000
set_option genSizeOf false
set_option genInjectivity false
namespace Mine
open PySem PySem.W PySem.Calls PyProof.Rows PySem.Spec

section
variable {G : Gl} {F : Fx} {ρ : Loc} {σ : MH} {X : MX → MH → Prop}

/-- a premise in CPS used at a state, its end handed on -/
theorem he_use {e : Expr} {Q : MV → MH → Prop} (h : HE G F ρ σ e Q X) {C : Cx} {W : Wd} {s : Shared} {QQ EE : Value → Shared → Prop} (st : St G F C W ρ σ s) (eo : EOk G F C EE) (px : PostX G F C W s X EE)
    (k : ∀ W' x σ' v s', W.le W' → Same s s' → Q x σ' → VRep W' x v → St G F C W' ρ σ' s' → PostX G F C W' s' X EE → QQ v s') : wpAny G.M (C.A F) (eval e (C.env F)) QQ EE s :=
  h C W s QQ EE st eo (fun W' x σ' v s' h1 h2 q r st' => k W' x σ' v s' h1 h2 q r st' (px.from h1 h2)) px
theorem hb_use {e : Expr} {Q : Bool → MH → Prop} (h : HB G F ρ σ e Q X) {C : Cx} {W : Wd} {s : Shared} {QQ : Bool → Shared → Prop} {EE : Value → Shared → Prop} (st : St G F C W ρ σ s) (eo : EOk G F C EE) (px : PostX G F C W s X EE)
    (k : ∀ W' b σ' s', W.le W' → Same s s' → Q b σ' → St G F C W' ρ σ' s' → PostX G F C W' s' X EE → QQ b s') : wpAny G.M (C.A F) (isTrue e (C.env F) (eval e (C.env F))) QQ EE s :=
  h C W s QQ EE st eo (fun W' x σ' v s' h1 h2 q r st' => by cases r; exact k W' x σ' s' h1 h2 q st' (px.from h1 h2)) px

theorem pv_loc {x : Str} {mv : MV} {pos : Pos} (hx : (x, some mv) ∈ ρ) : PV G F ρ σ (.Name x pos) mv := fun _ _ q => he_loc hx q
theorem pv_none {k pos} : PV G F ρ σ (.Constant .none k pos) .none := fun _ _ q => he_none q
theorem pv_bool {b k pos} : PV G F ρ σ (.Constant (.bool b) k pos) (.bool b) := fun _ _ q => he_bool q
theorem pv_int {b k pos} : PV G F ρ σ (.Constant (.int b) k pos) (.int b) := fun _ _ q => he_int q
theorem pv_str {b k pos} : PV G F ρ σ (.Constant (.str b) k pos) (.str b) := fun _ _ q => he_str q
theorem pv_bytes {b k pos} : PV G F ρ σ (.Constant (.bytes b) k pos) (.bytes b) := fun _ _ q => he_bytes q

theorem he_bin {l op r pos} {Q : MV → MH → Prop} (h : HE G F ρ σ l (fun x σ1 => HE G F ρ σ1 r (fun y σ2 => ∃ z, Bin op x y z ∧ Q z σ2) X) X) : HE G F ρ σ (.BinOp l op r pos) Q X := by
  intro C W s QQ EE st eo p px
  refine wpAny_BinOp (he_use h st eo px fun W1 x σ1 v s1 h1 h2 q r1 st1 px1 => he_use q st1 eo px1 fun W2 y σ2 u s2 h3 h4 q2 r2 st2 px2 => ?_)
  obtain ⟨z, hz, q3⟩ := q2
  exact bin_ok hz (r1.mono h3) r2 fun vz s3 e1 e2 r3 => p W2 z σ2 vz s3 (h1.trans h3) ((h2.trans h4).trans e2) q3 r3 (st2.toks e1)
theorem pv_bin {l op r pos x y z} (hl : PV G F ρ σ l x) (hr : PV G F ρ σ r y) (hb : Bin op x y z) : PV G F ρ σ (.BinOp l op r pos) z :=
  fun Q X q => he_bin (hl _ X (hr _ X ⟨z, hb, q⟩))

theorem he_cmp {l op r pos} {Q : MV → MH → Prop} (h : HE G F ρ σ l (fun x σ1 => HE G F ρ σ1 r (fun y σ2 => ∃ b, Cmp σ2 op x y b ∧ Q (.bool b) σ2) X) X) (hm : behindInMarks op r = false) : HE G F ρ σ (.Compare l [op] [r] pos) Q X := by
  intro C W s QQ EE st eo p px
  refine wpAny_Compare1 (he_use h st eo px fun W1 x σ1 v s1 h1 h2 q r1 st1 px1 => he_use q st1 eo px1 fun W2 y σ2 u s2 h3 h4 q2 r2 st2 px2 => ?_) hm
  obtain ⟨z, hz, q3⟩ := q2
  exact cmp_ok st2 hz (r1.mono h3) r2 (p W2 _ σ2 _ s2 (h1.trans h3) (h2.trans h4) q3 (.bool z) st2)
theorem hb_cmp {l op r pos} {Q : Bool → MH → Prop} (h : HE G F ρ σ l (fun x σ1 => HE G F ρ σ1 r (fun y σ2 => ∃ b, Cmp σ2 op x y b ∧ Q b σ2) X) X) (hm : behindInMarks op r = false) : HB G F ρ σ (.Compare l [op] [r] pos) Q X := by
  intro C W s QQ EE st eo p px
  refine wpAny_isTrue_Compare1 (he_use h st eo px fun W1 x σ1 v s1 h1 h2 q r1 st1 px1 => he_use q st1 eo px1 fun W2 y σ2 u s2 h3 h4 q2 r2 st2 px2 => ?_) hm
  obtain ⟨z, hz, q3⟩ := q2
  exact cmp_ok st2 hz (r1.mono h3) r2 (wpAny_truthy_bool (p W2 _ σ2 _ s2 (h1.trans h3) (h2.trans h4) q3 rfl st2))
theorem pv_cmp {l op r pos x y b} (hl : PV G F ρ σ l x) (hr : PV G F ρ σ r y) (hb : Cmp σ op x y b) (hm : behindInMarks op r = false) : PV G F ρ σ (.Compare l [op] [r] pos) (.bool b) :=
  fun Q X q => he_cmp (hl _ X (hr _ X ⟨b, hb, q⟩)) hm
theorem pb_cmp {l op r pos x y b} (hl : PV G F ρ σ l x) (hr : PV G F ρ σ r y) (hb : Cmp σ op x y b) (hm : behindInMarks op r = false) : PB G F ρ σ (.Compare l [op] [r] pos) b :=
  fun Q X q => hb_cmp (hl _ X (hr _ X ⟨b, hb, q⟩)) hm

theorem he_chain {l o1 r1 o2 r2 pos} {Q : MV → MH → Prop} (h : HE G F ρ σ l (fun x σ1 => ∃ y z b c, PV G F ρ σ1 r1 y ∧ Cmp σ1 o1 x y b ∧ (b = true → PV G F ρ σ1 r2 z ∧ Cmp σ1 o2 y z c) ∧ Q (.bool (b && c)) σ1) X)
    (hm : lastMarks [o1, o2] [r1, r2] = false) : HE G F ρ σ (.Compare l [o1, o2] [r1, r2] pos) Q X := by
  intro C W s QQ EE st eo p px
  refine Compare_chain (ops := []) (rs := []) (he_use h st eo px fun W1 x σ1 v s1 h1 h2 q rx st1 px1 => ?_) hm
  obtain ⟨y, z, b, c, py, hc1, hz, q⟩ := q
  refine chain_link (he_use (py (fun y' σ' => y' = y ∧ σ' = σ1) X ⟨rfl, rfl⟩) st1 eo px1 fun W2 y' σ2 u s2 h3 h4 q2 ry st2 px2 => ?_)
  obtain ⟨rfl, rfl⟩ := q2
  refine cmp_ok st2 hc1 (rx.mono h3) ry (wpAny_truthy_bool ?_)
  cases b with
  | false => exact p W2 _ σ2 _ s2 (h1.trans h3) (h2.trans h4) q (.bool _) st2
  | true =>
    obtain ⟨pz, hc2⟩ := hz rfl
    simp only [if_true]
    refine chain_last (he_use (pz (fun z' σ' => z' = z ∧ σ' = σ2) X ⟨rfl, rfl⟩) st2 eo px2 fun W3 z' σ3 u3 s3 h5 h6 q3 rz st3 px3 => ?_)
    obtain ⟨rfl, rfl⟩ := q3
    exact cmp_ok st3 hc2 (ry.mono h5) rz (p W3 _ σ3 _ s3 ((h1.trans h3).trans h5) ((h2.trans h4).trans h6) q (.bool _) st3)
theorem hb_chain {l o1 r1 o2 r2 pos} {Q : Bool → MH → Prop} (h : HE G F ρ σ l (fun x σ1 => ∃ y z b c, PV G F ρ σ1 r1 y ∧ Cmp σ1 o1 x y b ∧ (b = true → PV G F ρ σ1 r2 z ∧ Cmp σ1 o2 y z c) ∧ Q (b && c) σ1) X)
    (hm : lastMarks [o1, o2] [r1, r2] = false) : HB G F ρ σ (.Compare l [o1, o2] [r1, r2] pos) Q X := by
  intro C W s QQ EE st eo p px
  refine isTrue_chain (ops := []) (rs := []) (he_use h st eo px fun W1 x σ1 v s1 h1 h2 q rx st1 px1 => ?_) hm
  obtain ⟨y, z, b, c, py, hc1, hz, q⟩ := q
  refine test_link (he_use (py (fun y' σ' => y' = y ∧ σ' = σ1) X ⟨rfl, rfl⟩) st1 eo px1 fun W2 y' σ2 u s2 h3 h4 q2 ry st2 px2 => ?_)
  obtain ⟨rfl, rfl⟩ := q2
  refine cmp_ok st2 hc1 (rx.mono h3) ry (wpAny_truthy_bool ?_)
  cases b with
  | false => exact p W2 _ σ2 _ s2 (h1.trans h3) (h2.trans h4) q rfl st2
  | true =>
    obtain ⟨pz, hc2⟩ := hz rfl
    simp only [if_true]
    refine test_last (he_use (pz (fun z' σ' => z' = z ∧ σ' = σ2) X ⟨rfl, rfl⟩) st2 eo px2 fun W3 z' σ3 u3 s3 h5 h6 q3 rz st3 px3 => ?_)
    obtain ⟨rfl, rfl⟩ := q3
    exact cmp_ok st3 hc2 (ry.mono h5) rz (wpAny_truthy_bool (p W3 _ σ3 _ s3 ((h1.trans h3).trans h5) ((h2.trans h4).trans h6) q rfl st3))
theorem pv_chain {l o1 r1 o2 r2 pos x y z b c} (hl : PV G F ρ σ l x) (h1 : PV G F ρ σ r1 y) (h2 : PV G F ρ σ r2 z) (c1 : Cmp σ o1 x y b) (c2 : Cmp σ o2 y z c) (hm : lastMarks [o1, o2] [r1, r2] = false) :
    PV G F ρ σ (.Compare l [o1, o2] [r1, r2] pos) (.bool (b && c)) := fun Q X q => he_chain (hl _ X ⟨y, z, b, c, h1, c1, fun _ => ⟨h2, c2⟩, q⟩) hm
theorem pb_chain {l o1 r1 o2 r2 pos x y z b c} (hl : PV G F ρ σ l x) (h1 : PV G F ρ σ r1 y) (h2 : PV G F ρ σ r2 z) (c1 : Cmp σ o1 x y b) (c2 : Cmp σ o2 y z c) (hm : lastMarks [o1, o2] [r1, r2] = false) :
    PB G F ρ σ (.Compare l [o1, o2] [r1, r2] pos) (b && c) := fun Q X q => hb_chain (hl _ X ⟨y, z, b, c, h1, c1, fun _ => ⟨h2, c2⟩, q⟩) hm

theorem hb_not {x pos} {Q : Bool → MH → Prop} (h : HB G F ρ σ x (fun b σ1 => Q (!b) σ1) X) : HB G F ρ σ (.UnaryOp .Not x pos) Q X := by
  intro C W s QQ EE st eo p px
  exact isTrue_not (hb_use h st eo px fun W1 b σ1 s1 h1 h2 q st1 px1 => p W1 _ σ1 _ s1 h1 h2 q rfl st1)
theorem pb_not {x pos b} (h : PB G F ρ σ x b) : PB G F ρ σ (.UnaryOp .Not x pos) (!b) := fun Q X q => hb_not (h _ X q)

theorem hb_and_nil {pos} {Q : Bool → MH → Prop} (q : Q true σ) : HB G F ρ σ (.BoolOp .And [] pos) Q X := fun C W s QQ EE st eo p px => isTrue_and_nil (p W true σ _ s (.refl W) (.refl s) q rfl st)
theorem hb_or_nil {pos} {Q : Bool → MH → Prop} (q : Q false σ) : HB G F ρ σ (.BoolOp .Or [] pos) Q X := fun C W s QQ EE st eo p px => isTrue_or_nil (p W false σ _ s (.refl W) (.refl s) q rfl st)
theorem hb_and {x rest pos} {Q : Bool → MH → Prop} (h : HB G F ρ σ x (fun b σ1 => if b = true then HB G F ρ σ1 (.BoolOp .And rest pos) Q X else Q false σ1) X) : HB G F ρ σ (.BoolOp .And (x :: rest) pos) Q X := by
  intro C W s QQ EE st eo p px
  refine isTrue_and (hb_use h st eo px fun W1 b σ1 s1 h1 h2 q st1 px1 => ?_)
  cases b with
  | false => exact p W1 _ σ1 _ s1 h1 h2 q rfl st1
  | true => exact hb_use q st1 eo px1 fun W2 b2 σ2 s2 h3 h4 q2 st2 px2 => p W2 _ σ2 _ s2 (h1.trans h3) (h2.trans h4) q2 rfl st2
theorem hb_or {x rest pos} {Q : Bool → MH → Prop} (h : HB G F ρ σ x (fun b σ1 => if b = true then Q true σ1 else HB G F ρ σ1 (.BoolOp .Or rest pos) Q X) X) : HB G F ρ σ (.BoolOp .Or (x :: rest) pos) Q X := by
  intro C W s QQ EE st eo p px
  refine isTrue_or (hb_use h st eo px fun W1 b σ1 s1 h1 h2 q st1 px1 => ?_)
  cases b with
  | true => exact p W1 _ σ1 _ s1 h1 h2 q rfl st1
  | false => exact hb_use q st1 eo px1 fun W2 b2 σ2 s2 h3 h4 q2 st2 px2 => p W2 _ σ2 _ s2 (h1.trans h3) (h2.trans h4) q2 rfl st2
theorem pb_and_nil {pos} : PB G F ρ σ (.BoolOp .And [] pos) true := fun Q X q => hb_and_nil q
theorem pb_or_nil {pos} : PB G F ρ σ (.BoolOp .Or [] pos) false := fun Q X q => hb_or_nil q
theorem pb_and {x rest pos b c} (h : PB G F ρ σ x b) (h2 : b = true → PB G F ρ σ (.BoolOp .And rest pos) c) : PB G F ρ σ (.BoolOp .And (x :: rest) pos) (b && c) := fun Q X q => hb_and (h _ X (by
  cases b with
  | false => exact q
  | true => exact h2 rfl Q X q))
theorem pb_or {x rest pos b c} (h : PB G F ρ σ x b) (h2 : b = false → PB G F ρ σ (.BoolOp .Or rest pos) c) : PB G F ρ σ (.BoolOp .Or (x :: rest) pos) (b || c) := fun Q X q => hb_or (h _ X (by
  cases b with
  | true => exact q
  | false => exact h2 rfl Q X q))

/-- plain truth -/
inductive Tru : MV → Bool → Prop
  | bool (b) : Tru (.bool b) b
  | none : Tru .none false
  | int (i) : Tru (.int i) (!decide (i = 0))
theorem tru_ok {G : Gl} {A : Around} {E : Value → Shared → Prop} {s : Shared} {W x b v} {QQ : Bool → Shared → Prop} (h : Tru x b) (r : VRep W x v) (q : QQ b s) : wpAny G.M A (truthy v) QQ E s := by
  cases h with
  | bool b => cases r; exact wpAny_truthy_bool q
  | none => cases r; exact truthy_none q
  | int i =>
    cases r
    refine PyProof.Rows.truthy_int ?_
    have : (i != 0) = !decide (i = 0) := by by_cases h : i = 0 <;> simp [h]
    rw [this]; exact q
theorem hb_val {e : Expr} {Q : Bool → MH → Prop} (h : HE G F ρ σ e (fun x σ1 => ∃ b, Tru x b ∧ Q b σ1) X)
    (he : ∀ env whole, isTrue e env whole = (do let v ← whole; standAt e.pos; holding [v] (truthy v))) : HB G F ρ σ e Q X := by
  intro C W s QQ EE st eo p px
  refine isTrue_plain (he_use h st eo px fun W1 x σ1 v s1 h1 h2 q r1 st1 px1 => ?_) (he _ _)
  obtain ⟨b, hb, q⟩ := q
  exact tru_ok hb r1 (p W1 b σ1 _ s1 h1 h2 q rfl st1)
theorem pb_val {e : Expr} {x b} (h : PV G F ρ σ e x) (ht : Tru x b) (he : ∀ env whole, isTrue e env whole = (do let v ← whole; standAt e.pos; holding [v] (truthy v))) : PB G F ρ σ e b :=
  fun Q X q => hb_val (h _ X ⟨b, ht, q⟩) he

theorem he_ifexp {t b o pos} {Q : MV → MH → Prop} (h : HB G F ρ σ t (fun c σ1 => if c = true then HE G F ρ σ1 b Q X else HE G F ρ σ1 o Q X) X) : HE G F ρ σ (.IfExp t b o pos) Q X := by
  intro C W s QQ EE st eo p px
  refine IfExp_ (hb_use h st eo px fun W1 c σ1 s1 h1 h2 q st1 px1 => ?_)
  cases c with
  | true => exact he_use q st1 eo px1 fun W2 x σ2 v s2 h3 h4 q2 r st2 _ => p W2 x σ2 v s2 (h1.trans h3) (h2.trans h4) q2 r st2
  | false => exact he_use q st1 eo px1 fun W2 x σ2 v s2 h3 h4 q2 r st2 _ => p W2 x σ2 v s2 (h1.trans h3) (h2.trans h4) q2 r st2
theorem pv_ifexp {t b o pos c x} (h : PB G F ρ σ t c) (hb : c = true → PV G F ρ σ b x) (ho : c = false → PV G F ρ σ o x) : PV G F ρ σ (.IfExp t b o pos) x := fun Q X q => he_ifexp (h _ X (by
  cases c with
  | true => exact hb rfl Q X q
  | false => exact ho rfl Q X q))

theorem he_usub {x pos} {Q : MV → MH → Prop} (h : HE G F ρ σ x (fun v σ1 => ∃ i, v = .int i ∧ Q (.int (-i)) σ1) X) : HE G F ρ σ (.UnaryOp .USub x pos) Q X := by
  intro C W s QQ EE st eo p px
  refine UnaryOp_ (he_use h st eo px fun W1 x σ1 v s1 h1 h2 q r1 st1 px1 => ?_)
  obtain ⟨i, rfl, q⟩ := q
  cases r1
  exact PyProof.Rows.neg_int (p W1 _ σ1 _ _ h1 (h2.trans (Same.of s1 s1.heap _)) q (.int _ _) (st1.toks rfl))
theorem pv_usub {x pos i} (h : PV G F ρ σ x (.int i)) : PV G F ρ σ (.UnaryOp .USub x pos) (.int (-i)) := fun Q X q => he_usub (h _ X ⟨i, rfl, q⟩)
theorem he_notv {x pos} {Q : MV → MH → Prop} (h : HE G F ρ σ x (fun v σ1 => ∃ b, Tru v b ∧ Q (.bool (!b)) σ1) X) : HE G F ρ σ (.UnaryOp .Not x pos) Q X := by
  intro C W s QQ EE st eo p px
  refine UnaryOp_ (he_use h st eo px fun W1 x σ1 v s1 h1 h2 q r1 st1 px1 => ?_)
  obtain ⟨b, hb, q⟩ := q
  exact not_of (tru_ok hb r1 (p W1 _ σ1 _ s1 h1 h2 q (.bool _) st1))
theorem pv_notv {x pos v b} (h : PV G F ρ σ x v) (hb : Tru v b) : PV G F ρ σ (.UnaryOp .Not x pos) (.bool (!b)) := fun Q X q => he_notv (h _ X ⟨b, hb, q⟩)

/-- and, or as values -/
theorem he_one {op e pos} {Q : MV → MH → Prop} (h : HE G F ρ σ e Q X) : HE G F ρ σ (.BoolOp op [e] pos) Q X := h
theorem pv_one {op e pos x} (h : PV G F ρ σ e x) : PV G F ρ σ (.BoolOp op [e] pos) x := h
theorem he_andv {e1 e2 rest pos} {Q : MV → MH → Prop} (h : HE G F ρ σ e1 (fun x σ1 => ∃ b, Tru x b ∧ if b = true then HE G F ρ σ1 (.BoolOp .And (e2 :: rest) pos) Q X else Q x σ1) X) : HE G F ρ σ (.BoolOp .And (e1 :: e2 :: rest) pos) Q X := by
  intro C W s QQ EE st eo p px
  refine BoolOp_and (he_use h st eo px fun W1 x σ1 v s1 h1 h2 q r1 st1 px1 => ?_)
  obtain ⟨b, hb, q⟩ := q
  refine tru_ok hb r1 ?_
  cases b with
  | false => exact p W1 x σ1 v s1 h1 h2 q r1 st1
  | true => exact he_use q st1 eo px1 fun W2 x σ2 v s2 h3 h4 q2 r st2 _ => p W2 x σ2 v s2 (h1.trans h3) (h2.trans h4) q2 r st2
theorem pv_andv {e1 e2 rest pos b c} (h : PV G F ρ σ e1 (.bool b)) (h2 : b = true → PV G F ρ σ (.BoolOp .And (e2 :: rest) pos) (.bool c)) : PV G F ρ σ (.BoolOp .And (e1 :: e2 :: rest) pos) (.bool (b && c)) :=
  fun Q X q => he_andv (h _ X ⟨b, .bool b, by
    cases b with
    | false => exact q
    | true => exact h2 rfl Q X q⟩)
end
end Mine
end
section
set_option Elab.async false
set_option linter.all false
set_option maxRecDepth 100000
set_option genSizeOf false
set_option genInjectivity false
namespace Mine
open PySem PySem.W PySem.Calls PyProof.Rows PySem.Spec

/-! the ledger moved -/
theorem News.uniq {h₀ h : Heap} {L : Addr} {led : List (Addr × Obj)} (N : News h₀ L h led) {a : Addr} {o o' : Obj} (x : (a, o) ∈ led) (y : (a, o') ∈ led) : o = o' := by
  have e1 := (N _ x).1
  have e2 := (N _ y).1
  rw [e1] at e2
  exact Option.some.inj e2

noncomputable def but (led : List (Addr × Obj)) (a : Addr) : List (Addr × Obj) := led.filter fun p => decide (p.1 ≠ a)
theorem but_ne {led : List (Addr × Obj)} {a : Addr} : ∀ p ∈ but led a, p.1 ≠ a := fun p hp => by
  have := (List.mem_filter.mp hp).2
  simpa using this
theorem mem_but {led : List (Addr × Obj)} {a : Addr} {p : Addr × Obj} (h : p ∈ led) (e : p.1 ≠ a) : p ∈ but led a := List.mem_filter.mpr ⟨h, by simpa using e⟩
theorem news_but {h₀ h : Heap} {L : Addr} {led : List (Addr × Obj)} (N : News h₀ L h led) {a : Addr} {o : Obj} (x : (a, o) ∈ led) : News h₀ L h ((a, o) :: but led a) := fun p hp => by
  rcases List.mem_cons.mp hp with rfl | hp
  · exact N _ x
  · exact N _ (List.mem_filter.mp hp).1

theorem upd_same {σ : MH} {i : Nat} {o : MObj} : upd σ i o i = some o := if_pos rfl
theorem upd_other {σ : MH} {i j : Nat} {o : MObj} (h : j ≠ i) : upd σ i o j = σ j := if_neg h
theorem upd_get {σ : MH} {i j : Nat} {o o' : MObj} (h : j ≠ i) (e : σ j = some o') : upd σ i o j = some o' := by rw [upd_other h]; exact e

theorem nd_as {W : Wd} (nd : (W.as ++ (W.im.map (·.1) ++ W.hid.map (·.1))).Nodup) {i j : Nat} {a : Addr} (x : W.as[i]? = some a) (y : W.as[j]? = some a) : i = j := by
  have h := (List.nodup_append.mp nd).1
  obtain ⟨hi, ei⟩ := List.getElem?_eq_some_iff.mp x
  obtain ⟨hj, ej⟩ := List.getElem?_eq_some_iff.mp y
  have hp := List.pairwise_iff_getElem.mp h
  rcases Nat.lt_trichotomy i j with q | q | q
  · exact absurd (ei.trans ej.symm) (hp i j hi hj q)
  · exact q
  · exact absurd (ej.trans ei.symm) (hp j i hj hi q)

theorem mem_upd {G : Gl} {W : Wd} {σ : MH} {led} (hm : Mem G W σ led) {i : Nat} {a : Addr} {o' : MObj} {ob' : Obj} (ha : W.as[i]? = some a) (hr : ORep G W o' ob') : Mem G W (upd σ i o') ((a, ob') :: but led a) := by
  refine ⟨hm.nd, fun j o e => ?_, fun j hj => ?_, fun j hj => ?_, fun p hp => ?_, fun p hp => ?_⟩
  · by_cases hji : j = i
    · subst hji
      rw [upd_same] at e
      cases e
      exact ⟨a, ob', ha, .head _, hr⟩
    · rw [upd_other hji] at e
      obtain ⟨b, ob, h1, h2, h3⟩ := hm.obj j o e
      refine ⟨b, ob, h1, .tail _ (mem_but h2 fun z => hji ?_), h3⟩
      dsimp only at z
      subst z
      exact nd_as hm.nd h1 ha
  · have : j ≠ i := fun z => by subst z; exact absurd (List.getElem?_eq_some_iff.mp ha).1 (Nat.not_lt.mpr hj)
    rw [upd_other this]; exact hm.off j hj
  · by_cases hji : j = i
    · subst hji; rw [upd_same]; rfl
    · rw [upd_other hji]; exact hm.on j hj
  · refine .tail _ (mem_but (hm.im p hp) fun z => ?_)
    have := (List.nodup_append.mp hm.nd).2.2 a (List.mem_of_getElem? ha) p.1 (List.mem_append_left _ (List.mem_map_of_mem hp))
    exact this z.symm
  · refine .tail _ (mem_but (hm.hid p hp) fun z => ?_)
    have := (List.nodup_append.mp hm.nd).2.2 a (List.mem_of_getElem? ha) p.1 (List.mem_append_right _ (List.mem_map_of_mem hp))
    exact this z.symm

theorem mem_addr {G : Gl} {W : Wd} {σ : MH} {led} (hm : Mem G W σ led) {a : Addr} (h : a ∈ W.as ++ (W.im.map (·.1) ++ W.hid.map (·.1))) : ∃ o, (a, o) ∈ led := by
  rcases List.mem_append.mp h with h | h
  · obtain ⟨i, hi, e⟩ := List.mem_iff_getElem.mp h
    have hon := hm.on i hi
    obtain ⟨o, ho⟩ := Option.isSome_iff_exists.mp hon
    obtain ⟨b, ob, h1, h2, h3⟩ := hm.obj i o ho
    rw [List.getElem?_eq_getElem hi, e] at h1
    cases h1
    exact ⟨ob, h2⟩
  · rcases List.mem_append.mp h with h | h
    · obtain ⟨p, hp, rfl⟩ := List.mem_map.mp h
      exact ⟨p.2, hm.im p hp⟩
    · obtain ⟨p, hp, rfl⟩ := List.mem_map.mp h
      exact ⟨p.2, hm.hid p hp⟩

noncomputable def Wd.grow (W : Wd) (a : Addr) : Wd := ⟨W.as ++ [a], W.im, W.hid⟩
noncomputable def Wd.keep (W : Wd) (p : Addr × Obj) : Wd := ⟨W.as, p :: W.im, W.hid⟩
theorem Wd.grow_le (W : Wd) (a : Addr) : W.le (W.grow a) := ⟨List.prefix_append _ _, fun _ h => h, rfl⟩
theorem Wd.keep_le (W : Wd) (p : Addr × Obj) : W.le (W.keep p) := ⟨List.prefix_refl _, fun _ h => .tail _ h, rfl⟩
theorem Wd.grow_get (W : Wd) (a : Addr) : (W.grow a).as[W.as.length]? = some a := by simp [Wd.grow]

theorem mem_grow {G : Gl} {W : Wd} {σ : MH} {led} (hm : Mem G W σ led) {a : Addr} {o : MObj} {ob : Obj} (hf : ∀ p ∈ led, p.1 < a) (hr : ORep G (W.grow a) o ob) : Mem G (W.grow a) (upd σ W.as.length o) ((a, ob) :: led) := by
  have hn : a ∉ W.as ++ (W.im.map (·.1) ++ W.hid.map (·.1)) := fun h => by
    obtain ⟨o, ho⟩ := mem_addr hm h
    exact Nat.lt_irrefl _ (hf _ ho)
  refine ⟨?_, fun j o' e => ?_, fun j hj => ?_, fun j hj => ?_, fun p hp => .tail _ (hm.im p hp), fun p hp => .tail _ (hm.hid p hp)⟩
  · show (W.as ++ [a] ++ (W.im.map (·.1) ++ W.hid.map (·.1))).Nodup
    rw [List.append_assoc]
    have hp : (W.as ++ ([a] ++ (W.im.map (·.1) ++ W.hid.map (·.1)))).Perm (a :: (W.as ++ (W.im.map (·.1) ++ W.hid.map (·.1)))) := List.perm_middle
    exact hp.nodup_iff.mpr (List.nodup_cons.mpr ⟨hn, hm.nd⟩)
  · by_cases hj : j = W.as.length
    · subst hj
      rw [upd_same] at e
      cases e
      exact ⟨a, ob, W.grow_get a, .head _, hr⟩
    · rw [upd_other hj] at e
      obtain ⟨b, ob', h1, h2, h3⟩ := hm.obj j o' e
      exact ⟨b, ob', prefix_get (W.grow_le a).as h1, .tail _ h2, h3.mono (W.grow_le a)⟩
  · have : W.as.length + 1 ≤ j := by simpa [Wd.grow] using hj
    have hne : j ≠ W.as.length := by lia
    rw [upd_other hne]; exact hm.off j (by lia)
  · have : j < W.as.length + 1 := by simpa [Wd.grow] using hj
    by_cases hj : j = W.as.length
    · subst hj; rw [upd_same]; rfl
    · rw [upd_other hj]; exact hm.on j (by lia)
theorem mem_fresh {G : Gl} {W : Wd} {σ : MH} {led} (hm : Mem G W σ led) : σ W.as.length = none := hm.off _ (Nat.le_refl _)

theorem mem_keep {G : Gl} {W : Wd} {σ : MH} {led} (hm : Mem G W σ led) {a : Addr} {ob : Obj} (hf : a ∉ W.as ++ (W.im.map (·.1) ++ W.hid.map (·.1))) : Mem G (W.keep (a, ob)) σ ((a, ob) :: led) := by
  refine ⟨?_, fun j o' e => ?_, hm.off, hm.on, fun p hp => ?_, fun p hp => .tail _ (hm.hid p hp)⟩
  · show (W.as ++ (a :: W.im.map (·.1) ++ W.hid.map (·.1))).Nodup
    have hp : (W.as ++ (a :: (W.im.map (·.1) ++ W.hid.map (·.1)))).Perm (a :: (W.as ++ (W.im.map (·.1) ++ W.hid.map (·.1)))) := List.perm_middle
    exact hp.nodup_iff.mpr (List.nodup_cons.mpr ⟨hf, hm.nd⟩)
  · obtain ⟨b, ob', h1, h2, h3⟩ := hm.obj j o' e
    exact ⟨b, ob', h1, .tail _ h2, h3.mono (W.keep_le _)⟩
  · rcases List.mem_cons.mp hp with rfl | hp
    · exact .head _
    · exact .tail _ (hm.im p hp)
theorem mem_keepNew {G : Gl} {W : Wd} {σ : MH} {led} (hm : Mem G W σ led) {a : Addr} {ob : Obj} (hf : ∀ p ∈ led, p.1 < a) : Mem G (W.keep (a, ob)) σ ((a, ob) :: led) :=
  mem_keep hm fun h => by obtain ⟨o, ho⟩ := mem_addr hm h; exact Nat.lt_irrefl _ (hf _ ho)
theorem mem_led {G : Gl} {W : Wd} {σ : MH} {led led'} (hm : Mem G W σ led) (h : ∀ p ∈ led, p ∈ led') : Mem G W σ led' :=
  ⟨hm.nd, fun i o e => (by obtain ⟨a, ob, h1, h2, h3⟩ := hm.obj i o e; exact ⟨a, ob, h1, h _ h2, h3⟩), hm.off, hm.on, fun p hp => h _ (hm.im p hp), fun p hp => h _ (hm.hid p hp)⟩

section
variable {G : Gl} {F : Fx} {ρ : Loc} {σ : MH} {X : MX → MH → Prop}

/-! names -/
theorem he_globv {x : Str} {pos : Pos} {v : Value} {mv : MV} {Q : MV → MH → Prop} (e : nsIn G.K mainGlobals x = some (some v)) (hr : ∀ W, VRep W mv v) (hx : F.scope.names.lookup x = some .globalImplicit) (hd : (x == ("__debug__" : Str)) = false)
    (q : Q mv σ) : HE G F ρ σ (.Name x pos) Q X := by
  intro C W s QQ EE st eo p px
  obtain ⟨m, led, hF, hN, hl, hm⟩ := st.ex
  exact nameX_K hF st.ok.inK (topRead_of st.ok.top) e (p W mv σ v s (.refl W) (.refl s) q (hr W) st) st.ok.kind hx hd
theorem pv_globi {x : Str} {pos : Pos} {i : Int} {t} (e : nsIn G.K mainGlobals x = some (some (.int i t))) (hx : F.scope.names.lookup x = some .globalImplicit) (hd : (x == ("__debug__" : Str)) = false) : PV G F ρ σ (.Name x pos) (.int i) :=
  fun Q X q => he_globv e (fun _ => .int i t) hx hd q
theorem pv_globr {x : Str} {pos : Pos} {v} (e : nsIn G.K mainGlobals x = some (some v)) (hx : F.scope.names.lookup x = some .globalImplicit) (hd : (x == ("__debug__" : Str)) = false) : PV G F ρ σ (.Name x pos) (.raw v) :=
  fun Q X q => he_globv e (fun _ => .raw v) hx hd q
theorem pv_built {x : Str} {pos : Pos} {v} (e : nsIn G.K mainGlobals x = some none) (hv : bootBuiltins x = some v) (hn : x ≠ "__name__") (hx : F.scope.names.lookup x = some .globalImplicit) (hd : (x == ("__debug__" : Str)) = false) : PV G F ρ σ (.Name x pos) (.raw v) := by
  intro Q X q C W s QQ EE st eo p px
  obtain ⟨m, led, hF, hN, hl, hm⟩ := st.ex
  exact nameX_B hF st.ok.inK (topRead_of st.ok.top) e hv hn (p W _ σ v s (.refl W) (.refl s) q (.raw v) st) st.ok.kind hx hd

/-! attributes -/
noncomputable def attrOk (K : Frag) (c : Addr) (name : Str) : Bool := plainGet K c name && hasDictIn K c && findIn K (.ref c) name == some none

theorem ents_get {W : Wd} {name : Str} : ∀ {kvs es}, Ents W kvs es → (kvs.map (·.1)).Nodup → ∀ {mv}, (name, mv) ∈ kvs → ∃ v, getL name es = some (some v) ∧ VRep W mv v := by
  intro kvs es q
  induction q with
  | nil => intro _ _ h; cases h
  | @cons k x v hs t xs es a r ih =>
    intro nd mv h
    rw [List.map_cons, List.nodup_cons] at nd
    unfold getL
    rw [List.find?_cons]
    by_cases hk : k = name
    · subst hk
      have hb : Value.isStr (.str k ‹Tok›) k = true := by simp [Value.isStr]
      rw [hb]
      rcases List.mem_cons.mp h with e | h
      · cases e; exact ⟨v, rfl, a⟩
      · exact absurd (List.mem_map_of_mem (f := (·.1)) h) nd.1
    · have hb : Value.isStr (.str k ‹Tok›) name = false := by simp [Value.isStr, hk]
      rw [hb]
      rcases List.mem_cons.mp h with e | h
      · cases e; exact absurd rfl hk
      · obtain ⟨u, hu, hr⟩ := ih nd.2 h
        refine ⟨u, ?_, hr⟩
        unfold getL at hu
        split at hu
        · rename_i e he
          cases hu
          rw [he]
        · split at hu <;> cases hu
theorem ents_miss {W : Wd} {name : Str} : ∀ {kvs es}, Ents W kvs es → name ∉ kvs.map (·.1) → getL name es = some none := by
  intro kvs es q
  induction q with
  | nil => intro _; rfl
  | @cons k x v hs t xs es a r ih0 =>
    intro h
    rw [List.map_cons, List.mem_cons, not_or] at h
    have ih := ih0 h.2
    unfold getL at ih ⊢
    rw [List.find?_cons]
    have hb : Value.isStr (.str k ‹Tok›) name = false := by simp [Value.isStr]; exact fun z => h.1 z.symm
    rw [hb]
    dsimp only
    split at ih
    · cases ih
    · rename_i he
      rw [he]
      split at ih
      · cases ih
      · rename_i hr
        rw [List.any_cons]
        have : DictEntry.refKey ⟨‹Int›, .str k ‹Tok›, ‹Value›⟩ = false := rfl
        rw [this, Bool.false_or]
        simp only [hr]
        rfl

theorem handed_of {W mv v} (h : VRep W mv v) (hn : noRaw mv = true) : handedIn v = true := by cases h <;> first | rfl | cases hn

/-- an object and its dict -/
structure IsInst (σ : MH) (i : Nat) (c : Addr) (j : Nat) (kvs : List (Str × MV)) : Prop where
  i : σ i = some (.inst c j)
  j : σ j = some (.ns kvs)

inductive InstX (W : Wd) (led : List (Addr × Obj)) (h : Heap) (c : Addr) (kvs : List (Str × MV)) (x : Addr) (j : Nat) : Prop
  | mk (dx : Addr) (es : List DictEntry) (n : Nat) (h1 : W.as[j]? = some dx) (h2 : (x, instObj c dx) ∈ led) (h3 : (dx, dictOf es n) ∈ led) (h4 : Ents W kvs es) (h5 : (kvs.map (·.1)).Nodup) (h6 : kvs.length ≤ 64) (h7 : InstAt h x (instObj c dx) c (some (dictOf es n))) : InstX W led h c kvs x j
theorem inst_at {G : Gl} {W : Wd} {σ : MH} {led} {h₀ h : Heap} {L : Addr} (N : News h₀ L h led) (hm : Mem G W σ led) {i c j kvs} (I : IsInst σ i c j kvs) {x : Addr} (hx : W.as[i]? = some x) :
    InstX W led h c kvs x j := by
  obtain ⟨a, ob, h1, h2, h3⟩ := hm.obj _ _ I.i
  rw [hx] at h1
  cases h1
  cases h3 with
  | inst hj =>
    obtain ⟨b, ob2, h4, h5, h6⟩ := hm.obj _ _ I.j
    rw [hj] at h4
    cases h4
    cases h6 with
    | ns he nd hl => exact ⟨_, _, _, hj, h2, h5, he, nd, hl, InstAt.of_news N h2 h5⟩

theorem he_attr {e : Expr} {name : Str} {pos : Pos} {Q : MV → MH → Prop} (h : HE G F ρ σ e (fun x σ1 => ∃ i c j kvs mv, x = .loc i ∧ IsInst σ1 i c j kvs ∧ attrOk G.K c name = true ∧ (name, mv) ∈ kvs ∧ noRaw mv = true ∧ Q mv σ1) X)
    (he : ∀ env, eval (.Attribute e name pos) env = (do let o ← eval e env; standAt pos.atName; let r ← holding [o] (getAttr o name true); letTemporaryGo e o r; pure r)) : HE G F ρ σ (.Attribute e name pos) Q X := by
  intro C W s QQ EE st eo p px
  refine Attribute_any_ (he_use h st eo px fun W1 x σ1 v s1 h1 h2 q r1 st1 px1 => ?_) (he _)
  obtain ⟨i, c, j, kvs, mv, rfl, I, ha, hmem, hn, q⟩ := q
  obtain ⟨m, led, hF, hN, hl, hm⟩ := st1.ex
  obtain ⟨_, rfl, hx⟩ := r1.locv
  · skip
    obtain ⟨dx, es, n, hj, hi1, hi2, hes, nd, hz, IA⟩ := inst_at hN hm I hx
    obtain ⟨u, hu, hr⟩ := ents_get hes nd hmem
    simp only [attrOk, Bool.and_eq_true, beq_iff_eq] at ha
    exact get_own hF st1.ok.inK IA ha.1.1 ha.1.2 ha.2 rfl hu (handed_of hr hn) (p W1 mv σ1 u _ h1 (h2.trans (Same.of s1 s1.heap _)) q hr (st1.toks rfl))
theorem pv_attr {e : Expr} {name : Str} {pos : Pos} {i c j kvs mv} (h : PV G F ρ σ e (.loc i)) (I : IsInst σ i c j kvs) (ha : attrOk G.K c name = true) (hm : (name, mv) ∈ kvs) (hn : noRaw mv = true)
    (he : ∀ env, eval (.Attribute e name pos) env = (do let o ← eval e env; standAt pos.atName; let r ← holding [o] (getAttr o name true); letTemporaryGo e o r; pure r)) : PV G F ρ σ (.Attribute e name pos) mv :=
  fun Q X q => he_attr (h _ X ⟨i, c, j, kvs, mv, rfl, I, ha, hm, hn, q⟩) he

/-! items -/
inductive Sub (σ : MH) : MV → MV → MV → Prop
  | list {l xs} {k : Int} {x} : σ l = some (.list xs) → 0 ≤ k → xs[k.toNat]? = some x → Sub σ (.loc l) (.int k) x
  | tup {xs} {k : Int} {x} : 0 ≤ k → k < 1000 → xs[k.toNat]? = some x → Sub σ (.tup xs) (.int k) x
  | bytes {b : List UInt8} {k : Int} : 0 ≤ k → k < b.length → b.length ≤ 1000000 → Sub σ (.bytes b) (.int k) (.int (b.getD k.toNat 0).toNat)
  | dict {l kvs name x} : σ l = some (.dict kvs) → (name, x) ∈ kvs → Sub σ (.loc l) (.str name) x

theorem vreps_get {W : Wd} : ∀ {xs vs}, VReps W xs vs → ∀ {k : Nat} {x}, xs[k]? = some x → ∃ v, vs[k]? = some v ∧ VRep W x v := by
  intro xs
  induction xs with
  | nil => intro vs q k x h; simp at h
  | cons y xs ih =>
    intro vs q k x h
    cases q with
    | cons a r =>
      cases k with
      | zero => simp at h; subst h; exact ⟨_, rfl, a⟩
      | succ k => simp at h; obtain ⟨v, h1, h2⟩ := ih r h; exact ⟨v, by simpa using h1, h2⟩
theorem vreps_len {W : Wd} : ∀ {xs vs}, VReps W xs vs → vs.length = xs.length := by
  intro xs
  induction xs with
  | nil => intro vs q; cases q; rfl
  | cons x xs ih =>
    intro vs q
    cases q with
    | cons a r => simp [ih r]
theorem kvs_get {W : Wd} {name : Str} : ∀ {kvs vs}, KVs W kvs vs → (kvs.map (·.1)).Nodup → ∀ {mv}, (name, mv) ∈ kvs → ∃ v, (vs.find? fun kv => kv.1 = name).map (·.2) = some v ∧ VRep W mv v := by
  intro kvs vs q
  induction q with
  | nil => intro _ _ h; cases h
  | @cons k x v xs vs a r ih =>
    intro nd mv h
    rw [List.map_cons, List.nodup_cons] at nd
    rw [List.find?_cons]
    by_cases hk : k = name
    · subst hk
      rcases List.mem_cons.mp h with e | h
      · cases e; exact ⟨v, by simp, a⟩
      · exact absurd (List.mem_map_of_mem (f := (·.1)) h) nd.1
    · rcases List.mem_cons.mp h with e | h
      · cases e; exact absurd rfl hk
      · obtain ⟨u, hu, hr⟩ := ih nd.2 h
        refine ⟨u, ?_, hr⟩
        rw [show decide (k = name) = false from decide_eq_false hk]
        exact hu
theorem kvs_len {W : Wd} {kvs vs} (q : KVs W kvs vs) : vs.length = kvs.length := by
  induction q with
  | nil => rfl
  | cons _ _ ih => simp [ih]
theorem kvs_keys {W : Wd} {kvs vs} (q : KVs W kvs vs) : vs.map (·.1) = kvs.map (·.1) := by
  induction q with
  | nil => rfl
  | cons _ _ ih => simp [ih]

theorem sub_ok {C : Cx} {W : Wd} {s : Shared} {E : Value → Shared → Prop} {QQ : Value → Shared → Prop} {value slice : Expr} {x y z vx vy} (st : St G F C W ρ σ s) (h : Sub σ x y z) (hx : VRep W x vx) (hy : VRep W y vy)
    (hs : ∀ o i, subscripted slice false o i = operate [o, i] (getItem o i)) (q : ∀ vz s', s'.heap = s.heap → Same s s' → VRep W z vz → QQ vz s') : wpAny G.M (C.A F) (subscriptTail value slice vx vy) QQ E s := by
  obtain ⟨m, led, hF, hN, hl, hm⟩ := st.ex
  cases h with
  | list e h0 hk =>
    obtain ⟨_, rfl, ha⟩ := hx.locv
    · skip
      obtain ⟨_, rfl⟩ := hy.intv
      obtain ⟨a, ob, h1, h2, h3⟩ := hm.obj _ _ e
      rw [ha] at h1
      cases h1
      cases h3 with
      | list hv hz =>
        obtain ⟨v, h4, h5⟩ := vreps_get hv hk
        have hlt := (List.getElem?_eq_some_iff.mp hk).1
        have hL : s.heap.IsList _ (List.toArray _) := ⟨_, (hN _ h2).1, rfl, _, rfl⟩
        exact tail_any (T := "list") (id := "list.__getitem__") ⟨_, (hN _ h2).1, rfl⟩ slot_list_getitem.lookup (getItem_listL hL h0 (by lia) h4 (q v s rfl (.refl s) h5)) (hs _ _)
  | tup h0 h1000 hk =>
    obtain ⟨_, _, _, rfl, mm, rs⟩ := hx.tupv
    · skip
      obtain ⟨_, rfl⟩ := hy.intv
      obtain ⟨v, h4, h5⟩ := vreps_get rs hk
      have hlt := (List.getElem?_eq_some_iff.mp h4).1
      refine tail_any (T := "tuple") (id := "tuple.__getitem__") ⟨_, (hN _ (hm.im _ mm)).1, rfl⟩ PyProof.Rows.slot_tuple_getitem.lookup (PyProof.Rows.getItem_tuple (items := _) ⟨_, (hN _ (hm.im _ mm)).1, rfl, _, rfl⟩ (by lia) (by lia) (j := _) ?_ (by simpa using h4) (q v s rfl (.refl s) h5)) (hs _ _)
      exact seqIndex_of h0 (by rw [List.size_toArray]; lia)
  | bytes h0 hk hz =>
    obtain ⟨_, rfl⟩ := hx.bytesv
    obtain ⟨_, rfl⟩ := hy.intv
    exact tail_any (T := "bytes") (id := "bytes.__getitem__") (typeIs_bytes _ _ _) FB.slot_bytes_getitem.lookup (getItem_bytes (by lia) h0 hk (q _ _ rfl (Same.of s s.heap _) (.int _ _))) (hs _ _)
  | dict e hmem =>
    obtain ⟨_, rfl, ha⟩ := hx.locv
    · skip
      obtain ⟨_, rfl⟩ := hy.strv
      obtain ⟨a, ob, h1, h2, h3⟩ := hm.obj _ _ e
      rw [ha] at h1
      cases h1
      cases h3 with
      | dict hv hd nd hz =>
        obtain ⟨v, h4, h5⟩ := kvs_get hv nd hmem
        exact tail_any (kda_dict hN h2 hd).typeIs slot_dict_getitem.lookup (kdt_getItem (knd := strKind _ _) hN h2 hd (strKind_is _ _ _ _) h4 (q v _ rfl (Same.of s s.heap _) h5)) (hs _ _)

theorem he_sub {o i : Expr} {pos : Pos} {Q : MV → MH → Prop} (h : HE G F ρ σ o (fun x σ1 => HE G F ρ σ1 i (fun y σ2 => ∃ z, Sub σ2 x y z ∧ Q z σ2) X) X) (hs : ∀ a b, subscripted i false a b = operate [a, b] (getItem a b)) :
    HE G F ρ σ (.Subscript o i pos) Q X := by
  intro C W s QQ EE st eo p px
  refine Subscript_ (he_use h st eo px fun W1 x σ1 v s1 h1 h2 q r1 st1 px1 => he_use q st1 eo px1 fun W2 y σ2 u s2 h3 h4 q2 r2 st2 px2 => ?_)
  obtain ⟨z, hz, q3⟩ := q2
  exact sub_ok st2 hz (r1.mono h3) r2 hs fun vz s3 e1 e2 r3 => p W2 z σ2 vz s3 (h1.trans h3) ((h2.trans h4).trans e2) q3 r3 (st2.toks e1)
theorem pv_sub {o i : Expr} {pos : Pos} {x y z} (ho : PV G F ρ σ o x) (hi : PV G F ρ σ i y) (hz : Sub σ x y z) (hs : ∀ a b, subscripted i false a b = operate [a, b] (getItem a b)) : PV G F ρ σ (.Subscript o i pos) z :=
  fun Q X q => he_sub (ho _ X (hi _ X ⟨z, hz, q⟩)) hs

end
end Mine
end
section
set_option Elab.async false
set_option linter.all false
set_option maxRecDepth 100000
set_option genSizeOf false
set_option genInjectivity false
namespace Mine
open PySem PySem.W PySem.Calls PyProof.Rows PySem.Spec

section
variable {G : Gl} {F : Fx} {ρ : Loc} {σ : MH} {X : MX → MH → Prop}

/-! a state moved by the library's rules -/
theorem St.grow {C : Cx} {W : Wd} {s s' : Shared} (st : St G F C W ρ σ s) {m led a o ob} (hF' : Fr C.h₀ C.L s'.heap m) (hN' : News C.h₀ C.L s'.heap ((a, ob) :: led)) (hl : LRep W F ρ m) (hm : Mem G W σ led) (hf : ∀ p ∈ led, p.1 < a) (hr : ORep G (W.grow a) o ob) :
    St G F C (W.grow a) ρ (upd σ W.as.length o) s' := ⟨st.ok, m, _, hF', hN', hl.mono (W.grow_le a), mem_grow hm hf hr⟩
theorem St.keep {C : Cx} {W : Wd} {s s' : Shared} (st : St G F C W ρ σ s) {m led a ob} (hF' : Fr C.h₀ C.L s'.heap m) (hN' : News C.h₀ C.L s'.heap ((a, ob) :: led)) (hl : LRep W F ρ m) (hm : Mem G W σ led) (hf : ∀ p ∈ led, p.1 < a) :
    St G F C (W.keep (a, ob)) ρ σ s' := ⟨st.ok, m, _, hF', hN', hl.mono (W.keep_le _), mem_keepNew hm hf⟩
theorem St.set {C : Cx} {W : Wd} {s s' : Shared} (st : St G F C W ρ σ s) {m led a i o' ob'} (hF' : Fr C.h₀ C.L s'.heap m) (hN' : News C.h₀ C.L s'.heap ((a, ob') :: but led a)) (hl : LRep W F ρ m) (hm : Mem G W σ led) (ha : W.as[i]? = some a) (hr : ORep G W o' ob') :
    St G F C W ρ (upd σ i o') s' := ⟨st.ok, m, _, hF', hN', hl, mem_upd hm ha hr⟩

/-! arguments -/
noncomputable def notStar : Expr → Bool
  | .Starred .. => false
  | _ => true
theorem starEach_cons {e : Expr} {rest : List Expr} {env : Env} (h : notStar e = true) : starEach (e :: rest) env = (false, eval e env) :: starEach rest env := by
  cases e <;> first | rfl | cases h
theorem starEach_plain {env : Env} : ∀ {es : List Expr}, es.all notStar = true → (starEach es env).any (·.1) = false
  | [], _ => rfl
  | e :: r, h => by
    rw [List.all_cons, Bool.and_eq_true] at h
    rw [starEach_cons h.1, List.any_cons, starEach_plain h.2]; rfl

theorem ha_nil {Q : List MV → MH → Prop} (q : Q [] σ) : HA G F ρ σ [] Q X := fun pos C W s QQ EE st eo p px => spliced_none (p W [] σ [] s (.refl W) (.refl s) q .nil st)
theorem ha_cons {e rest} {Q : List MV → MH → Prop} (h : HE G F ρ σ e (fun x σ1 => HA G F ρ σ1 rest (fun xs σ2 => Q (x :: xs) σ2) X) X) (he : notStar e = true) : HA G F ρ σ (e :: rest) Q X := by
  intro pos C W s QQ EE st eo p px
  refine spliced_more (he_use h st eo px fun W1 x σ1 v s1 h1 h2 q r1 st1 px1 => ?_) (starEach_cons he)
  exact q pos C W1 s1 _ EE st1 eo (fun W2 xs σ2 vs s2 h3 h4 q2 r2 st2 => p W2 _ σ2 _ s2 (h1.trans h3) (h2.trans h4) q2 (.cons (r1.mono h3) r2) st2) px1

/-- pure arguments -/
inductive PA (G : Gl) (F : Fx) (ρ : Loc) (σ : MH) : List Expr → List MV → Prop
  | nil : PA G F ρ σ [] []
  | cons {e x es xs} : PV G F ρ σ e x → notStar e = true → PA G F ρ σ es xs → PA G F ρ σ (e :: es) (x :: xs)
theorem ha_pa {es xs} {Q : List MV → MH → Prop} (h : PA G F ρ σ es xs) (q : Q xs σ) : HA G F ρ σ es Q X := by
  induction h generalizing Q with
  | nil => exact ha_nil q
  | cons hp hn _ ih => exact ha_cons (hp _ X (ih q)) hn

/-! displays -/
theorem he_tuple {es k pos} {Q : MV → MH → Prop} (h : HA G F ρ σ es (fun xs σ1 => xs.length ≤ 1000 ∧ Q (.tup xs) σ1) X) : HE G F ρ σ (.Tuple es k pos) Q X := by
  intro C W s QQ EE st eo p px
  refine Tuple_ (h pos C W s _ EE st eo (fun W1 xs σ1 vs s1 h1 h2 q r1 st1 => ?_) px)
  obtain ⟨m, led, hF, hN, hl, hm⟩ := st1.ex
  have hz := vreps_len r1
  refine newTuple_N hF hN (fun h' F' N' => ?_) (by rw [sizeLine_eq]; lia)
  exact p _ _ σ1 _ _ (h1.trans (W1.keep_le _)) (h2.trans (Same.of s1 h' _)) q.2 (.tup (n := 0) (vs := vs) (.head _) (r1.mono (W1.keep_le _))) (st1.keep (s' := { s1 with heap := h' }) F' N' hl hm fun p hp => Heap.lt_size (hN p hp).1)
theorem he_list {es pos} {Q : MV → MH → Prop} (h : HA G F ρ σ es (fun xs σ1 => xs.length ≤ 65536 ∧ ∀ l, σ1 l = none → Q (.loc l) (upd σ1 l (.list xs))) X) : HE G F ρ σ (.List es pos) Q X := by
  intro C W s QQ EE st eo p px
  refine List_ (h pos C W s _ EE st eo (fun W1 xs σ1 vs s1 h1 h2 q r1 st1 => ?_) px)
  obtain ⟨m, led, hF, hN, hl, hm⟩ := st1.ex
  have hz := vreps_len r1
  refine newList_K hF hN (fun l h' F' N' hlt => ?_) (by rw [sizeLine_eq]; lia)
  exact p _ _ _ _ _ (h1.trans (W1.grow_le l)) (h2.trans (Same.of s1 h' _)) (q.2 _ (mem_fresh hm)) (.loc (W1.grow_get l)) (st1.grow (s' := { s1 with heap := h' }) F' N' hl hm hlt (.list (r1.mono (W1.grow_le l)) q.1))

/-! calls -/
noncomputable def keepsG (K : Frag) : Value → Bool
  | .builtin _ => true
  | .type _ => true
  | .ref a => keepIn K (.ref a)
  | _ => false
theorem keeps_any {K : Frag} {M : Model} {f : Value} (h : keepsG K f = true) (hp : Heap) (X : K.In hp) : ∃ k, (k = Keeper.frame ∨ k = Keeper.machine ∨ k = Keeper.boundFrame) ∧ Looks M hp (keeperOf f) k := by
  cases f with
  | builtin i => exact ⟨.machine, .inr (.inl rfl), Looks.of_pure rfl⟩
  | type i => exact ⟨.machine, .inr (.inl rfl), Looks.of_pure rfl⟩
  | ref a => exact keeps_K (K := K) (f := .ref a) h hp X
  | _ => cases h

theorem vreps_app {W : Wd} : ∀ {xs vs ys us}, VReps W xs vs → VReps W ys us → VReps W (xs ++ ys) (vs ++ us) := by
  intro xs
  induction xs with
  | nil => intro vs ys us q h; cases q; exact h
  | cons x xs ih =>
    intro vs ys us q h
    cases q with
    | cons a r => exact .cons a (ih r h)
theorem callWith_h {C : Cx} {W : Wd} {s : Shared} {QQ EE : Value → Shared → Prop} {f : Value} {first : List MV} {fv : List Value} {args : List Expr} {pos : Pos} {Q : MV → MH → Prop} {σ0 : MH}
    (hk : keepsG G.K f = true) (ha : args.all notStar = true) (hfr : VReps W first fv) (hd : F.hd = false)
    (h : HA G F ρ σ args (fun vs σ1 => HC G F.n f (first ++ vs) σ1 Q X) X) (st : St G F C W ρ σ s) (eo : EOk G F C EE) (p : Post G F C W s VRep ρ Q QQ) (px : PostX G F C W s X EE) :
    wpAny G.M (C.A F) (callWith pos f fv (backTo pos (starEach args (C.env F))) []) QQ EE s := by
  refine callWith_of (P := G.K.In) ?_ (fun hp => keeps_any hk hp) ?_
  · rw [show (backTo pos (starEach args (C.env F))).any (·.1) = (starEach args (C.env F)).any (·.1) from by simp [backTo, List.any_map, Function.comp_def], starEach_plain ha]; rfl
  · have main : wpAny G.M (C.A F) (spliced (backTo pos (starEach args (C.env F)))) (fun vs s' => G.K.In s'.heap ∧ wpAny G.M (C.A F) (call f (fv ++ vs) []) QQ EE s') EE s := by
      refine h pos C W s _ EE st eo (fun W1 xs σ1 vs s1 h1 h2 q r1 st1 => ⟨?_, ?_⟩) px
      · obtain ⟨m, led, hF, hN, hl, hm⟩ := st1.ex
        exact st.ok.inK.keeps hF.keep
      · refine q F C W1 ρ s1 _ QQ EE (Nat.le_refl _) hd st1 ?_ (p.from h1 h2) fun W' x σ' e s' k1 k2 k3 k4 k5 => px W' x σ' e s' (h1.trans k1) (h2.trans k2) k3 ⟨k4, .inr k5⟩
        exact vreps_app (hfr.mono h1) r1
    cases args with
    | nil =>
      show wpAny _ _ (evalArgs f true [] []) _ _ s
      have main' : wpAny G.M (C.A F) (spliced []) (fun vs s' => G.K.In s'.heap ∧ wpAny G.M (C.A F) (call f (fv ++ vs) []) QQ EE s') EE s := main
      unfold evalArgs
      show wpAny _ _ (spliced [] >>= _) _ _ s
      refine wpAny_bind (wpAny_mono main' (fun vs s' h' => ?_) fun _ _ x => x)
      refine wpAny_bind (wpAny_pure ?_)
      refine wpAny_holding ?_
      exact wpAny_bind (wpAny_pure (wpAny_bind (wpAny_pure (wpAny_pure h'))))
    | cons e r =>
      rw [List.all_cons, Bool.and_eq_true] at ha
      rw [starEach_cons ha.1] at main ⊢
      exact evalArgs_plain main

theorem he_call {id : Str} {np pos : Pos} {args : List Expr} {Q : MV → MH → Prop} (h : HE G F ρ σ (.Name id np) (fun f σ0 => ∃ fv, f = .raw fv ∧ keepsG G.K fv = true ∧ HA G F ρ σ0 args (fun vs σ1 => HC G F.n fv vs σ1 Q X) X) X)
    (ha : args.all notStar = true) (hd : F.hd = false) : HE G F ρ σ (.Call (.Name id np) args [] pos) Q X := by
  intro C W s QQ EE st eo p px
  refine wpAny_Call_Name_kw (he_use h st eo px fun W1 x σ1 v s1 h1 h2 q r1 st1 px1 => ?_)
  obtain ⟨fv, rfl, hk, q⟩ := q
  cases r1 with
  | raw => exact callWith_h (first := []) (σ0 := σ1) hk ha .nil hd q st1 eo (p.from h1 h2) px1

/-- methods of instances -/
noncomputable def methOk (K : Frag) (c : Addr) (name : Str) (f : Addr) : Bool := plainGet K c name && findIn K (.ref c) name == some (some (.ref f)) && isFn K (.ref f) && keepIn K (.ref f)

noncomputable def MethTree (o : Expr) (name : Str) (apos pos : Pos) (args : List Expr) : Prop := ∃ pl : Env → Sem Bool, ∀ env, eval (.Call (.Attribute o name apos) args [] pos) env = (do
      let ov ← eval o env
      standAt apos.atName
      let (f, first) ← holding [ov] (getMethod ov name (pl env))
      callWith pos f first (backTo pos (starEach args env)) (backToKw pos (keywordEach [] env)))

theorem he_meth {o : Expr} {name : Str} {apos pos : Pos} {args : List Expr} {Q : MV → MH → Prop}
    (h : HE G F ρ σ o (fun x σ0 => ∃ i c j kvs f, x = .loc i ∧ IsInst σ0 i c j kvs ∧ methOk G.K c name f = true ∧ name ∉ kvs.map (·.1) ∧ HA G F ρ σ0 args (fun vs σ1 => HC G F.n (.ref f) (.loc i :: vs) σ1 Q X) X) X)
    (ht : MethTree o name apos pos args) (ha : args.all notStar = true) (hd : F.hd = false) : HE G F ρ σ (.Call (.Attribute o name apos) args [] pos) Q X := by
  intro C W s QQ EE st eo p px
  obtain ⟨pl, he⟩ := ht
  refine methodCall_KW (he_use h st eo px fun W1 x σ1 v s1 h1 h2 q r1 st1 px1 => ?_) (he _)
  obtain ⟨i, c, j, kvs, f, rfl, I, hm, hk, q⟩ := q
  obtain ⟨m, led, hF, hN, hl, hmem⟩ := st1.ex
  obtain ⟨_, rfl, hx⟩ := r1.locv
  · skip
    obtain ⟨dx, es, n, hj, hi1, hi2, hes, nd, hz, IA⟩ := inst_at hN hmem I hx
    simp only [methOk, Bool.and_eq_true, beq_iff_eq] at hm
    refine method_inst hF st1.ok.inK IA hm.1.1.1 hm.1.1.2 hm.1.2 (ents_miss hes hk) ?_
    exact callWith_h (first := [.loc i]) (σ0 := σ1) hm.2 ha (.cons (.loc hx) .nil) hd q st1 eo (p.from h1 h2) px1

/-! statements -/
noncomputable def HX (G : Gl) (F : Fx) (ρ : Loc) (σ : MH) (t : Stmt) (Q : MFlow → Loc → MH → Prop) (X : MX → MH → Prop) : Prop :=
  ∀ C W s QQ EE, St G F C W ρ σ s → EOk G F C EE →
    (∀ W' fl ρ' σ' f s', W.le W' → Same s s' → Q fl ρ' σ' → FlRep W' fl f → St G F C W' ρ' σ' s' → QQ f s') → PostX G F C W s X EE → wpAny G.M (C.A F) (exec t (C.env F)) QQ EE s

noncomputable def Nx (G : Gl) (F : Fx) (rest : List Stmt) (Q : MFlow → Loc → MH → Prop) (X : MX → MH → Prop) : MFlow → Loc → MH → Prop
  | .next, ρ, σ => HS G F ρ σ rest Q X
  | fl, ρ, σ => Q fl ρ σ

theorem hs_nil {Q : MFlow → Loc → MH → Prop} (q : Q .next ρ σ) : HS G F ρ σ [] Q X := fun C W s QQ EE st eo p px => wpAny_execs_nil (p W .next ρ σ .next s (.refl W) (.refl s) q .next st)
theorem hs_cons {t rest} {Q : MFlow → Loc → MH → Prop} (h : HX G F ρ σ t (Nx G F rest Q X) X) : HS G F ρ σ (t :: rest) Q X := by
  intro C W s QQ EE st eo p px
  refine wpAny_execs_cons (h C W s _ EE st eo (fun W1 fl ρ1 σ1 f s1 h1 h2 q r st1 => ?_) px)
  cases r with
  | next => exact q C W1 s1 QQ EE st1 eo (fun W2 fl ρ2 σ2 f s2 h3 h4 q2 r2 st2 => p W2 fl ρ2 σ2 f s2 (h1.trans h3) (h2.trans h4) q2 r2 st2) (px.from h1 h2)
  | brk => exact p W1 _ ρ1 σ1 _ s1 h1 h2 q .brk st1
  | cont => exact p W1 _ ρ1 σ1 _ s1 h1 h2 q .cont st1
  | ret hr => exact p W1 _ ρ1 σ1 _ s1 h1 h2 q (.ret hr) st1

theorem hx_ret {e pos} {Q : MFlow → Loc → MH → Prop} (h : HE G F ρ σ e (fun x σ1 => Q (.ret x) ρ σ1) X) : HX G F ρ σ (.Return (some e) pos) Q X := by
  intro C W s QQ EE st eo p px
  exact wpAny_Return_some (he_use h st eo px fun W1 x σ1 v s1 h1 h2 q r st1 _ => p W1 _ ρ σ1 _ s1 h1 h2 q (.ret r) st1)
theorem hx_brk {pos} {Q : MFlow → Loc → MH → Prop} (q : Q .brk ρ σ) : HX G F ρ σ (.Break pos) Q X := fun C W s QQ EE st eo p px => wpAny_Break (p W _ ρ σ _ s (.refl W) (.refl s) q .brk st)
theorem hx_pass {pos} {Q : MFlow → Loc → MH → Prop} (q : Q .next ρ σ) : HX G F ρ σ (.Pass pos) Q X := fun C W s QQ EE st eo p px => wpAny_Pass (p W _ ρ σ _ s (.refl W) (.refl s) q .next st)
theorem hx_if {t b o pos} {Q : MFlow → Loc → MH → Prop} (h : HB G F ρ σ t (fun c σ1 => (c = true → HS G F ρ σ1 b Q X) ∧ (c = false → HS G F ρ σ1 o Q X)) X) : HX G F ρ σ (.If t b o pos) Q X := by
  intro C W s QQ EE st eo p px
  refine wpAny_If (hb_use h st eo px fun W1 c σ1 s1 h1 h2 q st1 px1 => ?_)
  cases c with
  | true => exact q.1 rfl C W1 s1 QQ EE st1 eo (fun W2 fl ρ2 σ2 f s2 h3 h4 q2 r2 st2 => p W2 fl ρ2 σ2 f s2 (h1.trans h3) (h2.trans h4) q2 r2 st2) px1
  | false => exact q.2 rfl C W1 s1 QQ EE st1 eo (fun W2 fl ρ2 σ2 f s2 h3 h4 q2 r2 st2 => p W2 fl ρ2 σ2 f s2 (h1.trans h3) (h2.trans h4) q2 r2 st2) px1

theorem hx_expr {e pos} {Q : MFlow → Loc → MH → Prop} (h : HE G F ρ σ e (fun x σ1 => x = .none ∧ Q .next ρ σ1) X) (hi : ∀ env : Env, env.scope.kind = .function → interactive env = false) (hs : ∀ env, swapsWith e none pos.line env = pure false) : HX G F ρ σ (.Expr e pos) Q X := by
  intro C W s QQ EE st eo p px
  refine wpAny_Expr (he_use h st eo px fun W1 x σ1 v s1 h1 h2 q r st1 _ => ?_) (hi _ st.ok.kind) (hs _)
  obtain ⟨rfl, q⟩ := q
  cases r
  exact p W1 _ ρ σ1 _ s1 h1 h2 q .next st1

/-! stores -/
inductive LPut (x : Str) (mv : MV) : Loc → Loc → Prop
  | here {u r} : LPut x mv ((x, u) :: r) ((x, some mv) :: r)
  | there {p r r'} : LPut x mv r r' → LPut x mv (p :: r) (p :: r')
theorem LPut.keys {x mv} {ρ ρ' : Loc} (q : LPut x mv ρ ρ') : ρ'.map (·.1) = ρ.map (·.1) := by
  induction q with
  | here => rfl
  | there _ ih => simp [ih]
theorem LPut.mem {x mv} {ρ ρ' : Loc} (q : LPut x mv ρ ρ') : x ∈ ρ.map (·.1) := by
  induction q with
  | here => exact .head _
  | there _ ih => exact .tail _ ih
theorem LPut.old {x mv} {ρ ρ' : Loc} (q : LPut x mv ρ ρ') : (ρ.map (·.1)).Nodup → ∀ {y u}, (y, u) ∈ ρ' → (y = x ∧ u = some mv) ∨ (y ≠ x ∧ (y, u) ∈ ρ) := by
  induction q with
  | here =>
    intro nd y u h
    rw [List.map_cons, List.nodup_cons] at nd
    rcases List.mem_cons.mp h with e | h
    · cases e; exact .inl ⟨rfl, rfl⟩
    · exact .inr ⟨fun z => nd.1 (z ▸ List.mem_map_of_mem (f := (·.1)) h), .tail _ h⟩
  | there hh ih =>
    intro nd y u h
    rw [List.map_cons, List.nodup_cons] at nd
    rcases List.mem_cons.mp h with e | h
    · subst e
      exact .inr ⟨fun z => by subst z; exact nd.1 hh.mem, .head _⟩
    · rcases ih nd.2 h with q | q
      · exact .inl q
      · exact .inr ⟨q.1, .tail _ q.2⟩

theorem lrep_put {W : Wd} {ρ' m x mv v} (hl : LRep W F ρ m) (h : LPut x mv ρ ρ') (hr : VRep W mv v) : LRep W F ρ' (fun y => if y = x then some v else m y) := by
  refine ⟨h.keys ▸ hl.nd, fun p hp => ?_, fun y u hy => ?_, hl.cells⟩
  · have : p.1 ∈ ρ'.map (·.1) := List.mem_map_of_mem hp
    rw [h.keys] at this
    obtain ⟨q, hq, e⟩ := List.mem_map.mp this
    rw [← e]; exact hl.kind q hq
  · rcases h.old hl.nd hy with ⟨rfl, e⟩ | ⟨hne, hm⟩
    · cases e; exact ⟨v, if_pos rfl, hr⟩
    · obtain ⟨u', h1, h2⟩ := hl.val y u hm
      exact ⟨u', (if_neg hne).trans h1, h2⟩

theorem store_loc {C : Cx} {W : Wd} {s : Shared} {QQ : Unit → Shared → Prop} {EE : Value → Shared → Prop} {x mv v ρ'} (st : St G F C W ρ σ s) (h : LPut x mv ρ ρ') (hr : VRep W mv v)
    (k : ∀ s', Same s s' → St G F C W ρ' σ s' → QQ () s') : wpAny G.M (C.A F) (storeName (C.env F) x v) QQ EE s := by
  obtain ⟨m, led, hF, hN, hl, hm⟩ := st.ex
  obtain ⟨q, hq, e⟩ := List.mem_map.mp h.mem
  have hk := (hl.kind q hq).1
  rw [e] at hk
  refine storeX_L hF hN (fun h' F' N' => ?_) st.ok.kind hk
  exact k _ (Same.of s h' _) ⟨st.ok, _, led, F', N', lrep_put hl h hr, hm⟩

theorem hx_assign {x np e pos} {Q : MFlow → Loc → MH → Prop} (h : HE G F ρ σ e (fun v σ1 => ∃ ρ', LPut x v ρ ρ' ∧ Q .next ρ' σ1) X) (hs : ∀ env, swapsWith e (some (.Name x np)) pos.line env = pure false) : HX G F ρ σ (.Assign [.Name x np] e pos) Q X := by
  intro C W s QQ EE st eo p px
  refine wpAny_Assign_Name (he_use h st eo px fun W1 x σ1 v s1 h1 h2 q r st1 _ => ?_) (hs _)
  obtain ⟨ρ', hp, q⟩ := q
  exact store_loc st1 hp r fun s2 h3 st2 => p W1 _ ρ' σ1 _ s2 h1 (h2.trans h3) q .next st2

inductive Put (x : Str) (mv : MV) : List (Str × MV) → List (Str × MV) → Prop
  | here {u r} : Put x mv ((x, u) :: r) ((x, mv) :: r)
  | there {p r r'} : Put x mv r r' → Put x mv (p :: r) (p :: r')
theorem Put.keys {x mv k k'} (q : Put x mv k k') : k'.map (·.1) = k.map (·.1) := by
  induction q with
  | here => rfl
  | there _ ih => simp [ih]
theorem Put.mem {x mv k k'} (q : Put x mv k k') : x ∈ k.map (·.1) := by
  induction q with
  | here => exact .head _
  | there _ ih => exact .tail _ ih

theorem ents_put {W : Wd} {x : Str} {mv v hs key} : ∀ {kvs kvs'}, Put x mv kvs kvs' → (kvs.map (·.1)).Nodup → ∀ {es}, Ents W kvs es → VRep W mv v → Ents W kvs' (putL x hs key v es) ∧ es.any (·.key.isStr x) = true ∧ (getL x es).isSome = true ∧ (putL x hs key v es).length = es.length := by
  intro kvs kvs' q
  induction q with
  | here =>
    intro nd es z hr
    cases z with
    | cons a r =>
    unfold putL
    have hb : ∀ t, Value.isStr (.str x t) x = true := fun t => by simp [Value.isStr]
    simp only [hb, if_true]
    refine ⟨.cons hr r, by simp [hb], ?_, by simp⟩
    unfold getL; rw [List.find?_cons]; simp [hb]
  | there hp ih =>
    intro nd es z hr
    cases z with
    | @cons k _ _ _ _ _ es a r =>
    rw [List.map_cons, List.nodup_cons] at nd
    have hk : k ≠ x := fun z => by subst z; exact nd.1 hp.mem
    have hb : ∀ t, Value.isStr (.str k t) x = false := fun t => by simp [Value.isStr, hk]
    obtain ⟨h1, h2, h3, h4⟩ := ih nd.2 r hr
    unfold putL
    simp only [hb, Bool.false_eq_true, if_false]
    refine ⟨.cons a h1, by simp [hb, h2], ?_, by simp [h4]⟩
    unfold getL at h3 ⊢
    rw [List.find?_cons]
    simp only [hb]
    split at h3
    · rename_i he; simp [he]
    · rename_i he
      rw [he]
      split at h3
      · cases h3
      · rename_i hh
        have hb2 : (es.any fun x => x.refKey) = false := by cases q : (es.any fun x => x.refKey) with | true => exact absurd q hh | false => rfl
        rw [List.any_cons, hb2]; rfl
theorem ents_len {W : Wd} {kvs es} (q : Ents W kvs es) : es.length = kvs.length := by
  induction q with
  | nil => rfl
  | cons _ _ ih => simp [ih]
theorem ents_new {W : Wd} {x : Str} {mv v hs t} : ∀ {kvs es}, Ents W kvs es → x ∉ kvs.map (·.1) → VRep W mv v → Ents W (kvs ++ [(x, mv)]) (putL x hs (.str x t) v es) ∧ es.any (·.key.isStr x) = false ∧ (putL x hs (.str x t) v es).length = es.length + 1
 := by
  intro kvs es q
  induction q with
  | nil => intro _ hr; exact ⟨.cons hr .nil, rfl, rfl⟩
  | @cons k x0 v0 hs0 t0 xs es a r ih =>
    intro h hr
    rw [List.map_cons, List.mem_cons, not_or] at h
    have hb : ∀ t, Value.isStr (.str k t) x = false := fun t => by simp [Value.isStr]; exact fun z => h.1 z.symm
    obtain ⟨h1, h2, h3⟩ := ih h.2 hr
    unfold putL
    simp only [hb, Bool.false_eq_true, if_false]
    exact ⟨.cons a h1, by simp [hb, h2], by simp [h3]⟩

noncomputable def setOk (K : Frag) (c : Addr) (name : Str) : Bool := findIn K (.ref c) "__setattr__" == some (some (.builtin "object.__setattr__")) && plainOver K c && takerIn K c name == some none && hasDictIn K c

/-- the attribute's place, or a new one behind -/
inductive APut (x : Str) (mv : MV) (k : List (Str × MV)) : List (Str × MV) → Prop
  | old {k'} : Put x mv k k' → APut x mv k k'
  | new : x ∉ k.map (·.1) → k.length < 60 → APut x mv k (k ++ [(x, mv)])

theorem set_attr {C : Cx} {W : Wd} {s : Shared} {QQ : Unit → Shared → Prop} {EE : Value → Shared → Prop} {i c j kvs kvs' name mv x v} (st : St G F C W ρ σ s) (I : IsInst σ i c j kvs) (ho : setOk G.K c name = true) (hx : W.as[i]? = some x) (hp : APut name mv kvs kvs') (hr : VRep W mv v)
    (k : ∀ s', Same s s' → St G F C W ρ (upd σ j (.ns kvs')) s' → QQ () s') : wpAny G.M (C.A F) (setAttr (.ref x) name v) QQ EE s := by
  obtain ⟨m, led, hF, hN, hl, hm⟩ := st.ex
  obtain ⟨dx, es, n, hj, hi1, hi2, hes, nd, hz, IA⟩ := inst_at hN hm I hx
  simp only [setOk, Bool.and_eq_true, beq_iff_eq] at ho
  have key : ∃ es' n', (putL name (PyData.keyHash G.w.params name) (.str name (s.toks + 1)) v es, putN name es n) = (es', n') ∧ Ents W kvs' es' ∧ (kvs'.map (·.1)).Nodup ∧ kvs'.length ≤ 64 ∧ (getL name es).isSome = true ∧ es'.length ≤ 1000 := by
    cases hp with
    | old hp =>
      obtain ⟨h1, h2, h3, h4⟩ := ents_put (hs := PyData.keyHash G.w.params name) (key := .str name (s.toks + 1)) hp nd hes hr
      refine ⟨_, _, rfl, h1, hp.keys ▸ nd, ?_, h3, ?_⟩
      · have := congrArg List.length hp.keys
        simp only [List.length_map] at this
        lia
      · rw [h4, ents_len hes]; lia
    | new hnew hlt =>
      obtain ⟨h1, h2, h3⟩ := ents_new (hs := PyData.keyHash G.w.params name) (t := s.toks + 1) hes hnew hr
      refine ⟨_, _, rfl, h1, ?_, by simp; lia, ?_, ?_⟩
      · rw [List.map_append, List.nodup_append]
        refine ⟨nd, by simp, fun a ha b hb => ?_⟩
        simp at hb
        subst hb
        exact fun z => hnew (z ▸ ha)
      · rw [ents_miss hes hnew]; rfl
      · rw [h3, ents_len hes]; lia
  obtain ⟨es', n', e, hes', nd', hz', hsome, hz2⟩ := key
  refine PySem.W.set_dict hF st.ok.inK (news_but hN hi2) ⟨IA.at_, IA.cls, IA.no, IA.dict⟩ rfl ho.1.1.1 ho.1.1.2 ho.1.2 ho.2 hsome e (Upd.head but_ne) hz2 fun h' F' N' => ?_
  exact k _ (Same.of s h' _) (st.set (s' := { s with heap := h', toks := s.toks + 2 }) F' N' hl hm hj (.ns hes' nd' hz'))

theorem hx_setattr {o name ap e pos} {Q : MFlow → Loc → MH → Prop}
    (h : HE G F ρ σ e (fun mv σ1 => HE G F ρ σ1 o (fun x σ2 => ∃ i c j kvs kvs', x = .loc i ∧ IsInst σ2 i c j kvs ∧ setOk G.K c name = true ∧ APut name mv kvs kvs' ∧ Q .next ρ (upd σ2 j (.ns kvs'))) X) X)
    (hs : ∀ env, swapsWith e (some (.Attribute o name ap)) pos.line env = pure false) : HX G F ρ σ (.Assign [.Attribute o name ap] e pos) Q X := by
  intro C W s QQ EE st eo p px
  refine plainObj_wpAny_Assign_Attribute (he_use h st eo px fun W1 mv σ1 v s1 h1 h2 q r st1 px1 => he_use q st1 eo px1 fun W2 x σ2 u s2 h3 h4 q2 r2 st2 px2 => ?_) (hs _)
  obtain ⟨i, c, j, kvs, kvs', rfl, I, ho, hp, q3⟩ := q2
  obtain ⟨_, rfl, hx⟩ := r2.locv
  exact set_attr st2 I ho hx hp (r.mono h3) fun s3 h5 st3 => p W2 _ ρ _ _ s3 (h1.trans h3) ((h2.trans h4).trans h5) q3 .next st3

/-! items stored -/
theorem vreps_set {W : Wd} {mv v} (hr : VRep W mv v) : ∀ {xs vs}, VReps W xs vs → ∀ k : Nat, VReps W (xs.set k mv) (vs.set k v) := by
  intro xs
  induction xs with
  | nil => intro vs q k; cases q; exact .nil
  | cons x xs ih =>
    intro vs q k
    cases q with
    | cons a r =>
      cases k with
      | zero => exact .cons hr r
      | succ k => exact .cons a (ih r k)
theorem kvs_put {W : Wd} {x : Str} {mv v} (hr : VRep W mv v) : ∀ {kvs kvs'}, Put x mv kvs kvs' → (kvs.map (·.1)).Nodup → ∀ {vs}, KVs W kvs vs → KVs W kvs' (stored vs x v) := by
  intro kvs kvs' q
  induction q with
  | here =>
    intro nd vs z
    cases z with
    | @cons _ _ v0 _ vs a b =>
    rw [List.map_cons, List.nodup_cons] at nd
    have e : stored ((x, v0) :: vs) x v = (x, v) :: vs := by
      unfold stored
      rw [if_pos (by simp)]
      rw [List.map_cons, if_pos rfl]
      congr 1
      have hk := kvs_keys b
      refine (List.map_congr_left fun p hp => ?_).trans (List.map_id vs)
      have : p.1 ≠ x := fun z => nd.1 (by rw [← hk, ← z]; exact List.mem_map_of_mem hp)
      rw [if_neg this]; rfl
    rw [e]
    exact .cons hr b
  | there hp ih0 =>
    intro nd vs z
    cases z with
    | @cons k _ u _ vs a b =>
    rw [List.map_cons, List.nodup_cons] at nd
    have hk : k ≠ x := fun z => by subst z; exact nd.1 hp.mem
    have ih := ih0 nd.2 b
    have hin : vs.any (fun kv => decide (kv.1 = x)) = true := by
      have h1 := hp.mem
      rw [← kvs_keys b] at h1
      obtain ⟨q, hq, e⟩ := List.mem_map.mp h1
      exact List.any_eq_true.mpr ⟨q, hq, by simpa using e⟩
    have e : stored ((k, u) :: vs) x v = (k, u) :: stored vs x v := by
      unfold stored
      rw [List.any_cons, hin, Bool.or_true, if_pos rfl, if_pos rfl, List.map_cons, if_neg hk]
    rw [e]
    exact .cons a ih

inductive ISet (σ : MH) (mv : MV) : MV → MV → MH → Prop
  | list {l xs} {k : Int} : σ l = some (.list xs) → 0 ≤ k → k < xs.length → ISet σ mv (.loc l) (.int k) (upd σ l (.list (xs.set k.toNat mv)))
  | dict {l kvs kvs' name} : σ l = some (.dict kvs) → Put name mv kvs kvs' → ISet σ mv (.loc l) (.str name) (upd σ l (.dict kvs'))

theorem set_item {C : Cx} {W : Wd} {s : Shared} {QQ : Unit → Shared → Prop} {EE : Value → Shared → Prop} {mv x y σ' v vx vy} (st : St G F C W ρ σ s) (h : ISet σ mv x y σ') (hr : VRep W mv v) (hx : VRep W x vx) (hy : VRep W y vy)
    (k : ∀ s', Same s s' → St G F C W ρ σ' s' → QQ () s') : wpAny G.M (C.A F) (setItem vx vy v) QQ EE s := by
  obtain ⟨m, led, hF, hN, hl, hm⟩ := st.ex
  cases h with
  | @list li xs kk e h0 hk =>
    obtain ⟨a, rfl, ha⟩ := hx.locv
    · skip
      obtain ⟨_, rfl⟩ := hy.intv
      obtain ⟨a', ob, h1, h2, h3⟩ := hm.obj _ _ e
      rw [ha] at h1
      cases h1
      cases h3 with
      | @list _ vs n hv hz =>
        have hlen := vreps_len hv
        have N2 := news_but hN h2
        have z := N2 _ (.head _)
        refine ki_setAt z.1 h0 (by lia) (by rw [List.size_toArray]; lia) ?_
        have F' : Fr C.h₀ C.L (s.heap.update a (Obj.mapSeq (·.setIfInBounds kk.toNat v))) m := hF.change (Heap.SameBut.update ..) z.2.1 z.2.2
        have N' : News C.h₀ C.L (s.heap.update a (Obj.mapSeq (·.setIfInBounds kk.toNat v))) ((a, listOf (vs.set kk.toNat v).toArray n) :: but led a) :=
          ki_turn (pre := []) _ N2 (fun _ h => absurd h List.not_mem_nil) but_ne (by apply Array.toList_inj.mp; simp) (by simp)
        exact k _ (Same.of s _ _) (st.set (s' := { s with heap := _ }) F' N' hl hm ha (.list (vreps_set hr hv _) (by simpa using hz)))
  | dict e hp =>
    obtain ⟨_, rfl, ha⟩ := hx.locv
    · skip
      obtain ⟨_, rfl⟩ := hy.strv
      obtain ⟨a, ob, h1, h2, h3⟩ := hm.obj _ _ e
      rw [ha] at h1
      cases h1
      cases h3 with
      | dict hv hd nd hz =>
        refine kda_set (knd := strKind _ _) hF (news_but hN h2) (UpdF.head but_ne) hd (strKind_is _ _ _ _) (by rw [kvs_len hv, sizeLine_eq]; lia) fun h' o' F' N' hd' => ?_
        refine k _ (Same.of s h' _) (st.set (s' := { s with heap := h', toks := s.toks + 1 }) F' N' hl hm ha (.dict (kvs_put hr hp nd hv) hd' (hp.keys ▸ nd) ?_))
        have := congrArg List.length hp.keys
        simp only [List.length_map] at this
        lia
theorem hx_setitem {o i ip e pos} {Q : MFlow → Loc → MH → Prop}
    (h : HE G F ρ σ e (fun mv σ1 => HE G F ρ σ1 o (fun x σ2 => HE G F ρ σ2 i (fun y σ3 => ∃ σ4, ISet σ3 mv x y σ4 ∧ Q .next ρ σ4) X) X) X)
    (hs : ∀ env, swapsWith e (some (.Subscript o i ip)) pos.line env = pure false) : HX G F ρ σ (.Assign [.Subscript o i ip] e pos) Q X := by
  intro C W s QQ EE st eo p px
  refine wpAny_Assign_Subscript (he_use h st eo px fun W1 mv σ1 v s1 h1 h2 q r st1 px1 => he_use q st1 eo px1 fun W2 x σ2 u s2 h3 h4 q2 r2 st2 px2 => he_use q2 st2 eo px2 fun W3 y σ3 u3 s3 h5 h6 q3 r3 st3 px3 => ?_) (hs _)
  obtain ⟨σ4, hi, q4⟩ := q3
  exact set_item st3 hi ((r.mono h3).mono h5) (r2.mono h5) r3 fun s4 h7 st4 => p W3 _ ρ σ4 _ s4 ((h1.trans h3).trans h5) (((h2.trans h4).trans h6).trans h7) q4 .next st4
end
end Mine
end
section
set_option Elab.async false
set_option linter.all false
set_option maxRecDepth 100000
set_option genSizeOf false
set_option genInjectivity false
namespace Mine
open PySem PySem.W PySem.Calls PyProof.Rows
open Sem (wp)

/-! trees that keep every object's dict -/
noncomputable def DK (h h' : Heap) : Prop := ∀ b o, h.get? b = some o → ∃ o', h'.get? b = some o' ∧ o'.dict = o.dict
theorem DK.refl (h : Heap) : DK h h := fun _ o e => ⟨o, e, rfl⟩
theorem DK.trans {a b c : Heap} (x : DK a b) (y : DK b c) : DK a c := fun i o e => let ⟨o1, e1, d1⟩ := x i o e; let ⟨o2, e2, d2⟩ := y i o1 e1; ⟨o2, e2, d2.trans d1⟩
theorem DK.update {h : Heap} {a : Addr} {f : Obj → Obj} (hf : ∀ o : Obj, o.isFreed = false → (f o).isFreed = false ∧ (f o).dict = o.dict) : DK h (h.update a f) := fun b o e => by
  by_cases q : a = b
  · subst q
    have := hf o (Heap.get?_some_iff.mp e).2
    exact ⟨f o, Heap.get?_update_self f e this.1, this.2⟩
  · exact ⟨o, (Heap.get?_update_other h f q).trans e, rfl⟩
theorem DK.push {h : Heap} {o : Obj} : DK h (h.push o) := fun b o' e => ⟨o', Heap.get?_push_of_some _ e, rfl⟩

structure Gentle {α : Type} (t : Sem α) : Prop where
  out : ∀ (M : Model) (Γ : PySem.Ctx) (Q : α → Pos → Shared → Prop) (E : Value → Pos → Shared → Prop) (p : Pos) (s : Shared), wp M Γ t Q E p s →
    wp M Γ t (fun a p' s' => Q a p' s' ∧ DK s.heap s'.heap) (fun e p' s' => E e p' s' ∧ DK s.heap s'.heap) p s

namespace Gentle
variable {α β : Type}
theorem pure (a : α) : Gentle (Pure.pure a : Sem α) := ⟨fun M Γ Q E p s h => by
  rw [Sem.wp_pure'] at h ⊢; exact ⟨h, DK.refl _⟩⟩
theorem unsupported (w : String) : Gentle (PySem.unsupported w : Sem α) := ⟨fun M Γ Q E p s h => h.elim⟩
theorem bind {m : Sem α} {f : α → Sem β} (hm : Gentle m) (hf : ∀ a, Gentle (f a)) : Gentle (m >>= f) := ⟨fun M Γ Q E p s h => by
  rw [Sem.wp_bind'] at h ⊢
  refine Sem.wp_mono M Γ m (fun a p' s' h' => ?_) (fun _ _ _ x => x) p s (hm.out M Γ _ E p s h)
  exact Sem.wp_mono M Γ _ (fun b p2 s2 h2 => ⟨h2.1, h'.2.trans h2.2⟩) (fun e p2 s2 h2 => ⟨h2.1, h'.2.trans h2.2⟩) p' s' ((hf a).out M Γ _ E p' s' h'.1)⟩
theorem ite {c : Prop} [Decidable c] {t u : Sem α} (ht : Gentle t) (hu : Gentle u) : Gentle (if c then t else u) := by split <;> assumption
theorem load (a : Addr) : Gentle (PySem.load a) := ⟨fun M Γ Q E p s h => by
  unfold PySem.load at h ⊢
  rw [Sem.wp_load] at h ⊢
  obtain ⟨o, ho, h⟩ := h
  exact ⟨o, ho, by rw [Sem.wp_pure] at h ⊢; exact ⟨h, DK.refl _⟩⟩⟩
theorem update (a : Addr) (f : Obj → Obj) (hf : ∀ o : Obj, o.isFreed = false → (f o).isFreed = false ∧ (f o).dict = o.dict) : Gentle (PySem.update a f) := ⟨fun M Γ Q E p s h => by
  rw [Sem.wp_cmd_update] at h ⊢
  exact ⟨h.1, h.2, DK.update hf⟩⟩
theorem stack : Gentle PySem.stack := ⟨fun M Γ Q E p s h => by
  unfold PySem.stack at h ⊢
  rw [Sem.wp_stack] at h ⊢
  rw [Sem.wp_pure] at h ⊢
  exact ⟨h, DK.refl _⟩⟩
theorem alloc (o : Obj) : Gentle (PySem.alloc o) := ⟨fun M Γ Q E p s h => by
  unfold PySem.alloc at h ⊢
  rw [Sem.wp_alloc] at h ⊢
  rw [Sem.wp_pure] at h ⊢
  exact ⟨h, DK.push⟩⟩
end Gentle

theorem mapFields_ok (g : Array Value → Array Value) (o : Obj) (h : o.isFreed = false) : (Obj.mapFields g o).isFreed = false ∧ (Obj.mapFields g o).dict = o.dict := by
  obtain ⟨c, d, dt, sl⟩ := o
  cases dt <;> first | exact ⟨rfl, rfl⟩ | exact ⟨h, rfl⟩
theorem slots_ok (g : Obj → Array (Option Value)) (o : Obj) (h : o.isFreed = false) : ({ o with slots := g o } : Obj).isFreed = false ∧ ({ o with slots := g o } : Obj).dict = o.dict := by
  obtain ⟨c, d, dt, sl⟩ := o
  cases dt <;> first | exact ⟨rfl, rfl⟩ | exact ⟨h, rfl⟩

set_option hygiene false in
local macro_rules | `(tactic| walk_at "gentle") => `(tactic| repeat' with_reducible first
    | assumption
    | exact Gentle.pure _
    | exact Gentle.unsupported _
    | exact Gentle.load _
    | exact Gentle.stack
    | exact Gentle.alloc _
    | exact Gentle.update _ _ (mapFields_ok _)
    | exact Gentle.update _ _ (slots_ok _)
    | apply Gentle.ite
    | apply Gentle.bind
    | intro _
    | split)

theorem gentle_fieldsOf (v : Value) : Gentle (fieldsOf v) := by
  unfold fieldsOf
  walk_at "gentle"
theorem gentle_field (v : Value) (i : Nat) : Gentle (field v i) := by
  have := gentle_fieldsOf v
  unfold field
  walk_at "gentle"
theorem gentle_setField (v : Value) (i : Nat) (x : Value) : Gentle (setField v i x) := by
  unfold setField updateField
  walk_at "gentle"
theorem gentle_isImport (env : Env) (outer : List Env) : Gentle (behindIsImport env outer) := by
  have := gentle_field env.code 12
  unfold behindIsImport
  walk_at "gentle"
theorem gentle_claims : Gentle underTheClaimsCaller := by
  unfold underTheClaimsCaller
  walk_at "gentle"
theorem gentle_keptBack (env : Env) (i : Bool) (l : List Env) : Gentle (keptBack env i l) := by
  have := gentle_claims
  cases l <;> unfold keptBack <;> walk_at "gentle"
theorem gentle_ready (l : List Env) : Gentle (readyFrames l) := by
  induction l with
  | nil => exact Gentle.pure _
  | cons env outer ih =>
    have h1 := gentle_isImport env outer
    have h2 := fun i => gentle_keptBack env i outer
    unfold readyFrames
    walk_at "gentle"
    all_goals first | exact h2 _ | skip
theorem gentle_frameObject (l : List Env) : Gentle (frameObject l) := by
  cases l with
  | nil => exact Gentle.pure _
  | cons env outer =>
    have := gentle_ready (env :: outer)
    unfold frameObject
    walk_at "gentle"
theorem gentle_frameEnvs : Gentle frameEnvs := by
  unfold frameEnvs
  walk_at "gentle"
theorem gentle_frameOf (env : Env) : Gentle (PySem.frameOf env) := by
  have h1 := gentle_frameEnvs
  have h2 := gentle_frameObject
  unfold PySem.frameOf
  walk_at "gentle"
  all_goals first | exact h2 _ | skip
theorem gentle_place (f : Addr) (hadNext : Bool) : Gentle (entryPlaceOf f hadNext) := by
  unfold entryPlaceOf
  walk_at "gentle"
theorem gentle_newFields (ty : String) (vs : List Value) : Gentle (newFields ty vs) := by
  unfold newFields newObj newObjAsIs
  walk_at "gentle"
theorem gentle_newEntry (a b c d e : Value) (l : List Value) : Gentle (EntryCells.newEntry a b c d e l) := by
  unfold EntryCells.newEntry
  exact gentle_newFields _ _
theorem gentle_note (e : Value) (env : Env) : Gentle (noteFrame e env) := by
  have h1 := fun v i => gentle_field v i
  have h2 := fun v i x => gentle_setField v i x
  have h3 := gentle_frameOf env
  have h4 := fun f b => gentle_place f b
  have h5 := fun a b c d e l => gentle_newEntry a b c d e l
  unfold noteFrame
  walk_at "gentle"
  all_goals first | exact h1 _ _ | exact h2 _ _ _ | exact h4 _ _ | exact h5 _ _ _ _ _ _ | skip
theorem gentle_flight (e : Value) (f : Option Addr) : Gentle (setFlight e f) := by
  have h1 := fun v i => gentle_field v i
  have h2 := fun v i x => gentle_setField v i x
  unfold setFlight
  walk_at "gentle"
  all_goals first | exact h1 _ _ | exact h2 _ _ _ | skip
theorem gentle_leaving (env : Env) (e : Value) : Gentle (leaving env e) := by
  have h1 := gentle_note e env
  have h2 := gentle_flight e none
  unfold leaving
  walk_at "gentle"

theorem gently {α : Type} {M : Model} {A : Around} {t : Sem α} {Q : α → Shared → Prop} {E : Value → Shared → Prop} {s : Shared} (g : Gentle t) (h : wpAny M A t (fun a s' => DK s.heap s'.heap → Q a s') E s) : wpAny M A t Q E s := fun Γ p hΓ =>
  Sem.wp_mono M Γ t (fun a p' s' h' => h'.1 h'.2) (fun _ _ _ h' => h'.1) p s (g.out M Γ _ _ p s (h Γ p hΓ))
end Mine
end
section
set_option Elab.async false
set_option linter.all false
set_option maxRecDepth 100000
set_option genSizeOf false
set_option genInjectivity false
namespace Mine
open PySem PySem.W PySem.Calls PyProof.Rows

/-- leaving the frame F, C for the frame F0, C0 around it -/
theorem leave_x {G : Gl} {F F0 : Fx} {C C0 : Cx} {W : Wd} {x : MX} {σ : MH} {e : Value} {s' : Shared} {m0 : Str → Option Value} {QQ : Unit → Shared → Prop} {EE : Value → Shared → Prop}
    (h : StX G F C W x σ e s') (ho : C.outer = C0.env F0 :: C0.outer) (hb : C.base = C0.base) (FG : Fr C0.h₀ C0.L C.h₀ m0)
    (k : ∀ s'', Same s' s'' → FlownX G F0 C0 W x σ e s'' → QQ () s'') : wpAny G.M (C.A F) (leaving (C.env F) e) QQ EE s' := by
  obtain ⟨ok, h⟩ := h
  have hkf : (C.env F).scope.kind = .function := ok.kind
  rcases h with ⟨-, hf⟩ | hf
  · obtain ⟨ea, dx, vs, sl, a0, m, led, rfl, hF, hN, hm, hx, he, h1, h0, hne, hnL, hnl⟩ := hf
    have K' := pushX (env := C.env F) ok.below hF rfl hkf
    have hin : ∀ env ∈ (C.env F :: C.outer), ∀ b, env.frame = some b → b ∈ ea :: (C.env F :: C.outer).filterMap (·.frame) := fun env he b hb => .tail _ (List.mem_filterMap.mpr ⟨env, he, hb⟩)
    have hbase : ∀ b o, C.base.get? b = some o → b ∉ ea :: (C.env F :: C.outer).filterMap (·.frame) := fun b o q hm => by
      rcases List.mem_cons.mp hm with rfl | hm
      · have := ok.below.stays _ _ q
        rw [hne] at this; cases this
      · rw [(K'.frames.mem hm).1] at q; cases q
    have st : C.base.StaysIn (hideAll s'.heap (ea :: (C.env F :: C.outer).filterMap (·.frame))) := fun b o q => hideAll_get _ (K'.stays b o q) (hbase b o q)
    have hl : ∀ q ∈ led, (hideAll s'.heap (ea :: (C.env F :: C.outer).filterMap (·.frame))).get? q.1 = some q.2 ∧ C.base.get? q.1 = none := fun q hq => by
      refine ⟨hideAll_get _ (hN q hq).1 fun hm => ?_, fresh_of_stays ok.below.stays (hN q hq).2.2⟩
      rcases List.mem_cons.mp hm with e | hm
      · exact hnl (e ▸ List.mem_map_of_mem hq)
      · obtain ⟨env, he, hf⟩ := List.mem_filterMap.mp hm
        rcases List.mem_cons.mp he with rfl | he
        · exact (hN q hq).2.1 (Option.some.inj hf).symm
        · obtain ⟨o, ho, _⟩ := (ok.below.frames.mem (List.mem_filterMap.mpr ⟨env, he, hf⟩)).2
          rw [(hN q hq).2.2] at ho; cases ho
    have hen : (hideAll s'.heap (ea :: (C.env F :: C.outer).filterMap (·.frame))).get? ea = none := hideAll_none _ (.head _)
    refine gently (gentle_leaving _ _) (wpAny_leaving_firstW (A := C.A F) (env := C.env F) (outer := C.outer) rfl (funFrames_hide K'.frames hin) rfl he (fun b o q => of_hideAll _ q) hen rfl h1 h0 fun h' hL dk => ?_)
    obtain ⟨k1, ⟨_, _, k2⟩, k3, k4⟩ := hL
    obtain ⟨oe, e1, e2⟩ := dk ea _ he
    refine k _ (Same.of s' h' _) ⟨ea, dx, C.h₀, m0, led, _, rfl, FG, ?_, hb ▸ st, fun q hq => hb ▸ hl q hq, hm, hx, ⟨a0, k1, hen, ho ▸ k2, k3⟩, oe, e1, e2⟩
    exact (Heap.UpToSlots.of_keeps hF.keep).trans k4
  · obtain ⟨ea, dx, g₂, m, led, B, rfl, hF, hsm, hB, hl, hm, hx, ⟨a0, hfl⟩, oe, e1, e2⟩ := hf
    refine gently (gentle_leaving _ _) (wpAny_leaves_onW (A := C.A F) (env := C.env F) (outer := C.outer) rfl rfl hfl fun h' x1 x2 dk => ?_)
    obtain ⟨oe', e3, e4⟩ := dk ea _ e1
    refine k _ (Same.of s' h' _) ⟨ea, dx, C.h₀, m0, led, B, rfl, FG, ?_, hb ▸ hB, fun q hq => hb ▸ hl q hq, hm, hx, ⟨a0, ho ▸ x1⟩, oe', e3, e4.trans e2⟩
    exact (Heap.UpToSlots.of_keeps hF.keep).trans (hsm.trans x2)

inductive BReps (W : Wd) : List (Str × MV) → List (Str × Value) → Prop
  | nil : BReps W [] []
  | cons {k x v xs vs} : VRep W x v → BReps W xs vs → BReps W ((k, x) :: xs) ((k, v) :: vs)
theorem BReps.names {W xs vs} (q : BReps W xs vs) : vs.map (·.1) = xs.map (·.1) := by
  induction q with
  | nil => rfl
  | cons _ _ ih => simp [ih]
theorem lookup_of_nodup {α : Type} {x : Str} {v : α} {l : List (Str × α)} (nd : (l.map (·.1)).Nodup) (h : (x, v) ∈ l) : l.lookup x = some v := by
  induction l with
  | nil => exact absurd h List.not_mem_nil
  | cons p r ih =>
    obtain ⟨y, u⟩ := p
    rw [List.map_cons, List.nodup_cons] at nd
    rw [List.lookup_cons]
    rcases List.mem_cons.mp h with e | h
    · cases e; rw [beq_self_eq_true]
    · rw [beq_false_of_ne (fun z : x = y => nd.1 (z ▸ List.mem_map_of_mem (f := (·.1)) h))]; exact ih nd.2 h
theorem BReps.get {W} : ∀ {xs vs}, BReps W xs vs → ∀ {x mv}, (x, mv) ∈ xs → ∃ v, (x, v) ∈ vs ∧ VRep W mv v := by
  intro xs vs q
  induction q with
  | nil => intro _ _ h; cases h
  | @cons k x0 v xs vs a r ih =>
    intro x mv h
    rcases List.mem_cons.mp h with e | h
    · cases e; exact ⟨v, .head _, a⟩
    · obtain ⟨u, h1, h2⟩ := ih h; exact ⟨u, .tail _ h1, h2⟩

/-- the locals at the start: the bound ones, the others -/
noncomputable def loc0 (binds : List (Str × MV)) (others : List Str) : Loc := binds.map (fun p => (p.1, some p.2)) ++ others.map fun x => (x, none)

theorem locals_ok {binds : List (Str × MV)} {others : List Str} {scope : Scope} (h : (loc0 binds others).all (fun p => scope.names.lookup p.1 == some .local && !(p.1 == ("__debug__" : Str))) = true) :
    ∀ p ∈ loc0 binds others, scope.names.lookup p.1 = some .local ∧ (p.1 == ("__debug__" : Str)) = false := fun p hp => by
  have := List.all_eq_true.mp h p hp
  simp only [Bool.and_eq_true, beq_iff_eq, Bool.not_eq_true', beq_eq_false_iff_ne, ne_eq] at this
  exact ⟨this.1, by simpa using this.2⟩

end Mine
end
section
set_option Elab.async false
set_option linter.all false
set_option maxRecDepth 100000
set_option genSizeOf false
set_option genInjectivity false
namespace Mine
open PySem PySem.W PySem.Calls PyProof.Rows

/-! hidden objects -/
noncomputable def Wd.hide (W : Wd) (h : List (Addr × Obj)) : Wd := ⟨W.as, W.im, h⟩
theorem VRep.hide {W : Wd} {h x v} (q : VRep W x v) : VRep (W.hide h) x v := by
  induction q using VRep.rec (motive_2 := fun xs vs _ => VReps (W.hide h) xs vs) with
  | none => exact .none
  | bool b => exact .bool b
  | int i t => exact .int i t
  | str s t => exact .str s t
  | bytes b t => exact .bytes b t
  | tup m _ ih => exact .tup (W := W.hide h) m ih
  | loc e => exact .loc (W := W.hide h) e
  | raw v => exact .raw v
  | exc a b _ ih => exact .exc (W := W.hide h) a b ih
  | rng m => exact .rng (W := W.hide h) m
  | nil => exact .nil
  | cons _ _ i1 i2 => exact .cons i1 i2
theorem VReps.hide {W : Wd} {h} : ∀ {xs vs}, VReps W xs vs → VReps (W.hide h) xs vs := by
  intro xs
  induction xs with
  | nil => intro vs q; cases q; exact .nil
  | cons x xs ih =>
    intro vs q
    cases q with
    | cons a b => exact .cons a.hide (ih b)
theorem KVs.hide {W : Wd} {h xs vs} (q : KVs W xs vs) : KVs (W.hide h) xs vs := by
  induction q with
  | nil => exact .nil
  | cons a _ ih => exact .cons a.hide ih
theorem Ents.hide {W : Wd} {h xs vs} (q : Ents W xs vs) : Ents (W.hide h) xs vs := by
  induction q with
  | nil => exact .nil
  | cons a _ ih => exact .cons a.hide ih
theorem ORep.hide {G : Gl} {W : Wd} {h o ob} (q : ORep G W o ob) : ORep G (W.hide h) o ob := by
  cases q with
  | list a b => exact .list a.hide b
  | dict a b c d => exact .dict a.hide b c d
  | inst a => exact .inst (W := W.hide h) a
  | ns a b c => exact .ns a.hide b c
  | cell a b => exact .cell a.hide b
  | cell0 b => exact .cell0 b
theorem LRep.hide {W : Wd} {F ρ m h} (l : LRep W F ρ m) : LRep (W.hide h) F ρ m := ⟨l.nd, l.kind, fun x mv e => (by obtain ⟨v, a, b⟩ := l.val x mv e; exact ⟨v, a, b.hide⟩), fun p hp => (by obtain ⟨c, o, v, e1, e2, e3, e4⟩ := l.cells p hp; exact ⟨c, o, v, e1, e2, e3, e4.hide⟩)⟩
theorem Wd.hide_le {W W' : Wd} (h : W.le W') (hid) : (W.hide hid).le (W'.hide hid) := ⟨h.as, h.im, rfl⟩
theorem Wd.hide_self (W : Wd) : W.hide W.hid = W := rfl
theorem Wd.hide_hide (W : Wd) (a b) : (W.hide a).hide b = W.hide b := rfl

theorem mem_rehid {G : Gl} {W : Wd} {σ : MH} {led led' hid'} {bad : List Addr} (hm : Mem G W σ led) (hnd : (W.as ++ (W.im.map (·.1) ++ hid'.map (·.1))).Nodup) (hb1 : ∀ a ∈ bad, a ∉ W.as) (hb2 : ∀ a ∈ bad, a ∉ W.im.map (·.1))
    (hl : ∀ p ∈ led, p.1 ∉ bad → p ∈ led') (hh : ∀ p ∈ hid', p ∈ led') : Mem G (W.hide hid') σ led' := by
  refine ⟨hnd, fun i o e => ?_, hm.off, hm.on, fun p hp => ?_, hh⟩
  · obtain ⟨a, ob, h1, h2, h3⟩ := hm.obj i o e
    exact ⟨a, ob, h1, hl _ h2 fun z => hb1 _ z (List.mem_of_getElem? h1), h3.hide⟩
  · exact hl _ (hm.im p hp) fun z => hb2 _ z (List.mem_map_of_mem hp)

theorem nd_sub {α : Type} {as im h h' : List α} (nd : (as ++ (im ++ h)).Nodup) (hs : h'.Sublist h) : (as ++ (im ++ h')).Nodup :=
  List.Nodup.sublist ((List.Sublist.refl _).append ((List.Sublist.refl _).append hs)) nd
theorem nd_bad {α : Type} {as im o h : List α} (nd : (as ++ (im ++ (o ++ h))).Nodup) {a : α} (ha : a ∈ o) : a ∉ as ∧ a ∉ im ∧ a ∉ h := by
  have h1 := List.nodup_append.mp nd
  have h2 := List.nodup_append.mp h1.2.1
  have h3 := List.nodup_append.mp h2.2.1
  refine ⟨fun z => h1.2.2 a z a ?_ rfl, fun z => h2.2.2 a z a ?_ rfl, fun z => h3.2.2 a ha a z rfl⟩
  · exact List.mem_append_right _ (List.mem_append_left _ ha)
  · exact List.mem_append_left _ ha

/-! targets -/
inductive TPuts : List Expr → List MV → Loc → Loc → Prop
  | nil {ρ} : TPuts [] [] ρ ρ
  | cons {x pos mv es ms ρ ρ1 ρ2} : LPut x mv ρ ρ1 → TPuts es ms ρ1 ρ2 → TPuts (.Name x pos :: es) (mv :: ms) ρ ρ2
inductive TPut : Expr → MV → Loc → Loc → Prop
  | name {x pos mv ρ ρ'} : LPut x mv ρ ρ' → TPut (.Name x pos) mv ρ ρ'
  | tup {es ms k pos ρ ρ'} : TPuts es ms ρ ρ' → TPut (.Tuple es k pos) (.tup ms) ρ ρ'

section
variable {G : Gl} {F : Fx} {ρ : Loc} {σ : MH} {X : MX → MH → Prop} {C : Cx} {W : Wd} {s s' : Shared}

theorem St.rehid (st : St G F C W ρ σ s) {o hid o' : List (Addr × Obj)} (e : W.hid = o ++ hid) (hk : ∀ b ob, b ∉ o.map (·.1) → s.heap.get? b = some ob → s'.heap.get? b = some ob)
    (ho : ∀ p ∈ o', s'.heap.get? p.1 = some p.2) (hf : (o'.map (·.1)).Sublist (o.map (·.1))) : St G F C (W.hide (o' ++ hid)) ρ σ s' := by
  obtain ⟨m, led, hF, hN, hl, hm⟩ := st.ex
  have hnd := hm.nd
  rw [e, List.map_append] at hnd
  have hoL : ∀ p ∈ o, (p.1 ≠ C.L ∧ C.h₀.get? p.1 = none) := fun p hp => (hN _ (hm.hid p (e ▸ List.mem_append_left _ hp))).2
  have hoA : ∀ a ∈ o.map (·.1), a ≠ C.L ∧ C.h₀.get? a = none := fun a ha => by obtain ⟨p, hp, rfl⟩ := List.mem_map.mp ha; exact hoL p hp
  have F' : Fr C.h₀ C.L s'.heap m := ⟨hF.ns.at' fun ob x => hk _ ob (fun z => (hoA _ z).1 rfl) x, fun b ob x => hk b ob (fun z => by rw [(hoA _ z).2] at x; cases x) (hF.keep b ob x), hF.above⟩
  let led' := o' ++ led.filter fun p => decide (p.1 ∉ o.map (·.1))
  have N' : News C.h₀ C.L s'.heap led' := fun p hp => by
    rcases List.mem_append.mp hp with hp | hp
    · exact ⟨ho p hp, hoA _ (hf.subset (List.mem_map_of_mem hp))⟩
    · have h2 := List.mem_filter.mp hp
      exact ⟨hk _ _ (by simpa using h2.2) (hN p h2.1).1, (hN p h2.1).2⟩
  refine ⟨st.ok, m, led', F', N', hl.hide, mem_rehid (bad := o.map (·.1)) hm ?_ (fun a ha => (nd_bad hnd ha).1) (fun a ha => (nd_bad hnd ha).2.1) (fun p hp hn => List.mem_append_right _ (List.mem_filter.mpr ⟨hp, by simpa using hn⟩)) fun p hp => ?_⟩
  · rw [List.map_append]
    exact nd_sub hnd (hf.append (List.Sublist.refl _))
  · rcases List.mem_append.mp hp with hp | hp
    · exact List.mem_append_left _ hp
    · refine List.mem_append_right _ (List.mem_filter.mpr ⟨hm.hid p (e ▸ List.mem_append_right _ hp), ?_⟩)
      have : p.1 ∉ o.map (·.1) := fun z => (nd_bad hnd z).2.2 (List.mem_map_of_mem hp)
      simpa using this
theorem St.unhid (st : St G F C W ρ σ s) {o hid : List (Addr × Obj)} (e : W.hid = o ++ hid) (hk : ∀ b ob, b ∉ o.map (·.1) → s.heap.get? b = some ob → s'.heap.get? b = some ob) : St G F C (W.hide hid) ρ σ s' :=
  st.rehid (o' := []) e hk (fun _ h => absurd h List.not_mem_nil) (List.nil_sublist _)

theorem St.hid (st : St G F C W ρ σ s) {o : List (Addr × Obj)} (hk : ∀ b ob, s.heap.get? b = some ob → s'.heap.get? b = some ob) (ho : ∀ p ∈ o, s'.heap.get? p.1 = some p.2 ∧ s.heap.get? p.1 = none) (nd : (o.map (·.1)).Nodup) : St G F C (W.hide (o ++ W.hid)) ρ σ s' := by
  obtain ⟨m, led, hF, hN, hl, hm⟩ := st.ex
  have hF' := hF.keeps hk
  have fresh : ∀ a ∈ o.map (·.1), s.heap.get? a = none := fun a ha => by obtain ⟨p, hp, rfl⟩ := List.mem_map.mp ha; exact (ho p hp).2
  have N' : News C.h₀ C.L s'.heap (o ++ led) := fun p hp => by
    rcases List.mem_append.mp hp with hp | hp
    · refine ⟨(ho p hp).1, fun z => ?_, ?_⟩
      · obtain ⟨oL, _, _, hoL, _⟩ := hF.ns
        have := (ho p hp).2
        rw [z, hoL] at this; cases this
      · cases q : C.h₀.get? p.1 with
        | none => rfl
        | some ob => have := hF.keep _ _ q; rw [(ho p hp).2] at this; cases this
    · exact hN.grown hk p hp
  have hin : ∀ a ∈ W.as ++ (W.im.map (·.1) ++ W.hid.map (·.1)), a ∉ o.map (·.1) := fun a ha z => by
    obtain ⟨ob, hob⟩ := mem_addr hm ha
    have := (hN _ hob).1
    rw [fresh a z] at this; cases this
  refine ⟨st.ok, m, _, hF', N', hl.hide, mem_rehid (bad := []) hm ?_ (fun _ h => absurd h List.not_mem_nil) (fun _ h => absurd h List.not_mem_nil) (fun p hp _ => List.mem_append_right _ hp) fun p hp => ?_⟩
  · rw [List.map_append]
    have p1 : (W.as ++ (W.im.map (·.1) ++ (o.map (·.1) ++ W.hid.map (·.1)))).Perm (o.map (·.1) ++ (W.as ++ (W.im.map (·.1) ++ W.hid.map (·.1)))) := by
      exact ((List.perm_append_comm_assoc _ _ _).append_left W.as).trans (List.perm_append_comm_assoc _ _ _)
    refine p1.nodup_iff.mpr (List.nodup_append.mpr ⟨nd, hm.nd, fun a ha b hb z => ?_⟩)
    subst z
    exact hin a hb ha
  · rcases List.mem_append.mp hp with hp | hp
    · exact List.mem_append_left _ hp
    · exact List.mem_append_right _ (hm.hid p hp)

theorem mem_unhid {led} (hm : Mem G W σ led) {o hid : List (Addr × Obj)} (e : W.hid = o ++ hid) : Mem G (W.hide hid) σ led := by
  have hnd := hm.nd
  rw [e, List.map_append] at hnd
  exact mem_rehid (bad := []) hm (nd_sub hnd (List.sublist_append_right _ _)) (fun _ h => absurd h List.not_mem_nil) (fun _ h => absurd h List.not_mem_nil) (fun p hp _ => hp) fun p hp => hm.hid p (e ▸ List.mem_append_right _ hp)
theorem XIn.hide {x dx h} (q : XIn W x dx) : XIn (W.hide h) x dx := (by obtain ⟨hs, t, v, n, a, b⟩ := q; exact ⟨hs, t, v, n, a, b.hide⟩)
theorem StX.unhid {x e} (st : StX G F C W x σ e s) {o hid : List (Addr × Obj)} (he : W.hid = o ++ hid) : StX G F C (W.hide hid) x σ e s := by
  obtain ⟨ok, h⟩ := st
  refine ⟨ok, ?_⟩
  rcases h with ⟨ht, ea, dx, vs, sl, a0, m, led, rfl, hF, hN, hm, hx, h⟩ | ⟨ea, dx, g₂, m, led, B, rfl, hF, h1, h2, h3, hm, hx, h⟩
  · exact .inl ⟨ht, ea, dx, vs, sl, a0, m, led, rfl, hF, hN, mem_unhid hm he, hx.hide, h⟩
  · exact .inr ⟨ea, dx, g₂, m, led, B, rfl, hF, h1, h2, h3, mem_unhid hm he, hx.hide, h⟩

/-! iterators -/
structure Turns (G : Gl) (F : Fx) (C : Cx) (tgt : Expr) (it : Value) (W0 : Wd) (xs : List MV) (J : MH → Prop) (own : Nat → List (Addr × Obj) → Prop) : Prop where
  turn : ∀ i x W ρ σ s o hid (QQ : Value → Shared → Prop) (EE : Value → Shared → Prop), xs[i]? = some x → own i o → W0.as <+: W.as → (∀ p ∈ W0.im, p ∈ W.im) → W.hid = o ++ hid → J σ → St G F C W ρ σ s →
    (∀ W' o' v s', own (i + 1) o' → W'.as = W.as → (∀ p ∈ W.im, p ∈ W'.im) → W'.hid = o' ++ hid → VRep W' x v → Same s s' → St G F C W' ρ σ s' → QQ v s') →
    wpAny G.M (C.A F) (pyNext it) (fun r s₁ => ∃ v, r = some v ∧ wpAny G.M (C.A F) (letOwnedTupleGo tgt it v) (fun _ s₂ => QQ v s₂) EE s₁) EE s
  done : ∀ W ρ σ s o hid (QQ : Shared → Prop) (EE : Value → Shared → Prop), own xs.length o → W0.as <+: W.as → (∀ p ∈ W0.im, p ∈ W.im) → W.hid = o ++ hid → J σ → St G F C W ρ σ s →
    (∀ s', Same s s' → St G F C (W.hide hid) ρ σ s' → QQ s') → wpAny G.M (C.A F) (pyNext it) (fun r s₁ => r = none ∧ QQ s₁) EE s
  self : ∀ i W ρ σ s o hid (QQ : Value → Shared → Prop) (EE : Value → Shared → Prop), own i o → W.hid = o ++ hid → St G F C W ρ σ s → QQ it s → wpAny G.M (C.A F) (pyIter it) QQ EE s

noncomputable def HI (G : Gl) (F : Fx) (ρ : Loc) (σ : MH) (iter tgt : Expr) (Q : List MV → (MH → Prop) → MH → Prop) (X : MX → MH → Prop) : Prop :=
  ∀ C W s (QQ : Value → Shared → Prop) EE, St G F C W ρ σ s → EOk G F C EE → C.hdv = none →
    (∀ W' xs J (own : Nat → List (Addr × Obj) → Prop) σ' it o s', W.le W' → Same s s' → Q xs J σ' → J σ' → Turns G F C tgt it W' xs J own → own 0 o → St G F C (W'.hide (o ++ W'.hid)) ρ σ' s' → QQ it s') → PostX G F C W s X EE →
    wpAny G.M (C.A F) (eval iter (C.env F)) (fun xv s₁ => wpAny G.M (C.A F) (pyIter xv) QQ EE s₁) EE s

theorem tputs_len {env : Env} {es ms ρ0 ρ'} (h : TPuts es ms ρ0 ρ') : (assignEach es env).length = ms.length ∧ (assignEach es env).findIdx? (·.1) = none := by
  induction h with
  | nil => exact ⟨rfl, rfl⟩
  | cons a r ih =>
    refine ⟨congrArg (· + 1) ih.1, ?_⟩
    show List.findIdx? _ ((false, _) :: _) = none
    rw [List.findIdx?_cons]; simp [ih.2]
theorem tputs_ok {QQ : Unit → Shared → Prop} {EE : Value → Shared → Prop} {es ms ρ0 ρ'} (h : TPuts es ms ρ0 ρ') : ∀ {s : Shared} {vs}, St G F C W ρ0 σ s → VReps W ms vs → (∀ s', Same s s' → St G F C W ρ' σ s' → QQ () s') →
    wpAny G.M (C.A F) (assignInOrder ((assignEach es (C.env F)).map (·.2)) vs) QQ EE s := by
  induction h with
  | nil =>
    intro s vs st hr k
    cases hr
    exact wpAny_pure (k s (.refl s) st)
  | cons a r ih =>
    intro s vs st hr k
    cases hr with
    | cons hv hr =>
      show wpAny _ _ (holding _ _ >>= _) _ _ _
      refine wpAny_bind (wpAny_holding (wpAny_assign_Name (store_loc st a hv fun s1 h1 st1 => ?_)))
      exact ih st1 hr fun s2 h2 st2 => k s2 (h1.trans h2) st2
theorem tput_ok {QQ : Unit → Shared → Prop} {EE : Value → Shared → Prop} {tgt mv v ρ'} (h : TPut tgt mv ρ ρ') (st : St G F C W ρ σ s) (hr : VRep W mv v) (hh : C.hdv = none) (k : ∀ s', Same s s' → St G F C W ρ' σ s' → QQ () s') :
    wpAny G.M (C.A F) (assign tgt (C.env F) v) QQ EE s := by
  cases h with
  | name h => exact wpAny_assign_Name (store_loc st h hr k)
  | tup h =>
    obtain ⟨_, _, _, rfl, m, rs⟩ := hr.tupv
    · skip
      obtain ⟨_, led, hF, hN, hl, hm⟩ := st.ex
      have hlen := tputs_len (env := C.env F) h
      refine wpAny_assign_Tuple (items := _) hh ⟨_, (hN _ (hm.im _ m)).1, rfl, _, rfl⟩ (hlen.1.trans ?_) hlen.2 fun h' hx => ?_
      · rw [List.size_toArray]; exact (vreps_len rs).symm
      · have hk : ∀ b ob, s.heap.get? b = some ob → h'.get? b = some ob := fun b ob e => hx b ob (Nat.ne_of_lt (Heap.lt_size e)) e
        exact tputs_ok h (st.push (s' := { s with heap := h' }) hk) rs fun s2 h2 st2 => k s2 ⟨h2.gens, h2.drawn, h2.os⟩ st2

inductive ForInv (G : Gl) (F : Fx) (C : Cx) (W1 : Wd) (xs : List MV) (own : Nat → List (Addr × Obj) → Prop) (I : Nat → Loc → MH → Prop) (s : Shared) (n : Nat) (s' : Shared) : Prop
  | mk (W' : Wd) (ρ' : Loc) (σ' : MH) (i : Nat) (o' : List (Addr × Obj)) (h1 : n = xs.length + 1 - i) (h2 : i ≤ xs.length) (h3 : W1.as <+: W'.as) (h4 : ∀ p ∈ W1.im, p ∈ W'.im) (h5 : W'.hid = o' ++ W1.hid) (h6 : own i o') (h7 : I i ρ' σ') (h8 : Same s s') (h9 : St G F C W' ρ' σ' s') : ForInv G F C W1 xs own I s n s'
theorem hx_for {tgt iter : Expr} {body : List Stmt} {pos : Pos} {Q : MFlow → Loc → MH → Prop}
    (h : HI G F ρ σ iter tgt (fun xs J σ1 => ∃ I : Nat → Loc → MH → Prop, I 0 ρ σ1 ∧ (∀ i ρ' σ', I i ρ' σ' → J σ') ∧
      (∀ i x ρ' σ', xs[i]? = some x → I i ρ' σ' → ∃ ρ'', TPut tgt x ρ' ρ'' ∧ HS G F ρ'' σ' body (fun fl ρ2 σ2 => match fl with | .next | .cont => I (i + 1) ρ2 σ2 | .brk => Q .next ρ2 σ2 | .ret v => Q (.ret v) ρ2 σ2) X) ∧
      (∀ ρ' σ', I xs.length ρ' σ' → Q .next ρ' σ')) X)
    (hs : ∀ env x, foldedSetIterable iter env x = pure x) (ht : F.tr = false) (hd : F.hd = false) : HX G F ρ σ (.For tgt iter body [] pos) Q X := by
  intro C W s QQ EE st eo p px
  have hh : C.hdv = none := st.ok.hd hd
  refine wpAny_For (h C W s _ EE st eo hh (fun W1 xs J own σ1 it o s1 h1 h2 q hJ T ho st1 => ?_) px) (hs _)
  obtain ⟨I, h0, hIJ, step, fin⟩ := q
  refine codeAny_forLoop_any (ForInv G F C W1 xs own I s) ?_ (xs.length + 1)
    ⟨W1.hide (o ++ W1.hid), ρ, σ1, 0, o, rfl, Nat.zero_le _, List.prefix_refl _, fun _ z => z, rfl, ho, h0, h2, st1⟩
  rintro n s2 ⟨W2, ρ2, σ2, i, o2, rfl, hi, ha, hi2, hh2, ho2, hI2, hs2, st2⟩
  have hle : W.le (W2.hide W1.hid) := ⟨h1.as.trans ha, fun p hp => hi2 p (h1.im p hp), h1.hid⟩
  have po := eo ht
  cases hx : xs[i]? with
  | none =>
    have hn : i = xs.length := Nat.le_antisymm hi (by simpa using hx)
    subst hn
    refine wpAny_mono (T.done W2 ρ2 σ2 s2 o2 W1.hid (fun s' => QQ .next s') _ ho2 ha hi2 hh2 (hIJ _ _ _ hI2) st2 fun s' e st' => p (W2.hide W1.hid) .next ρ2 σ2 .next s' hle (hs2.trans e) (fin _ _ hI2) .next st') (fun r s' hr => ?_) fun _ _ e => e
    obtain ⟨rfl, hr⟩ := hr
    exact wpAny_execs_nil hr
  | some x =>
    have hlt : i < xs.length := (List.getElem?_eq_some_iff.mp hx).1
    obtain ⟨ρ3, hput, hb⟩ := step i x ρ2 σ2 hx hI2
    refine wpAny_mono (T.turn i x W2 ρ2 σ2 s2 o2 W1.hid ?QQ _ hx ho2 ha hi2 hh2 (hIJ _ _ _ hI2) st2 fun W3 o3 v s3 ho3 hw hwi hwh hr3 hs3 st3 => ?_) (fun r s' hr => ?_) fun _ _ e => e
    rotate_left 2
    · obtain ⟨v, rfl, hr⟩ := hr
      exact hr
    refine tput_ok hput st3 hr3 hh fun s4 hs4 st4 => ?_
    have hle3 : W.le (W3.hide W1.hid) := ⟨hw ▸ hle.as, fun p hp => hwi p (hle.im p hp), h1.hid⟩
    refine wpAny_passesOwn po (hb C W3 s4 _ EE st4 eo (fun W5 fl ρ5 σ5 f s5 k1 k2 k3 k4 k5 => ?_) fun W5 x5 σ5 e5 s5 k1 k2 k3 k4 => ?_)
    · have hh5 : W5.hid = o3 ++ W1.hid := k1.hid.trans hwh
      have st6 : St G F C (W5.hide W1.hid) ρ5 σ5 s5 := k5.unhid hh5 fun _ _ _ z => z
      have hle5 : W.le (W5.hide W1.hid) := hle3.trans (Wd.hide_le k1 _)
      have hs5 : Same s s5 := hs2.trans (hs3.trans (hs4.trans k2))
      cases k4 with
      | next => exact ⟨_, by omega, W5, ρ5, σ5, i + 1, o3, rfl, hlt, (show W1.as <+: W3.as from by rw [hw]; exact ha).trans k1.as, fun p hp => k1.im p (hwi p (hi2 p hp)), hh5, ho3, k3, hs5, k5⟩
      | cont => exact ⟨_, by omega, W5, ρ5, σ5, i + 1, o3, rfl, hlt, (show W1.as <+: W3.as from by rw [hw]; exact ha).trans k1.as, fun p hp => k1.im p (hwi p (hi2 p hp)), hh5, ho3, k3, hs5, k5⟩
      | brk => exact p _ _ _ _ _ _ hle5 hs5 k3 .next st6
      | ret hr => exact p _ _ _ _ _ _ hle5 hs5 k3 (.ret hr.hide) st6
    · have hh5 : W5.hid = o3 ++ W1.hid := k1.hid.trans hwh
      exact px _ x5 σ5 e5 s5 (hle3.trans (Wd.hide_le k1 _)) (hs2.trans (hs3.trans (hs4.trans k2))) k3 (k4.unhid hh5)

/-! while -/
theorem hx_while {test : Expr} {body : List Stmt} {pos : Pos} {Q : MFlow → Loc → MH → Prop} (I : Nat → Loc → MH → Prop) (n : Nat) (h0 : I n ρ σ)
    (step : ∀ n ρ' σ', I n ρ' σ' → HB G F ρ' σ' test (fun b σ1 => (b = true → HS G F ρ' σ1 body (fun fl ρ2 σ2 => match fl with | .next | .cont => ∃ m, m < n ∧ I m ρ2 σ2 | .brk => Q .next ρ2 σ2 | .ret v => Q (.ret v) ρ2 σ2) X) ∧ (b = false → Q .next ρ' σ1)) X)
    (ht : F.tr = false) : HX G F ρ σ (.While test body [] pos) Q X := by
  intro C W s QQ EE st eo p px
  have po := eo ht
  refine wpAny_While (codeAny_whileLoop (fun n s' => ∃ W' ρ' σ', W.le W' ∧ I n ρ' σ' ∧ Same s s' ∧ St G F C W' ρ' σ' s') ?_ n ⟨W, ρ, σ, .refl W, h0, .refl s, st⟩)
  rintro n s2 ⟨W2, ρ2, σ2, h1, hI, hs2, st2⟩
  refine wpAny_passesOwn po (hb_use (step n ρ2 σ2 hI) st2 eo (px.from h1 hs2) fun W3 b σ3 s3 k1 k2 q st3 px3 => ?_)
  cases b with
  | false =>
    simp only [Bool.false_eq_true, if_false]
    exact wpAny_execs_nil (p W3 .next ρ2 σ3 .next s3 (h1.trans k1) (hs2.trans k2) (q.2 rfl) .next st3)
  | true =>
    simp only [if_true]
    refine wpAny_passesOwn po (q.1 rfl C W3 s3 _ EE st3 eo (fun W4 fl ρ4 σ4 f s4 k3 k4 q4 r4 st4 => ?_) px3)
    have hle : W.le W4 := (h1.trans k1).trans k3
    have hsm : Same s s4 := hs2.trans (k2.trans k4)
    cases r4 with
    | next => obtain ⟨m, hm, hI⟩ := q4; exact ⟨m, hm, W4, ρ4, σ4, hle, hI, hsm, st4⟩
    | cont => obtain ⟨m, hm, hI⟩ := q4; exact ⟨m, hm, W4, ρ4, σ4, hle, hI, hsm, st4⟩
    | brk => exact p _ _ _ _ _ _ hle hsm q4 .next st4
    | ret hr => exact p _ _ _ _ _ _ hle hsm q4 (.ret hr) st4
end
end Mine
end
section
set_option Elab.async false
set_option linter.all false
set_option maxRecDepth 100000
set_option genSizeOf false
set_option genInjectivity false
namespace Mine
open PySem PySem.W PySem.Calls PyProof.Rows

theorem size_ok {α : Type} {xs : List α} (h : xs.length ≤ 65536) {k : Nat} (e : k = xs.length) : k ≤ sizeLine := by rw [sizeLine_eq]; lia

section
variable {G : Gl} {F : Fx} {ρ : Loc} {σ : MH} {X : MX → MH → Prop} {C : Cx} {W : Wd} {s s' : Shared}

inductive ListX (W : Wd) (led : List (Addr × Obj)) (h : Heap) (xs : List MV) (x : Addr) : Prop
  | mk (vs : List Value) (n : Nat) (h1 : (x, listOf vs.toArray n) ∈ led) (h2 : VReps W xs vs) (h3 : xs.length ≤ 65536) (h4 : h.IsList x vs.toArray) : ListX W led h xs x
theorem list_at {led l xs} {h₀ h : Heap} {L : Addr} (N : News h₀ L h led) (hm : Mem G W σ led) (e : σ l = some (.list xs)) {x : Addr} (hx : W.as[l]? = some x) :
    ListX W led h xs x := by
  obtain ⟨a, ob, h1, h2, h3⟩ := hm.obj _ _ e
  rw [hx] at h1
  cases h1
  cases h3 with
  | list hv hz => exact ⟨_, _, h2, hv, hz, ⟨_, (N _ h2).1, rfl, _, rfl⟩⟩

/-! built-ins -/
theorem pc_len_list {n l xs} (e : σ l = some (.list xs)) : PC G n (.builtin "len") [.loc l] σ (.int xs.length) := by
  intro Q X q F C W ρ s av QQ EE hn hd st hav p px
  obtain ⟨m, led, hF, hN, hl, hm⟩ := st.ex
  cases hav with
  | cons a b =>
    cases b
    cases a with
    | loc hx =>
      obtain ⟨vs, n, h1, h2, h3, h4⟩ := list_at hN hm e hx
      have hz := vreps_len h2
      refine call_len_list h4 (by rw [List.size_toArray, hz]; lia) ?_
      rw [List.size_toArray, hz]
      exact p W _ σ _ _ (.refl W) (Same.of s s.heap _) q (.int _ _) (st.toks rfl)
theorem pc_len_bytes {n} {b : List UInt8} (hb : b.length ≤ 1000000) : PC G n (.builtin "len") [.bytes b] σ (.int b.length) := by
  intro Q X q F C W ρ s av QQ EE hn hd st hav p px
  cases hav with
  | cons a c =>
    cases c
    cases a
    refine len_bytes (by simpa using Nat.le_trans hb (by decide)) ?_
    have : (b.toArray.size : Int) = (b.length : Int) := by simp
    rw [this]
    exact p W _ σ _ _ (.refl W) (Same.of s s.heap _) q (.int _ _) (st.toks rfl)
theorem pc_int {n i} : PC G n (.type "int") [.int i] σ (.int i) := by
  intro Q X q F C W ρ s av QQ EE hn hd st hav p px
  cases hav with
  | cons a c =>
    cases c
    cases a
    exact call_int_int (p W _ σ _ _ (.refl W) (.refl s) q (.int _ _) st)
theorem pc_range {n i} : PC G n (.type "range") [.int i] σ (.rng i) := by
  intro Q X q F C W ρ s av QQ EE hn hd st hav p px
  obtain ⟨m, led, hF, hN, hl, hm⟩ := st.ex
  cases hav with
  | cons a c =>
    cases c
    cases a with
    | int _ t =>
    refine call_range_1 ?_
    have hk : ∀ b ob, s.heap.get? b = some ob → (s.heap.push { cls := .type "range", data := .fields #[.int 0 s.toks, .int i t, .int 1 (s.toks + 1)] }).get? b = some ob := fun b ob e => Heap.get?_push_of_some _ e
    have hlt : ∀ p ∈ led, p.1 < s.heap.objs.size := fun p hp => Heap.lt_size (hN p hp).1
    have N' := news_pushed hF hN hk (Heap.get?_push_size _ rfl) rfl
    refine p _ _ σ _ _ (W.keep_le _) (Same.of s _ _) q (.rng (.head _)) (st.keep (s' := { s with heap := s.heap.push { cls := .type "range", data := .fields #[.int 0 s.toks, .int i t, .int 1 (s.toks + 1)] }, toks := s.toks + 1 + 1 }) (hF.keeps hk) N' hl hm hlt)
theorem hc_list {n l xs} {Q : MV → MH → Prop} (e : σ l = some (.list xs)) (q : ∀ l', σ l' = none → Q (.loc l') (upd σ l' (.list xs))) : HC G n (.type "list") [.loc l] σ Q X := by
  intro F C W ρ s av QQ EE hn hd st hav p px
  obtain ⟨m, led, hF, hN, hl, hm⟩ := st.ex
  cases hav with
  | cons a c =>
    cases c
    cases a with
    | loc hx =>
      obtain ⟨vs, n, h1, h2, h3, h4⟩ := list_at hN hm e hx
      refine kup_listOf (zs := vs) hF hN h1 rfl (fun D c h' F' N' hlt => ?_) (size_ok h3 (vreps_len h2))
      exact p _ _ _ _ _ (W.grow_le D) (Same.of s h' _) (q _ (mem_fresh hm)) (.loc (W.grow_get D)) (st.grow (s' := { s with heap := h' }) F' N' hl hm hlt (.list (h2.mono (W.grow_le D)) h3))

noncomputable def octs (ns : List Int) : List UInt8 := ns.map fun n => UInt8.ofNat n.toNat
theorem pc_bytes {n l} {ns : List Int} (e : σ l = some (.list (ns.map MV.int))) (hr : ∀ n ∈ ns, 0 ≤ n ∧ n < 256) : PC G n (.type "bytes") [.loc l] σ (.bytes (octs ns)) := by
  intro Q X q F C W ρ s av QQ EE hn hd st hav p px
  obtain ⟨m, led, hF, hN, hl, hm⟩ := st.ex
  cases hav with
  | cons a c =>
    cases c
    cases a with
    | loc hx =>
      obtain ⟨vs, n, h1, h2, h3, h4⟩ := list_at hN hm e hx
      refine call_bytes_ints h4 (vreps_ints h2) hr (size_ok h3 (vreps_len h2)) (st.ok.hd hd) fun h' t k hk => ?_
      have hb : VRep W (.bytes (octs ns)) (.bytes (byteArr ns) t) := by
        have : byteArr ns = (octs ns).toArray := by unfold byteArr octs; first | rfl | simp
        rw [this]; exact .bytes _ _
      exact p W _ σ _ _ (.refl W) (Same.of s h' k) q hb (st.push (s' := { s with heap := h', toks := k }) hk)

noncomputable def isTup : MV → Bool
  | .tup _ => true
  | _ => false
theorem pc_isTup {n x} (hx : isTup x = true ∨ ∃ l xs, x = .loc l ∧ σ l = some (.list xs)) : PC G n (.builtin "isinstance") [x, .raw (.type "tuple")] σ (.bool (isTup x)) := by
  intro Q X q F C W ρ s av QQ EE hn hd st hav p px
  obtain ⟨m, led, hF, hN, hl, hm⟩ := st.ex
  cases hav with
  | cons a c =>
    cases c with
    | cons b c =>
      cases c
      cases b
      rcases hx with hx | ⟨l, xs, rfl, e⟩
      · cases a with
        | tup mm rs => exact IsiPair.tuple_tuple (hN _ (hm.im _ mm)).1 rfl (p W _ σ _ _ (.refl W) (.refl s) q (.bool _) st)
        | _ => cases hx
      · cases a with
        | loc hx =>
          obtain ⟨vs, n, h1, h2, h3, h4⟩ := list_at hN hm e hx
          exact IsiPair.list_tuple (hN _ h1).1 rfl (p W _ σ _ _ (.refl W) (Same.of s s.heap _) q (.bool _) (st.toks rfl))
theorem pc_isBytes {n b} : PC G n (.builtin "isinstance") [.bytes b, .raw (.type "bytes")] σ (.bool true) := by
  intro Q X q F C W ρ s av QQ EE hn hd st hav p px
  cases hav with
  | cons a c =>
    cases c with
    | cons b c =>
      cases c
      cases b
      cases a
      exact call_isinstance (isinstance_true PySem.F.isi_meta_bytes PySem.F.sub_bytes_bytes) ⟨typeIs_bytes _ _ _, p W _ σ _ _ (.refl W) (.refl s) q (.bool _) st⟩

/-! methods of lists -/
theorem callWith_any {QQ EE : Value → Shared → Prop} {f : Value} {fv : List Value} {args : List Expr} {pos : Pos} {Qa : List MV → MH → Prop}
    (hk : keepsG G.K f = true) (ha : args.all notStar = true) (h : HA G F ρ σ args Qa X) (st : St G F C W ρ σ s) (eo : EOk G F C EE) (px : PostX G F C W s X EE)
    (k : ∀ W1 vs σ1 av s1, W.le W1 → Same s s1 → Qa vs σ1 → VReps W1 vs av → St G F C W1 ρ σ1 s1 → wpAny G.M (C.A F) (call f (fv ++ av) []) QQ EE s1) :
    wpAny G.M (C.A F) (callWith pos f fv (backTo pos (starEach args (C.env F))) []) QQ EE s := by
  refine callWith_of (P := G.K.In) ?_ (fun hp => keeps_any hk hp) ?_
  · rw [show (backTo pos (starEach args (C.env F))).any (·.1) = (starEach args (C.env F)).any (·.1) from by simp [backTo, List.any_map, Function.comp_def], starEach_plain ha]; rfl
  · have main : wpAny G.M (C.A F) (spliced (backTo pos (starEach args (C.env F)))) (fun vs s' => G.K.In s'.heap ∧ wpAny G.M (C.A F) (call f (fv ++ vs) []) QQ EE s') EE s := by
      refine h pos C W s _ EE st eo (fun W1 xs σ1 vs s1 h1 h2 q r1 st1 => ⟨?_, k W1 xs σ1 vs s1 h1 h2 q r1 st1⟩) px
      obtain ⟨m, led, hF, hN, hl, hm⟩ := st1.ex
      exact st.ok.inK.keeps hF.keep
    cases args with
    | nil =>
      show wpAny _ _ (evalArgs f true [] []) _ _ s
      have main' : wpAny G.M (C.A F) (spliced []) (fun vs s' => G.K.In s'.heap ∧ wpAny G.M (C.A F) (call f (fv ++ vs) []) QQ EE s') EE s := main
      unfold evalArgs
      show wpAny _ _ (spliced [] >>= _) _ _ s
      refine wpAny_bind (wpAny_mono main' (fun vs s' h' => ?_) fun _ _ x => x)
      refine wpAny_bind (wpAny_pure ?_)
      refine wpAny_holding ?_
      exact wpAny_bind (wpAny_pure (wpAny_bind (wpAny_pure (wpAny_pure h'))))
    | cons e r =>
      rw [List.all_cons, Bool.and_eq_true] at ha
      rw [starEach_cons ha.1] at main ⊢
      exact evalArgs_plain main


theorem he_append {o e : Expr} {apos pos : Pos} {Q : MV → MH → Prop}
    (h : HE G F ρ σ o (fun x σ0 => ∃ l, x = .loc l ∧ (∃ xs, σ0 l = some (.list xs)) ∧ HE G F ρ σ0 e (fun v σ1 => ∃ xs, σ1 l = some (.list xs) ∧ xs.length < 65536 ∧ Q .none (upd σ1 l (.list (xs ++ [v])))) X) X)
    (ht : MethTree o "append" apos pos [e]) (ha : notStar e = true) : HE G F ρ σ (.Call (.Attribute o "append" apos) [e] [] pos) Q X := by
  intro C W s QQ EE st eo p px
  obtain ⟨pl, he⟩ := ht
  refine methodCall_KW (he_use h st eo px fun W1 x σ1 v s1 h1 h2 q r1 st1 px1 => ?_) (he _)
  obtain ⟨l, rfl, ⟨xs, hl0⟩, q⟩ := q
  obtain ⟨m, led, hF, hN, hl, hmem⟩ := st1.ex
  obtain ⟨_, rfl, hx⟩ := r1.locv
  · skip
    obtain ⟨vs, n, g1, g2, g3, g4⟩ := list_at hN hmem hl0 hx
    refine Calls.getMethod_list_append (hN _ g1).1 rfl rfl ?_
    refine callWith_any (Qa := fun as σ2 => ∃ v xs, as = [v] ∧ σ2 l = some (.list xs) ∧ xs.length < 65536 ∧ Q .none (upd σ2 l (.list (xs ++ [v])))) rfl (by simp [ha]) (ha_cons (HT.weaken q (fun v σ2 q2 => ha_nil (let ⟨xs, a, b, c⟩ := q2; ⟨v, xs, rfl, a, b, c⟩)) fun _ _ z => z) ha) st1 eo px1 ?_
    intro W2 as σ2 av s2 k1 k2 k3 k4 st2
    obtain ⟨v, xs2, rfl, e2, hz2, q2⟩ := k3
    obtain ⟨m2, led2, hF2, hN2, hl2, hm2⟩ := st2.ex
    have hx2 := prefix_get k1.as hx
    obtain ⟨vs2, n2, j1, j2, j3, j4⟩ := list_at hN2 hm2 e2 hx2
    cases k4 with
    | @cons _ vv _ _ a b =>
      cases b
      refine append_K hF2 (news_but hN2 j1) (Upd.head but_ne) (fun h' F' N' => ?_) (by rw [List.size_toArray]; exact size_ok j3 (vreps_len j2))
      have hr : ORep G W2 (.list (xs2 ++ [v])) (listOf (vs2.toArray.push vv) (n2 + 1)) := by
        rw [List.push_toArray]
        exact .list (vreps_app j2 (.cons a .nil)) (by simp; lia)
      exact p W2 _ _ _ _ (h1.trans k1) ((h2.trans k2).trans (Same.of s2 h' _)) q2 .none (st2.set (s' := { s2 with heap := h' }) F' N' hl2 hm2 hx2 hr)

theorem he_extend {o e : Expr} {apos pos : Pos} {Q : MV → MH → Prop}
    (h : HE G F ρ σ o (fun x σ0 => ∃ l, x = .loc l ∧ (∃ xs, σ0 l = some (.list xs)) ∧ HE G F ρ σ0 e (fun v σ1 => ∃ l2 xs ys, v = .loc l2 ∧ σ1 l = some (.list xs) ∧ σ1 l2 = some (.list ys) ∧ l2 ≠ l ∧ xs.length + ys.length ≤ 65536 ∧ Q .none (upd σ1 l (.list (xs ++ ys)))) X) X)
    (ht : MethTree o "extend" apos pos [e]) (ha : notStar e = true) : HE G F ρ σ (.Call (.Attribute o "extend" apos) [e] [] pos) Q X := by
  intro C W s QQ EE st eo p px
  obtain ⟨pl, he⟩ := ht
  refine methodCall_KW (he_use h st eo px fun W1 x σ1 v s1 h1 h2 q r1 st1 px1 => ?_) (he _)
  obtain ⟨l, rfl, ⟨xs, hl0⟩, q⟩ := q
  obtain ⟨m, led, hF, hN, hl, hmem⟩ := st1.ex
  obtain ⟨_, rfl, hx⟩ := r1.locv
  · skip
    obtain ⟨vs, n, g1, g2, g3, g4⟩ := list_at hN hmem hl0 hx
    refine kf_method hN g1 PySem.F.slot_list_extend PySem.F.type_list_extend ?_
    refine callWith_any (Qa := fun as σ2 => ∃ l2 xs ys, as = [.loc l2] ∧ σ2 l = some (.list xs) ∧ σ2 l2 = some (.list ys) ∧ l2 ≠ l ∧ xs.length + ys.length ≤ 65536 ∧ Q .none (upd σ2 l (.list (xs ++ ys)))) rfl (by simp [ha])
      (ha_cons (HT.weaken q (fun v σ2 q2 => ha_nil ((by obtain ⟨l2, xs, ys, a, r⟩ := q2; exact ⟨l2, xs, ys, by rw [a], r⟩))) fun _ _ z => z) ha) st1 eo px1 ?_
    intro W2 as σ2 av s2 k1 k2 k3 k4 st2
    obtain ⟨l2, xs2, ys2, rfl, e2, e3, hne, hz2, q2⟩ := k3
    obtain ⟨m2, led2, hF2, hN2, hl2, hm2⟩ := st2.ex
    have hx2 := prefix_get k1.as hx
    obtain ⟨vs2, n2, j1, j2, j3, j4⟩ := list_at hN2 hm2 e2 hx2
    cases k4 with
    | cons a b =>
      cases b
      cases a with
      | loc hy =>
        obtain ⟨us2, n3, i1, i2, i3, i4⟩ := list_at hN2 hm2 e3 hy
        refine extend_in (own := []) hF2 (news_but hN2 j1) (fun _ h => absurd h List.not_mem_nil) but_ne (hN2 _ i1).1 (fun h' n' F' N' => ?_) (by rw [List.size_toArray, vreps_len j2, vreps_len i2, sizeLine_eq]; lia)
        have hr : ORep G W2 (.list (xs2 ++ ys2)) (listOf (vs2 ++ us2.toArray.toList).toArray n') := by
          refine .list (vreps_app j2 ?_) (by simp; lia)
          simpa using i2
        exact p W2 _ _ _ _ (h1.trans k1) ((h2.trans k2).trans (Same.of s2 h' _)) q2 .none (st2.set (s' := { s2 with heap := h' }) F' N' hl2 hm2 hx2 hr)

/-- list + list -/
theorem he_addl {l r : Expr} {pos : Pos} {Q : MV → MH → Prop}
    (h : HE G F ρ σ l (fun x σ1 => HE G F ρ σ1 r (fun y σ2 => ∃ a b xs ys, x = .loc a ∧ y = .loc b ∧ σ2 a = some (.list xs) ∧ σ2 b = some (.list ys) ∧ xs.length + ys.length ≤ 65536 ∧ ∀ c, σ2 c = none → Q (.loc c) (upd σ2 c (.list (xs ++ ys)))) X) X) : HE G F ρ σ (.BinOp l .Add r pos) Q X := by
  intro C W s QQ EE st eo p px
  refine wpAny_BinOp (he_use h st eo px fun W1 x σ1 v s1 h1 h2 q r1 st1 px1 => he_use q st1 eo px1 fun W2 y σ2 u s2 h3 h4 q2 r2 st2 px2 => ?_)
  obtain ⟨a, b, xs, ys, rfl, rfl, e1, e2, hz, q3⟩ := q2
  obtain ⟨m2, led2, hF2, hN2, hl2, hm2⟩ := st2.ex
  obtain ⟨_, rfl, hx⟩ := r1.locv
  · skip
    obtain ⟨_, rfl, hy⟩ := r2.locv
    · skip
      obtain ⟨vs, n, j1, j2, j3, j4⟩ := list_at hN2 hm2 e1 (prefix_get h3.as hx)
      obtain ⟨us, n', i1, i2, i3, i4⟩ := list_at hN2 hm2 e2 hy
      refine PySem.P.add_list (items := vs.toArray) (items2 := us.toArray) (hN2 _ j1).1 (hN2 _ i1).1 ?_ (by rw [List.size_toArray, List.size_toArray, vreps_len j2, vreps_len i2, sizeLine_eq]; lia)
      have hk : ∀ b ob, s2.heap.get? b = some ob → (s2.heap.push { cls := .type "list", data := .seq (vs.toArray ++ us.toArray) }).get? b = some ob := fun b ob e => Heap.get?_push_of_some _ e
      have N' := news_pushed hF2 hN2 hk (Heap.get?_push_size _ rfl) rfl
      have hlt : ∀ p ∈ led2, p.1 < s2.heap.objs.size := fun p hp => Heap.lt_size (hN2 p hp).1
      refine p _ _ _ _ _ ((h1.trans h3).trans (W2.grow_le _)) ((h2.trans h4).trans (Same.of s2 _ _)) (q3 _ (mem_fresh hm2)) (.loc (W2.grow_get _)) (st2.grow (s' := { s2 with heap := _ }) (hF2.keeps hk) N' hl2 hm2 hlt ?_)
      have : (vs.toArray ++ us.toArray) = (vs ++ us).toArray := by simp
      rw [this]
      exact .list (vreps_app (j2.mono (W2.grow_le _)) (i2.mono (W2.grow_le _))) (by simp; lia)
end
end Mine
end
section
set_option Elab.async false
set_option linter.all false
set_option maxRecDepth 100000
set_option genSizeOf false
set_option genInjectivity false
namespace Mine
open PySem PySem.W PySem.Calls PyProof.Rows

noncomputable def cut {α : Type} (xs : List α) (lo hi : Option Int) : List α := (xs.drop (lo.elim 0 (clipAt xs.length))).take (hi.elim xs.length (clipAt xs.length) - lo.elim 0 (clipAt xs.length))
theorem cut_len {α : Type} (xs : List α) (l u : Option Int) : (cut xs l u).length ≤ xs.length := by
  unfold cut; rw [List.length_take, List.length_drop]; exact Nat.le_trans (Nat.min_le_right _ _) (Nat.sub_le _ _)

theorem vreps_drop {W : Wd} : ∀ {xs vs}, VReps W xs vs → ∀ k : Nat, VReps W (xs.drop k) (vs.drop k) := by
  intro xs
  induction xs with
  | nil => intro vs q k; cases q; cases k <;> exact .nil
  | cons x xs ih =>
    intro vs q k
    cases k with
    | zero => exact q
    | succ k =>
      cases q with
      | cons _ r => exact ih r k
theorem vreps_take {W : Wd} : ∀ {xs vs}, VReps W xs vs → ∀ k : Nat, VReps W (xs.take k) (vs.take k) := by
  intro xs
  induction xs with
  | nil => intro vs q k; cases q; cases k <;> exact .nil
  | cons x xs ih =>
    intro vs q k
    cases k with
    | zero => exact .nil
    | succ k =>
      cases q with
      | cons a r => exact .cons a (ih r k)

section
variable {G : Gl} {F : Fx} {ρ : Loc} {σ : MH} {X : MX → MH → Prop}

inductive PPart (G : Gl) (F : Fx) (ρ : Loc) (σ : MH) : Option Expr → Option Int → Prop
  | none : PPart G F ρ σ .none .none
  | some {e i} : PV G F ρ σ e (.int i) → PPart G F ρ σ (.some e) (.some i)
theorem part_ok {C : Cx} {W : Wd} {s : Shared} {e i} {QQ EE : Value → Shared → Prop} (h : PPart G F ρ σ e i) (st : St G F C W ρ σ s) (eo : EOk G F C EE) (px : PostX G F C W s X EE)
    (k : ∀ W' v s', W.le W' → Same s s' → IsPart v i → St G F C W' ρ σ s' → QQ v s') : wpAny G.M (C.A F) (evalPart e (C.env F)) QQ EE s := by
  cases h with
  | none => exact wpAny_pure (k W _ s (.refl W) (.refl s) .none st)
  | some h =>
    rw [evalPart_some]
    refine he_use (h (fun v σ' => v = .int _ ∧ σ' = σ) X ⟨rfl, rfl⟩) st eo px fun W1 x σ1 v s1 h1 h2 q r st1 px1 => ?_
    obtain ⟨rfl, rfl⟩ := q
    cases r
    exact k W1 _ s1 h1 h2 (.int _ _) st1

theorem he_slice {o : Expr} {lo hi : Option Expr} {sp pos : Pos} {Q : MV → MH → Prop}
    (h : HE G F ρ σ o (fun x σ1 => ∃ l u, PPart G F ρ σ1 lo l ∧ PPart G F ρ σ1 hi u ∧ ((∃ b, x = .bytes b ∧ b.length ≤ 1000000 ∧ Q (.bytes (cut b l u)) σ1) ∨
      (∃ a xs, x = .loc a ∧ σ1 a = some (.list xs) ∧ ∀ c, σ1 c = none → Q (.loc c) (upd σ1 c (.list (cut xs l u)))))) X) : HE G F ρ σ (.Subscript o (.Slice lo hi none sp) pos) Q X := by
  intro C W s QQ EE st eo p px
  refine Subscript_ (he_use h st eo px fun W1 x σ1 v s1 h1 h2 q r1 st1 px1 => ?_)
  obtain ⟨l, u, pl, pu, q⟩ := q
  refine wpAny_Slice (part_ok pl st1 eo px1 fun W2 vl s2 h3 h4 il st2 => part_ok pu st2 eo (px1.from h3 h4) fun W3 vu s3 h5 h6 iu st3 => ?_)
  refine wpAny_pure ?_
  obtain ⟨m, led, hF, hN, hl, hm⟩ := st3.ex
  rcases q with ⟨b, rfl, hb, q⟩ | ⟨a, xs, rfl, e, q⟩
  · cases r1
    have hz : b.toArray.size ≤ sizeLine := by rw [sizeLine_eq]; simpa using Nat.le_trans hb (by decide)
    refine tail_any (T := "bytes") (ops := [.ref s3.heap.objs.size, .bytes b.toArray _]) (typeIs_bytes _ _ _) FB.slot_bytes_getitem.lookup (getItem_meets (typeIs_bytes _ _ _) (by decide) FB.slot_bytes_getitem FB.entry_bytes_getitem (FB.args_bytes_getitem_2 _ _) (KBc.meets_slice2 b.toArray _ _ il iu)
      ⟨Heap.IsSliceOf.new _ _ _ _, Nat.le_trans (KBc.size_picked_le b.toArray l u) hz, fun t' k => ?_⟩) rfl
    have F' := hF.push { cls := .type "slice", data := .fields #[vl, vu, .none] }
    have N' := News.pushKeep hN { cls := .type "slice", data := .fields #[vl, vu, .none] }
    have hb : VRep W3 (.bytes (cut b l u)) (.bytes (KBy.picked b.toArray l u) t') := by
      rw [KBc.picked_eq]
      have : b.toArray.size = b.length := by simp
      rw [this]
      exact .bytes _ _
    exact p W3 _ σ1 _ _ ((h1.trans h3).trans h5) (((h2.trans h4).trans h6).trans (Same.of s3 _ k)) q hb ⟨st3.ok, m, led, F', N', hl, hm⟩
  · cases r1 with
    | loc hx =>
      obtain ⟨vs, n, g1, g2, g3, g4⟩ := list_at hN hm e (prefix_get (h3.trans h5).as hx)
      refine tail_any (T := "list") (id := "list.__getitem__") (ops := [.ref s3.heap.objs.size, .ref _]) (Heap.IsList.typeIs (s := { s3 with heap := s3.heap.push { cls := .type "slice", data := .fields #[vl, vu, .none] } }) (g4.push _)) slot_list_getitem.lookup
        (wpAny_getItem_list_slice (g4.push _) (Heap.IsSliceOf.new ..) il iu .none (by simp) ?_ (by rw [List.size_toArray]; exact size_ok g3 (vreps_len g2))) rfl
      have F' := (hF.push { cls := .type "slice", data := .fields #[vl, vu, .none] }).push { cls := .type "list", data := .seq (slicePick vs.toArray l u none) }
      have N' := News.push (hF.push { cls := .type "slice", data := .fields #[vl, vu, .none] }) (hN.grown fun _ _ e => Heap.get?_push_of_some _ e) { cls := .type "list", data := .seq (slicePick vs.toArray l u none) }
      rw [Heap.size_push] at N'
      show QQ (.ref (s3.heap.push _).objs.size) _
      rw [Heap.size_push]
      have hlt : ∀ p ∈ led, p.1 < s3.heap.objs.size + 1 := fun p hp => Nat.lt_succ_of_lt (Heap.lt_size (hN p hp).1)
      refine p _ _ _ _ _ (((h1.trans h3).trans h5).trans (W3.grow_le _)) (((h2.trans h4).trans h6).trans (Same.of s3 _ _)) (q _ (mem_fresh hm)) (.loc (W3.grow_get _)) (st3.grow (s' := { s3 with heap := _ }) F' N' hl hm hlt ?_)
      rw [slicePick_plain]
      have hs : vs.toArray.size = xs.length := by rw [List.size_toArray]; exact vreps_len g2
      rw [hs]
      refine .list (vreps_take (vreps_drop (g2.mono (W3.grow_le _)) _) _) ?_
      exact Nat.le_trans (cut_len _ _ _) g3

/-! iterators -/
theorem ownGo {C : Cx} {s : Shared} {tgt : Expr} {I : Addr} {v : Value} {ob : Obj} {T : String} {EE : Value → Shared → Prop} {Q : Unit → Shared → Prop} (ho : s.heap.get? I = some ob) (hc : ob.cls = .type T)
    (hT : (["enumerate", "zip", "dict_itemiterator", "dict_reverseitemiterator", "odict_iterator", "itertools.zip_longest", "itertools.pairwise"] : List String).contains T = false) (q : Q () s) : wpAny G.M (C.A F) (letOwnedTupleGo tgt (.ref I) v) Q EE s := by
  cases tgt <;> unfold letOwnedTupleGo <;> first | exact wpAny_pure q | skip
  all_goals
    cases v <;> first | exact wpAny_pure q | skip
    refine wpAny_bind (wpAny_load ho ?_)
    rw [hc]
    cases ob.data <;> first | exact wpAny_pure q | skip
    show wpAny _ _ (if (_ && _) = true then _ else _) _ _ _
    rw [hT, Bool.false_and]
    exact wpAny_pure q

theorem hidden_at {C : Cx} {W : Wd} {s : Shared} (st : St G F C W ρ σ s) {p : Addr × Obj} (h : p ∈ W.hid) : s.heap.get? p.1 = some p.2 := by
  obtain ⟨m, led, hF, hN, hl, hm⟩ := st.ex
  exact (hN _ (hm.hid p h)).1

abbrev ownList (cls : String) (I ax : Addr) (i : Nat) (o : List (Addr × Obj)) : Prop := ∃ ob : Obj, o = [(I, ob)] ∧ ob.cls = .type cls ∧ ob.data = .fields #[.ref ax, .int i 0]

theorem but1 {a : Addr} {h h' : Heap} (x : Heap.SameBut a h h') {ob : Obj} : ∀ b o, b ∉ ([(a, ob)] : List (Addr × Obj)).map (·.1) → h.get? b = some o → h'.get? b = some o := fun b o hb e => (x.2 b (by simpa using hb)).trans e
theorem but1' {a : Addr} {h h' : Heap} (x : Heap.ExtBut a h h') {ob : Obj} : ∀ b o, b ∉ ([(a, ob)] : List (Addr × Obj)).map (·.1) → h.get? b = some o → h'.get? b = some o := fun b o hb e => x b o (by simpa using hb) e

theorem turns_list {C : Cx} {W0 : Wd} {tgt : Expr} {l : Nat} {ax I : Addr} {xs : List MV} (hx : W0.as[l]? = some ax) (hh : C.hdv = none) : Turns G F C tgt (.ref I) W0 xs (fun σ => σ l = some (.list xs)) (ownList "list_iterator" I ax) where
  turn := by
    intro i x W ρ σ s o hid QQ EE hxi ho ha hi hw hJ st k
    obtain ⟨ob, rfl, hc, hd⟩ := ho
    have hI := hidden_at st (p := (I, ob)) (by rw [hw]; exact .head _)
    obtain ⟨m, led, hF, hN, hl, hm⟩ := st.ex
    obtain ⟨vs, n, g1, g2, g3, g4⟩ := list_at hN hm hJ (prefix_get ha hx)
    obtain ⟨v, hv, hr⟩ := vreps_get g2 hxi
    refine wpAny_pyNext_list_item ⟨ob, hI, hc, hd⟩ g4 (by simpa using hv) fun h' hit hs => ⟨v, rfl, ?_⟩
    obtain ⟨ob', ho', hc', hd'⟩ := hit
    refine ownGo (s := { s with heap := h' }) ho' hc' (by decide) ?_
    exact k (W.hide ([(I, ob')] ++ hid)) [(I, ob')] v _ ⟨ob', rfl, hc', hd'⟩ rfl (fun _ z => z) rfl hr.hide (Same.of s h' _) (st.rehid (s' := { s with heap := h' }) hw (but1 hs) (fun p hp => by rw [List.mem_singleton.mp hp]; exact ho') (List.Sublist.refl _))
  done := by
    intro W ρ σ s o hid QQ EE ho ha hi hw hJ st k
    obtain ⟨ob, rfl, hc, hd⟩ := ho
    have hI := hidden_at st (p := (I, ob)) (by rw [hw]; exact .head _)
    obtain ⟨m, led, hF, hN, hl, hm⟩ := st.ex
    obtain ⟨vs, n, g1, g2, g3, g4⟩ := list_at hN hm hJ (prefix_get ha hx)
    refine wpAny_pyNext_list_end hh ⟨ob, hI, hc, hd⟩ g4 (by rw [← vreps_len g2]; simp) fun h' hs => ⟨rfl, ?_⟩
    exact k _ (Same.of s h' _) (st.unhid (s' := { s with heap := h' }) hw (but1' hs))
  self := by
    intro i W ρ σ s o hid QQ EE ho hw st k
    obtain ⟨ob, rfl, hc, hd⟩ := ho
    exact wpAny_pyIter_listiter ⟨ob, hidden_at st (p := (I, ob)) (by rw [hw]; exact .head _), hc, hd⟩ k
theorem hi_list {e tgt : Expr} {Q : List MV → (MH → Prop) → MH → Prop} (h : HE G F ρ σ e (fun x σ1 => ∃ l xs, x = .loc l ∧ σ1 l = some (.list xs) ∧ Q xs (fun σ => σ l = some (.list xs)) σ1) X) : HI G F ρ σ e tgt Q X := by
  intro C W s QQ EE st eo hh p px
  refine he_use h st eo px fun W1 x σ1 v s1 h1 h2 q r1 st1 px1 => ?_
  obtain ⟨l, xs, rfl, e, q⟩ := q
  obtain ⟨m, led, hF, hN, hl, hm⟩ := st1.ex
  obtain ⟨_, rfl, hx⟩ := r1.locv
  · skip
    obtain ⟨vs, n, g1, g2, g3, g4⟩ := list_at hN hm e hx
    refine wpAny_pyIter_list g4 ?_
    refine p W1 xs _ _ σ1 _ [(s1.heap.objs.size, { cls := .type "list_iterator", data := .fields #[.ref _, .int 0 0] })] _ h1 (h2.trans (Same.of s1 _ _)) q e (turns_list hx hh) ⟨_, rfl, rfl, rfl⟩ (st1.hid (s' := { s1 with heap := _ }) (fun b ob e => Heap.get?_push_of_some _ e) (fun p hp => ?_) (by simp))
    rw [List.mem_singleton.mp hp]
    exact ⟨Heap.get?_push_size _ rfl, by cases q : s1.heap.get? s1.heap.objs.size with | none => rfl | some o => exact absurd (Heap.lt_size q) (Nat.lt_irrefl _)⟩

theorem turns_tup {C : Cx} {W0 : Wd} {tgt : Expr} {ax I : Addr} {xs : List MV} {vs : List Value} {n : Nat} (hx : (ax, ({ cls := .type "tuple", data := .seq vs.toArray n } : Obj)) ∈ W0.im) (g2 : VReps W0 xs vs) (hh : C.hdv = none) : Turns G F C tgt (.ref I) W0 xs (fun _ => True) (ownList "tuple_iterator" I ax) where
  turn := by
    intro i x W ρ σ s o hid QQ EE hxi ho ha hi hw hJ st k
    obtain ⟨ob, rfl, hc, hd⟩ := ho
    have hI := hidden_at st (p := (I, ob)) (by rw [hw]; exact .head _)
    obtain ⟨m, led, hF, hN, hl, hm⟩ := st.ex
    obtain ⟨v, hv, hr⟩ := vreps_get g2 hxi
    refine wpAny_pyNext_tuple_item (items := vs.toArray) ⟨ob, hI, hc, hd⟩ ⟨_, (hN _ (hm.im _ (hi _ hx))).1, rfl, _, rfl⟩ (by simpa using hv) fun h' hit hs => ⟨v, rfl, ?_⟩
    obtain ⟨ob', ho', hc', hd'⟩ := hit
    refine ownGo (s := { s with heap := h' }) ho' hc' (by decide) ?_
    have hr' : VRep W x v := VRep.mono (W := W0.hide W.hid) (W' := W) ⟨ha, hi, rfl⟩ hr.hide
    exact k (W.hide ([(I, ob')] ++ hid)) [(I, ob')] v _ ⟨ob', rfl, hc', hd'⟩ rfl (fun _ z => z) rfl hr'.hide (Same.of s h' _) (st.rehid (s' := { s with heap := h' }) hw (but1 hs) (fun p hp => by rw [List.mem_singleton.mp hp]; exact ho') (List.Sublist.refl _))
  done := by
    intro W ρ σ s o hid QQ EE ho ha hi hw hJ st k
    obtain ⟨ob, rfl, hc, hd⟩ := ho
    have hI := hidden_at st (p := (I, ob)) (by rw [hw]; exact .head _)
    obtain ⟨m, led, hF, hN, hl, hm⟩ := st.ex
    refine wpAny_pyNext_tuple_end (items := vs.toArray) hh ⟨ob, hI, hc, hd⟩ ⟨_, (hN _ (hm.im _ (hi _ hx))).1, rfl, _, rfl⟩ (by rw [← vreps_len g2]; simp) fun h' hs => ⟨rfl, ?_⟩
    exact k _ (Same.of s h' _) (st.unhid (s' := { s with heap := h' }) hw (but1' hs))
  self := by
    intro i W ρ σ s o hid QQ EE ho hw st k
    obtain ⟨ob, rfl, hc, hd⟩ := ho
    exact wpAny_pyIter_tupleiter ⟨ob, hidden_at st (p := (I, ob)) (by rw [hw]; exact .head _), hc, hd⟩ k
theorem none_at_size (h : Heap) : h.get? h.objs.size = none := by
  cases q : h.get? h.objs.size with
  | none => rfl
  | some o => exact absurd (Heap.lt_size q) (Nat.lt_irrefl _)
theorem hi_tup {e tgt : Expr} {Q : List MV → (MH → Prop) → MH → Prop} (h : HE G F ρ σ e (fun x σ1 => ∃ xs, x = .tup xs ∧ Q xs (fun _ => True) σ1) X) : HI G F ρ σ e tgt Q X := by
  intro C W s QQ EE st eo hh p px
  refine he_use h st eo px fun W1 x σ1 v s1 h1 h2 q r1 st1 px1 => ?_
  obtain ⟨xs, rfl, q⟩ := q
  obtain ⟨m, led, hF, hN, hl, hm⟩ := st1.ex
  obtain ⟨_, _, _, rfl, mm, rs⟩ := r1.tupv
  · skip
    refine wpAny_pyIter_tuple (items := _) ⟨_, (hN _ (hm.im _ mm)).1, rfl, _, rfl⟩ ?_
    refine p W1 xs _ _ σ1 _ [(s1.heap.objs.size, { cls := .type "tuple_iterator", data := .fields #[.ref _, .int 0 0] })] _ h1 (h2.trans (Same.of s1 _ _)) q trivial (turns_tup mm rs hh) ⟨_, rfl, rfl, rfl⟩ (st1.hid (s' := { s1 with heap := _ }) (fun b ob e => Heap.get?_push_of_some _ e) (fun p hp => ?_) (by simp))
    rw [List.mem_singleton.mp hp]
    exact ⟨Heap.get?_push_size _ rfl, none_at_size _⟩

noncomputable def nums (n : Nat) : List MV := (List.range n).map fun i : Nat => MV.int (i : Int)
theorem nums_get {n i : Nat} {x} (h : (nums n)[i]? = some x) : i < n ∧ x = .int (i : Int) := by
  unfold nums at h
  rw [List.getElem?_map] at h
  by_cases hi : i < n
  · rw [List.getElem?_range hi] at h; simp at h; exact ⟨hi, h.symm⟩
  · rw [List.getElem?_eq_none (by simpa using hi)] at h; cases h
theorem nums_len (n : Nat) : (nums n).length = n := by simp [nums]

abbrev ownRange (I : Addr) (n : Nat) (i : Nat) (o : List (Addr × Obj)) : Prop := o = [(I, ({ cls := .type "range_iterator", dict := none, data := .fields #[rawInt (i : Int), rawInt ((n : Int) - i), rawInt 1], slots := #[] } : Obj))]
theorem turns_range {C : Cx} {W0 : Wd} {tgt : Expr} {I : Addr} {n : Nat} (hh : C.hdv = none) : Turns G F C tgt (.ref I) W0 (nums n) (fun _ => True) (ownRange I n) where
  turn := by
    intro i x W ρ σ s o hid QQ EE hxi ho ha hi hw hJ st k
    obtain ⟨hin, rfl⟩ := nums_get hxi
    cases ho
    have hI := hidden_at st (p := (I, _)) (by rw [hw]; exact .head _)
    refine wpAny_pyNext_range_item (x := (i : Int)) (left := (n : Int) - i) (step := 1) hI (by lia) fun h' hit hs => ⟨_, rfl, ?_⟩
    refine ownGo (s := { s with heap := h', toks := s.toks + 1 }) hit rfl (by decide) ?_
    have e1 : ((i + 1 : Nat) : Int) = (i : Int) + 1 := by lia
    have e2 : (n : Int) - ((i + 1 : Nat) : Int) = (n : Int) - i - 1 := by lia
    have ho' : ownRange I n (i + 1) [(I, ({ cls := .type "range_iterator", dict := none, data := .fields #[rawInt ((i : Int) + 1), rawInt ((n : Int) - i - 1), rawInt 1], slots := #[] } : Obj))] := by
      unfold ownRange; rw [e1, ← e2, e1]
    exact k (W.hide (_ ++ hid)) _ _ _ ho' rfl (fun _ z => z) rfl (.int _ _) (Same.of s h' _) (st.rehid (s' := { s with heap := h', toks := s.toks + 1 }) hw (but1 hs) (fun p hp => by rw [List.mem_singleton.mp hp]; exact hit) (List.Sublist.refl _))
  done := by
    intro W ρ σ s o hid QQ EE ho ha hi hw hJ st k
    cases ho
    have hI := hidden_at st (p := (I, _)) (by rw [hw]; exact .head _)
    rw [nums_len] at hI
    refine wpAny_pyNext_range_end hh hI (by lia) fun h' hs => ⟨rfl, ?_⟩
    exact k _ (Same.of s h' _) (st.unhid (s' := { s with heap := h' }) hw (but1' hs))
  self := by
    intro i W ρ σ s o hid QQ EE ho hw st k
    cases ho
    exact wpAny_pyIter_rangeiter (x := (i : Int)) (left := (n : Int) - i) (step := 1) (hidden_at st (p := (I, _)) (by rw [hw]; exact .head _)) k
theorem hi_rng {e tgt : Expr} {Q : List MV → (MH → Prop) → MH → Prop} (h : HE G F ρ σ e (fun x σ1 => ∃ n : Nat, x = .rng n ∧ n < 100000 ∧ Q (nums n) (fun _ => True) σ1) X) : HI G F ρ σ e tgt Q X := by
  intro C W s QQ EE st eo hh p px
  refine he_use h st eo px fun W1 x σ1 v s1 h1 h2 q r1 st1 px1 => ?_
  obtain ⟨n, rfl, hn, q⟩ := q
  obtain ⟨m, led, hF, hN, hl, hm⟩ := st1.ex
  obtain ⟨_, _, _, _, rfl, mm⟩ := r1.rngv
  · skip
    refine wpAny_pyIter_range (hN _ (hm.im _ mm)).1 (small_one (by decide) (by decide) (by lia) (by lia)) ?_
    have es : Builtin.Range.rangeSize 0 (n : Int) 1 = (n : Int) - (0 : Nat) := by rw [rangeSize_one]; split <;> lia
    rw [es]
    refine p W1 (nums n) _ _ σ1 _ _ _ h1 (h2.trans (Same.of s1 _ _)) q trivial (turns_range hh) rfl (st1.hid (s' := { s1 with heap := _ }) (fun b ob e => Heap.get?_push_of_some _ e) (fun p hp => ?_) (by simp))
    rw [List.mem_singleton.mp hp]
    exact ⟨Heap.get?_push_size _ rfl, none_at_size _⟩
end
end Mine
end
section
set_option Elab.async false
set_option linter.all false
set_option maxRecDepth 100000
set_option genSizeOf false
set_option genInjectivity false
namespace Mine
open PySem PySem.W PySem.Calls PyProof.Rows

theorem mem_grow' {G : Gl} {W : Wd} {σ : MH} {led} (hm : Mem G W σ led) {a : Addr} {o : MObj} {ob : Obj} (hn : a ∉ W.as ++ (W.im.map (·.1) ++ W.hid.map (·.1))) (hr : ORep G (W.grow a) o ob) : Mem G (W.grow a) (upd σ W.as.length o) ((a, ob) :: led) := by
  refine ⟨?_, fun j o' e => ?_, fun j hj => ?_, fun j hj => ?_, fun p hp => .tail _ (hm.im p hp), fun p hp => .tail _ (hm.hid p hp)⟩
  · show (W.as ++ [a] ++ (W.im.map (·.1) ++ W.hid.map (·.1))).Nodup
    rw [List.append_assoc]
    have hp : (W.as ++ ([a] ++ (W.im.map (·.1) ++ W.hid.map (·.1)))).Perm (a :: (W.as ++ (W.im.map (·.1) ++ W.hid.map (·.1)))) := List.perm_middle
    exact hp.nodup_iff.mpr (List.nodup_cons.mpr ⟨hn, hm.nd⟩)
  · by_cases hj : j = W.as.length
    · subst hj
      rw [upd_same] at e
      cases e
      exact ⟨a, ob, W.grow_get a, .head _, hr⟩
    · rw [upd_other hj] at e
      obtain ⟨b, ob', h1, h2, h3⟩ := hm.obj j o' e
      exact ⟨b, ob', prefix_get (W.grow_le a).as h1, .tail _ h2, h3.mono (W.grow_le a)⟩
  · have : W.as.length + 1 ≤ j := by simpa [Wd.grow] using hj
    have hne : j ≠ W.as.length := by lia
    rw [upd_other hne]; exact hm.off j (by lia)
  · have : j < W.as.length + 1 := by simpa [Wd.grow] using hj
    by_cases hj : j = W.as.length
    · subst hj; rw [upd_same]; rfl
    · rw [upd_other hj]; exact hm.on j (by lia)

noncomputable def enums (xs : List MV) : List MV := xs.zipIdx.map fun p : MV × Nat => MV.tup [.int (p.2 : Int), p.1]
theorem enums_len (xs : List MV) : (enums xs).length = xs.length := by simp [enums]
theorem enums_get {xs : List MV} {i : Nat} {y} (h : (enums xs)[i]? = some y) : ∃ x, xs[i]? = some x ∧ y = .tup [.int (i : Int), x] := by
  unfold enums at h
  rw [List.getElem?_map, List.getElem?_zipIdx] at h
  cases q : xs[i]? with
  | none => rw [q] at h; simp at h
  | some x => rw [q] at h; simp at h; exact ⟨x, rfl, h.symm⟩

section
variable {G : Gl} {F : Fx} {ρ : Loc} {σ : MH} {X : MX → MH → Prop}

theorem St.im {C : Cx} {W W0 : Wd} {ρ0 : Loc} {σ0 : MH} {s s0 : Shared} (st : St G F C W ρ σ s) (st0 : St G F C W0 ρ0 σ0 s0) (ha : W.as = W0.as) (hi : W.im = W0.im) (hh : W.hid.map (·.1) = W0.hid.map (·.1)) {a : Addr} {ob : Obj}
    (h0 : s0.heap.get? a = none) (h : s.heap.get? a = some ob) : St G F C (W.keep (a, ob)) ρ σ s := by
  obtain ⟨m, led, hF, hN, hl, hm⟩ := st.ex
  obtain ⟨m0, led0, hF0, hN0, hl0, hm0⟩ := st0.ex
  have hn : a ∉ W.as ++ (W.im.map (·.1) ++ W.hid.map (·.1)) := fun z => by
    rw [ha, hi, hh] at z
    obtain ⟨o, ho⟩ := mem_addr hm0 z
    have := (hN0 _ ho).1
    rw [h0] at this; cases this
  refine ⟨st.ok, m, (a, ob) :: led, hF, fun p hp => ?_, hl.mono (W.keep_le _), mem_keep hm hn⟩
  rcases List.mem_cons.mp hp with rfl | hp
  · refine ⟨h, fun z => ?_, ?_⟩
    · obtain ⟨oL, _, _, hoL, _⟩ := hF0.ns
      dsimp only at z
      rw [z, hoL] at h0; cases h0
    · cases q : C.h₀.get? a with
      | none => rfl
      | some o => have := hF0.keep _ _ q; rw [h0] at this; cases this
  · exact hN p hp

abbrev ownEnum (e I ax : Addr) (i : Nat) (o : List (Addr × Obj)) : Prop := ∃ old ob, o = [(e, ({ cls := .type "enumerate", dict := none, data := .fields #[.none, .bool false, .ref I, rawInt (i : Int), .none, old], slots := #[] } : Obj)), (I, ob)] ∧ ob.cls = .type "list_iterator" ∧ ob.data = .fields #[.ref ax, .int i 0]
theorem turns_enum {C : Cx} {W0 : Wd} {es k tp} {l : Nat} {ax e I : Addr} {xs : List MV} (hx : W0.as[l]? = some ax) (hh : C.hdv = none) (hne : e ≠ I) :
    Turns G F C (.Tuple es k tp) (.ref e) W0 (enums xs) (fun σ => σ l = some (.list xs)) (ownEnum e I ax) where
  turn := by
    intro i x W ρ σ s o hid QQ EE hxi ho ha hi hw hJ st k
    obtain ⟨y, hy, rfl⟩ := enums_get hxi
    obtain ⟨old, ob, rfl, hc, hd⟩ := ho
    have hE := hidden_at st (p := (e, _)) (by rw [hw]; exact .head _)
    have hI := hidden_at st (p := (I, ob)) (by rw [hw]; exact .tail _ (.head _))
    obtain ⟨m, led, hF, hN, hl, hm⟩ := st.ex
    obtain ⟨vs, n, g1, g2, g3, g4⟩ := list_at hN hm hJ (prefix_get ha hx)
    obtain ⟨v, hv, hr⟩ := vreps_get g2 hy
    refine wpAny_pyNext_enum_item hE ⟨ob, hI, hc, hd⟩ g4 (by simpa using hv) hne fun h' heo hit ht hz hk => ⟨_, rfl, ?_⟩
    refine wpAny_letOwnedTupleGo_enum heo fun h₂ he₂ hs₂ => ?_
    obtain ⟨ob', ho', hc', hd'⟩ := hit
    have e1 : ((i + 1 : Nat) : Int) = (i : Int) + 1 := by lia
    rw [← e1] at he₂
    let o' : List (Addr × Obj) := [(e, ({ cls := .type "enumerate", dict := none, data := .fields #[.none, .bool false, .ref I, rawInt ((i + 1 : Nat) : Int), .none, v], slots := #[] } : Obj)), (I, ob')]
    have hkk : ∀ b o, b ≠ e → b ≠ I → s.heap.get? b = some o → h₂.get? b = some o := fun b o x1 x2 q => (hs₂.2 b x1).trans (hk b o x1 x2 q)
    have st2 : St G F C (W.hide (o' ++ hid)) ρ σ { s with heap := h₂, toks := s.toks + 1 } := by
      refine st.rehid (s' := { s with heap := h₂, toks := s.toks + 1 }) hw (fun b o hb q => hkk b o (by simp at hb; exact hb.1) (by simp at hb; exact hb.2) q) (fun p hp => ?_) (List.Sublist.refl _)
      rcases List.mem_cons.mp hp with rfl | hp
      · exact he₂
      · rw [List.mem_singleton.mp hp]; exact (hs₂.2 I (Ne.symm hne)).trans ho'
    have heH : e ≠ s.heap.objs.size := Nat.ne_of_lt (Heap.lt_size hE)
    have ht₂ : h₂.get? s.heap.objs.size = some { cls := .type "tuple", data := .seq #[.int i s.toks, v] } := (hs₂.2 _ (Ne.symm heH)).trans ht
    have st3 := st2.im st rfl rfl (by rw [hw]; rfl) (none_at_size s.heap) ht₂
    refine k ((W.hide (o' ++ hid)).keep (s.heap.objs.size, ({ cls := .type "tuple", data := .seq #[.int i s.toks, v] } : Obj))) o' _ _ ⟨v, ob', rfl, hc', hd'⟩ rfl (fun _ z => .tail _ z) rfl (.tup (n := 0) (vs := [.int i s.toks, v]) (.head _) (.cons (.int _ _) (.cons ?_ .nil))) (Same.of s h₂ _) st3
    exact VRep.mono (Wd.keep_le _ _) hr.hide
  done := by
    intro W ρ σ s o hid QQ EE ho ha hi hw hJ st k
    obtain ⟨old, ob, rfl, hc, hd⟩ := ho
    rw [enums_len] at hd
    have hE := hidden_at st (p := (e, _)) (by rw [hw]; exact .head _)
    have hI := hidden_at st (p := (I, ob)) (by rw [hw]; exact .tail _ (.head _))
    obtain ⟨m, led, hF, hN, hl, hm⟩ := st.ex
    obtain ⟨vs, n, g1, g2, g3, g4⟩ := list_at hN hm hJ (prefix_get ha hx)
    rw [enums_len] at hE
    refine wpAny_pyNext_enum_end hh hE ⟨ob, hI, hc, hd⟩ g4 (by rw [← vreps_len g2]; simp) fun h' hs => ⟨rfl, ?_⟩
    exact k _ (Same.of s h' _) (st.unhid (s' := { s with heap := h' }) hw (fun b o hb q => hs b o (by simp at hb; exact hb.2) q))
  self := by
    intro i W ρ σ s o hid QQ EE ho hw st k
    obtain ⟨old, ob, rfl, hc, hd⟩ := ho
    exact wpAny_pyIter_enum (hidden_at st (p := (e, _)) (by rw [hw]; exact .head _)) k
theorem hi_enum {id : Str} {np pos : Pos} {e : Expr} {es k tp} {Q : List MV → (MH → Prop) → MH → Prop} (hn : PV G F ρ σ (.Name id np) (.raw (.type "enumerate"))) (ha : notStar e = true)
    (h : HE G F ρ σ e (fun x σ1 => ∃ l xs, x = .loc l ∧ σ1 l = some (.list xs) ∧ Q (enums xs) (fun σ => σ l = some (.list xs)) σ1) X) : HI G F ρ σ (.Call (.Name id np) [e] [] pos) (.Tuple es k tp) Q X := by
  intro C W s QQ EE st eo hh p px
  refine wpAny_Call_Name_kw (he_use (hn (fun v σ' => v = .raw (.type "enumerate") ∧ σ' = σ) X ⟨rfl, rfl⟩) st eo px fun W1 x σ1 v s1 h1 h2 q r1 st1 px1 => ?_)
  obtain ⟨rfl, rfl⟩ := q
  cases r1
  refine callWith_any (fv := []) (Qa := fun as σ1 => ∃ l xs, as = [.loc l] ∧ σ1 l = some (.list xs) ∧ Q (enums xs) (fun σ => σ l = some (.list xs)) σ1) rfl (by simp [ha])
    (ha_cons (HT.weaken h (fun v σ2 q2 => ha_nil ((by obtain ⟨l, xs, a, r⟩ := q2; exact ⟨l, xs, by rw [a], r⟩))) fun _ _ z => z) ha) st1 eo px1 fun W2 as σ2 av s2 k1 k2 k3 k4 st2 => ?_
  obtain ⟨l, xs, rfl, e2, q⟩ := k3
  obtain ⟨m, led, hF, hN, hl, hm⟩ := st2.ex
  cases k4 with
  | cons a b =>
    cases b
    cases a with
    | loc hx =>
      obtain ⟨vs, n, g1, g2, g3, g4⟩ := list_at hN hm e2 hx
      refine call_enumerate_list g4 fun h' he hit hz hk => ?_
      refine wpAny_pyIter_enum he ?_
      obtain ⟨ob, ho, hc, hd⟩ := hit
      have hne : (s2.heap.objs.size + 1 : Addr) ≠ s2.heap.objs.size := Nat.succ_ne_self _
      refine p W2 (enums xs) _ _ σ2 _ [(s2.heap.objs.size + 1, ({ cls := .type "enumerate", dict := none, data := .fields #[.none, .bool false, .ref s2.heap.objs.size, rawInt ((0 : Nat) : Int), .none, .none], slots := #[] } : Obj)), (s2.heap.objs.size, ob)] _ (h1.trans k1) ((h2.trans k2).trans (Same.of s2 h' _)) q e2 (turns_enum hx hh hne) ⟨.none, ob, rfl, hc, hd⟩ (st2.hid (s' := { s2 with heap := h' }) hk (fun p hp => ?_) (by simp))
      rcases List.mem_cons.mp hp with rfl | hp
      · refine ⟨he, ?_⟩
        cases q : s2.heap.get? (s2.heap.objs.size + 1) with
        | none => rfl
        | some o => exact absurd (Nat.lt_of_succ_lt (Heap.lt_size q)) (Nat.lt_irrefl _)
      · rw [List.mem_singleton.mp hp]; exact ⟨ho, none_at_size _⟩

/-! dicts written -/
noncomputable def HDs (G : Gl) (F : Fx) (ρ : Loc) : List (Option Expr) → List Expr → MH → (List (Str × MV) → MH → Prop) → (MX → MH → Prop) → Prop
  | [], [], σ, Q, X => Q [] σ
  | some (.Constant (.str k) _ _) :: ks, e :: es, σ, Q, X => HE G F ρ σ e (fun x σ1 => HDs G F ρ ks es σ1 (fun kvs σ2 => Q ((k, x) :: kvs) σ2) X) X
  | _, _, _, _, _ => False
theorem hds_nil {Q : List (Str × MV) → MH → Prop} (q : Q [] σ) : HDs G F ρ [] [] σ Q X := q
theorem hds_cons {k kk p e ks es} {Q : List (Str × MV) → MH → Prop} (h : HE G F ρ σ e (fun x σ1 => HDs G F ρ ks es σ1 (fun kvs σ2 => Q ((k, x) :: kvs) σ2) X) X) : HDs G F ρ (some (.Constant (.str k) kk p) :: ks) (e :: es) σ Q X := h

inductive KPs (W : Wd) : List (Str × MV) → List (Value × Value) → Prop
  | nil : KPs W [] []
  | cons {k t x v xs vs} : VRep W x v → KPs W xs vs → KPs W ((k, x) :: xs) ((.str k t, v) :: vs)
theorem KPs.mono {W W' : Wd} (h : W.le W') {xs vs} (q : KPs W xs vs) : KPs W' xs vs := by
  induction q with
  | nil => exact .nil
  | cons a _ ih => exact .cons (a.mono h) ih
theorem KPs.str {W xs vs} (q : KPs W xs vs) : allStrKeys vs = true := by
  induction q with
  | nil => rfl
  | cons _ _ ih => exact ih
theorem KPs.pairs {W xs vs} (q : KPs W xs vs) : KVs W xs (strPairs vs) := by
  induction q with
  | nil => exact .nil
  | cons a _ ih => exact .cons a ih

theorem hds_inv {k0 : Option Expr} {ks : List (Option Expr)} {es : List Expr} {Q : List (Str × MV) → MH → Prop} (h : HDs G F ρ (k0 :: ks) es σ Q X) : ∃ k kk p e es', k0 = some (.Constant (.str k) kk p) ∧ es = e :: es' := by
  cases es with
  | nil => exact absurd h (by cases k0 with | none => exact fun z => z | some x => cases x <;> first | exact fun z => z | (rename_i c _ _; cases c <;> exact fun z => z))
  | cons e es =>
    cases k0 with
    | none => exact h.elim
    | some x =>
      cases x with
      | Constant c kk p =>
        cases c with
        | str k => exact ⟨_, _, _, _, _, rfl, rfl⟩
        | _ => exact h.elim
      | _ => exact h.elim
theorem hds_ok {C : Cx} {pos : Pos} {EE : Value → Shared → Prop} (eo : EOk G F C EE) : ∀ (ks : List (Option Expr)) (es : List Expr) {σ : MH} {Q : List (Str × MV) → MH → Prop}, HDs G F ρ ks es σ Q X → ∀ {W : Wd} {s : Shared} {QQ : List (Value × Value) → Shared → Prop}, St G F C W ρ σ s → PostX G F C W s X EE →
    (∀ W' kvs σ' vs s', W.le W' → Same s s' → Q kvs σ' → KPs W' kvs vs → St G F C W' ρ σ' s' → QQ vs s') → wpAny G.M (C.A F) (evalPairs (pairTrees ks es (C.env F) pos)) QQ EE s := by
  intro ks
  induction ks with
  | nil =>
    intro es σ Q h W s QQ st px k
    cases es with
    | nil => exact evalPairs_nil (k W [] _ [] s (.refl W) (.refl s) h .nil st)
    | cons e es => exact h.elim
  | cons k0 ks ih =>
    intro es σ Q h
    obtain ⟨key, kk, p, e, es, rfl, rfl⟩ := hds_inv h
    intro W s QQ st px k
    show wpAny _ _ (evalPairs ((eval (.Constant (.str key) kk p) (C.env F), do let x ← eval e (C.env F); standAt pos; pure x) :: pairTrees ks es (C.env F) pos)) _ _ _
    refine evalPairs_cons (wpAny_Constant_str ?_)
    have st0 : St G F C W ρ σ { s with toks := s.toks + 1 } := st.toks rfl
    refine wpAny_bind (he_use h st0 eo (px.from (.refl W) (Same.of s s.heap _)) fun W1 x σ1 v s1 h1 h2 q r1 st1 px1 => ?_)
    refine wpAny_bind (wpAny_standAt (wpAny_pure ?_))
    refine ih es q st1 px1 fun W2 kvs σ2 vs s2 k1 k2 k3 k4 k5 => ?_
    exact k W2 _ σ2 _ s2 (h1.trans k1) ((Same.of s s.heap _).trans (h2.trans k2)) k3 (.cons (r1.mono k1) k4) k5

theorem KPs.len {W xs vs} (q : KPs W xs vs) : vs.length = xs.length := by
  induction q with
  | nil => rfl
  | cons _ _ ih => simp [ih]

theorem he_dict {ks es pos} {Q : MV → MH → Prop} (h : HDs G F ρ ks es σ (fun kvs σ1 => (kvs.map (·.1)).Nodup ∧ kvs.length ≤ 15 ∧ ∀ l, σ1 l = none → Q (.loc l) (upd σ1 l (.dict kvs))) X)
    (hall : ks.all (·.isSome) = true) (hl : ks.length = es.length) (h0 : ks ≠ []) (hlen : ks.length ≤ 15) : HE G F ρ σ (.Dict ks es pos) Q X := by
  intro C W s QQ EE st eo p px
  obtain ⟨m, led, hF, hN, hll, hm⟩ := st.ex
  refine kdn_eval (knd := strKind G.prog G.w) hF hN (Top.nolimit st.ok.top) hall hl h0 hlen fun d h' o F' N' hlt hsys hd => ?_
  have hdn : d ∉ W.as ++ (W.im.map (·.1) ++ W.hid.map (·.1)) := fun z => by
    obtain ⟨ob, hob⟩ := mem_addr hm z
    exact Nat.lt_irrefl _ (hlt _ hob)
  have st1 : St G F C (W.hide ([(d, o)] ++ W.hid)) ρ σ { s with heap := h' } := by
    refine ⟨st.ok, m, _, F', N', hll.hide, mem_rehid (bad := []) hm ?_ (fun _ h => absurd h List.not_mem_nil) (fun _ h => absurd h List.not_mem_nil) (fun p hp _ => .tail _ hp) fun p hp => ?_⟩
    · have p1 : (W.as ++ (W.im.map (·.1) ++ (d :: W.hid.map (·.1)))).Perm (d :: (W.as ++ (W.im.map (·.1) ++ W.hid.map (·.1)))) := by
        rw [← List.append_assoc, ← List.append_assoc]; exact List.perm_middle
      exact p1.nodup_iff.mpr (List.nodup_cons.mpr ⟨hdn, hm.nd⟩)
    · rcases List.mem_cons.mp hp with rfl | hp
      · exact .head _
      · exact .tail _ (hm.hid p hp)
  have px1 : PostX G F C (W.hide ([(d, o)] ++ W.hid)) { s with heap := h' } X EE := fun W2 x σ2 e s2 k1 k2 k3 k4 => px (W2.hide W.hid) x σ2 e s2 (Wd.hide_le k1 W.hid) ((Same.of s h' _).trans k2) k3 (k4.unhid k1.hid)
  refine hds_ok eo ks es h st1 px1 fun W2 kvs σ2 vs s2 k1 k2 k3 k4 st2 => ?_
  obtain ⟨m2, led2, hF2, hN2, hl2, hm2⟩ := st2.ex
  have hh2 : W2.hid = [(d, o)] ++ W.hid := k1.hid
  have hdm : (d, o) ∈ led2 := hm2.hid _ (by rw [hh2]; exact .head _)
  have hnd2 := hm2.nd
  rw [hh2, List.map_append] at hnd2
  have hbad := nd_bad (a := d) hnd2 (.head _)
  have hkeys : (strPairs vs).map (·.1) = kvs.map (·.1) := kvs_keys k4.pairs
  refine kdn_made_str hF2 (news_but hN2 hdm) (UpdF.head but_ne) hd k4.str (by rw [hkeys]; exact k3.1) fun h3 o3 F3 N3 hd3 => ?_
  have hm3 : Mem G (W2.hide W.hid) σ2 (but led2 d) := mem_rehid (bad := [d]) hm2 (nd_sub hnd2 (List.sublist_append_right _ _)) (fun a ha => by rw [List.mem_singleton.mp ha]; exact hbad.1) (fun a ha => by rw [List.mem_singleton.mp ha]; exact hbad.2.1)
    (fun p hp hn => mem_but hp (by simpa using hn)) fun p hp => mem_but (hm2.hid p (by rw [hh2]; exact .tail _ hp)) fun z => hbad.2.2 (z ▸ List.mem_map_of_mem hp)
  have hdn2 : d ∉ (W2.hide W.hid).as ++ ((W2.hide W.hid).im.map (·.1) ++ (W2.hide W.hid).hid.map (·.1)) := fun z => by
    rcases List.mem_append.mp z with z | z
    · exact hbad.1 z
    · rcases List.mem_append.mp z with z | z
      · exact hbad.2.1 z
      · exact hbad.2.2 z
  have hr : ORep G ((W2.hide W.hid).grow d) (.dict kvs) o3 := .dict ((KVs.hide (h := W.hid) k4.pairs).mono (Wd.grow_le _ _)) hd3 k3.1 (Nat.le_trans k3.2.1 (by decide))
  have hle : W.le ((W2.hide W.hid).grow d) := (Wd.hide_le k1 W.hid).trans (Wd.grow_le _ _)
  refine p _ _ _ _ _ hle ((Same.of s h' _).trans (k2.trans (Same.of s2 h3 _))) (k3.2.2 _ (hm2.off _ (Nat.le_refl _))) (.loc (Wd.grow_get _ _)) ⟨st.ok, m2, _, F3, N3, hl2.hide.mono (Wd.grow_le _ _), mem_grow' hm3 hdn2 hr⟩
end
end Mine
end
section
set_option Elab.async false
set_option linter.all false
set_option maxRecDepth 100000
set_option genSizeOf false
set_option genInjectivity false
namespace Mine
open PySem PySem.W PySem.Calls PyProof.Rows

noncomputable def retTo (QQ EE : Value → Shared → Prop) : Result → Shared → Prop := fun r s' => match r with
  | .ok (.ret v) => QQ v s'
  | .ok _ => False
  | .error e => EE e s'

/-- the call's code -/
noncomputable def HCc (G : Gl) (n : Nat) (f : Value) (vs : List MV) (σ : MH) (Q : MV → MH → Prop) (X : MX → MH → Prop) : Prop :=
  ∀ F C W ρ s av QQ EE, n ≤ F.n → F.hd = false → St G F C W ρ σ s → VReps W vs av → Post G F C W s VRep ρ Q QQ →
    (∀ W' x σ' e s', W.le W' → Same s s' → X x σ' → COk G F C → FlownX G F C W' x σ' e s' → EE e s') → codeAny G.M (C.A F) (.call f ⟨av, []⟩) (retTo QQ EE) s

theorem HCc.hc {G : Gl} {n : Nat} {f vs σ} {Q : MV → MH → Prop} {X : MX → MH → Prop} (h : HCc G n f vs σ Q X) : HC G n f vs σ Q X :=
  fun F C W ρ s av QQ EE hn hd st hav p px => wpAny_call (h F C W ρ s av QQ EE hn hd st hav p px)
theorem HCc.mono {G : Gl} {n n' : Nat} {f vs σ} {Q : MV → MH → Prop} {X : MX → MH → Prop} (h : HCc G n f vs σ Q X) (hn : n ≤ n') : HCc G n' f vs σ Q X :=
  fun F C W ρ s av QQ EE hF => h F C W ρ s av QQ EE (Nat.le_trans hn hF)

theorem hcc_def {G : Gl} {f : Addr} {name qual : Str} {params : Arguments} {body : List Stmt} {scope : Scope} {dV kV doc pm cdv ct oc : Value} {an od : Option Addr} {osl : Array (Option Value)} {n : Nat} {vs : List MV} {σ : MH} {Q : MV → MH → Prop} {X : MX → MH → Prop} {binds : List (Str × MV)} {others : List Str}
    (ho : G.K.lookup f = some ⟨oc, od, .func (fnOf name qual params body scope dV kV doc pm an cdv ct), osl⟩) (hcd : codeIn G.K cdv qual = true)
    (hb : ∀ (W : Wd) (s : Shared) av, G.K.In s.heap → VReps W vs av → ∃ bv, BindsTo s (fnOf name qual params body scope dV kV doc pm an cdv ct) ⟨av, []⟩ bv ∧ BReps W binds bv)
    (hnd : ((loc0 binds others).map (·.1)).Nodup) (hloc : ∀ p ∈ loc0 binds others, scope.names.lookup p.1 = some .local ∧ (p.1 == ("__debug__" : Str)) = false)
    (hco : scope.isCoroutine = false) (hgen : scope.isGenerator = false) (hk : scope.kind = .function) (hcell : ∀ x ∈ scope.names, x.2 ≠ .cell)
    (h : HS G ⟨qual, scope, n, false, false, false, [], []⟩ (loc0 binds others) σ body (fun fl _ σ' => match fl with | .ret v => Q v σ' | .next => Q .none σ' | _ => False) X) : HCc G (n + 1) (.ref f) vs σ Q X := by
  intro F C W ρ s av QQ EE hn hd st hav p px
  obtain ⟨m, led, hF, hN, hl, hm⟩ := st.ex
  obtain ⟨bv, hbind, hbr⟩ := hb W s av (st.ok.inK.keeps hF.keep) hav
  have hnames := hbr.names
  have hbl : ∀ y ∈ bv, scope.names.lookup y.1 = some .local := fun y hy => by
    have : y.1 ∈ bv.map (·.1) := List.mem_map_of_mem hy
    rw [hnames] at this
    obtain ⟨q, hq, e⟩ := List.mem_map.mp this
    have := (hloc (q.1, some q.2) (List.mem_append_left _ (List.mem_map_of_mem (f := fun p => (p.1, some p.2)) hq))).1
    rw [← e]; exact this
  refine code_def (A := C.A F) (env := C.env F) st.ok.below hF st.ok.inK hN st.ok.top rfl rfl st.ok.kind ho hcd (by have := st.ok.room; show C.dp < _; lia) hbind hbl (fun g L' h₁ FG F' N' B' X' T' => ?_) hco hgen hk hcell
  let C' : Cx := { dp := C.dp + 1, un := C.un + 3, gd := C.gd, hdv := C.hdv, L := L', a := f, cd := cdv, outer := C.env F :: C.outer, A₀ := C.A F, base := C.base, h₀ := g }
  let F' : Fx := ⟨qual, scope, n, false, false, false, [], []⟩
  have hndb : (bv.map (·.1)).Nodup := by
    rw [hnames]
    have := hnd
    unfold loc0 at this
    rw [List.map_append, List.map_map] at this
    exact (List.nodup_append.mp this).1
  have ok' : COk G F' C' := ⟨hk, B', X', T', by have := st.ok.room; show C.dp + 1 + n < _; lia, by have := st.ok.units; show C.un + 3 + 8 * n + 8 < _; lia, fun _ => st.ok.hd hd, fun h => by cases h⟩
  have hl' : LRep W F' (loc0 binds others) (fun y => bv.reverse.lookup y) := by
    refine ⟨hnd, hloc, fun x mv hx => ?_, fun _ h => absurd h List.not_mem_nil⟩
    rcases List.mem_append.mp hx with hx | hx
    · obtain ⟨q, hq, e⟩ := List.mem_map.mp hx
      cases e
      obtain ⟨v, h1, h2⟩ := hbr.get hq
      refine ⟨v, lookup_of_nodup ?_ (List.mem_reverse.mpr h1), h2⟩
      rw [List.map_reverse]
      exact List.pairwise_reverse.mpr (List.Pairwise.imp (fun h => Ne.symm h) hndb)
    · obtain ⟨q, hq, e⟩ := List.mem_map.mp hx
      cases e
  have st' : St G F' C' W (loc0 binds others) σ { s with heap := h₁, toks := s.toks + bv.length } := ⟨ok', _, led, by assumption, N', hl', hm⟩
  refine h C' W _ _ _ st' (fun _ => PassesOwn.leaving) (fun W' fl ρ' σ' fv s' h1 h2 q r st2 => ?_) (fun W' x σ' e s' h1 h2 q stx => ?_)
  · obtain ⟨m', led', hF', hN', hl2, hm'⟩ := st2.ex
    cases r with
    | next => exact leaveK_ hF' hN' fun Fc Nc => p W' .none σ' .none s' h1 ⟨h2.gens, h2.drawn, h2.os⟩ q .none ⟨st.ok, m, led', Fc, Nc, hl.mono h1, hm'⟩
    | brk => exact q.elim
    | cont => exact q.elim
    | ret hr => exact leaveK_ hF' hN' fun Fc Nc => p W' _ σ' _ s' h1 ⟨h2.gens, h2.drawn, h2.os⟩ q hr ⟨st.ok, m, led', Fc, Nc, hl.mono h1, hm'⟩
  · exact leave_x (F0 := F) (C0 := C) stx rfl rfl FG fun s'' h3 hfx => px W' x σ' e s'' h1 ⟨h3.gens.trans h2.gens, h3.drawn.trans h2.drawn, h3.os.trans h2.os⟩ q st.ok hfx

/-! under one built-in's code -/
noncomputable def Fx.less (F : Fx) (k : Nat) : Fx := { F with n := F.n - k }
noncomputable def Cx.down (C : Cx) (c : Code) : Cx := { C with dp := C.dp + c.weight, un := C.un + c.cUnits, gd := pushGuards c.guards C.gd }
section
variable {G : Gl} {F : Fx} {C : Cx} {W : Wd} {ρ : Loc} {σ : MH} {s : Shared} {X : MX → MH → Prop}
theorem down_A (c : Code) (hc : c.envs = []) (k : Nat) : (C.A F).under c = (C.down c).A (F.less k) := by
  unfold Around.under Cx.down Cx.A
  rw [hc]; rfl
theorem COk.down (ok : COk G F C) (c : Code) {k : Nat} (hk : k ≤ F.n) (h1 : c.weight ≤ k) (h2 : c.cUnits ≤ 8 * k) : COk G (F.less k) (C.down c) :=
  ⟨ok.kind, ok.below, ok.inK, ok.top, by have := ok.room; show C.dp + c.weight + (F.n - k) < _; lia, by have := ok.units; show C.un + c.cUnits + 8 * (F.n - k) + 8 < _; lia, ok.hd, ok.top0⟩
theorem St.down (st : St G F C W ρ σ s) (c : Code) {k : Nat} (hk : k ≤ F.n) (h1 : c.weight ≤ k) (h2 : c.cUnits ≤ 8 * k) : St G (F.less k) (C.down c) W ρ σ s := by
  obtain ⟨m, led, hF, hN, hl, hm⟩ := st.ex
  exact ⟨st.ok.down c hk h1 h2, m, led, hF, hN, ⟨hl.nd, hl.kind, hl.val, hl.cells⟩, hm⟩
theorem St.up (st : St G (F.less k) (C.down c) W ρ σ s) (ok : COk G F C) : St G F C W ρ σ s := by
  obtain ⟨m, led, hF, hN, hl, hm⟩ := st.ex
  exact ⟨ok, m, led, hF, hN, ⟨hl.nd, hl.kind, hl.val, hl.cells⟩, hm⟩

theorem tc_w (a : Addr) (av : List Value) : Code.weight (.builtin "type.__call__" ⟨.ref a :: av, []⟩) = 1 := by kernel_rfl
theorem tc_u (a : Addr) (av : List Value) : Code.cUnits (.builtin "type.__call__" ⟨.ref a :: av, []⟩) = 1 := by kernel_rfl
theorem tc_e (a : Addr) (av : List Value) : Code.envs (.builtin "type.__call__" ⟨.ref a :: av, []⟩) = [] := by kernel_rfl
/-- an object of a written class is made -/
theorem hc_new {n : Nat} {cls fI : Addr} {vs : List MV} {Q : MV → MH → Prop} (hm : makesIn G.K cls = true) (hi : findIn G.K (.ref cls) "__init__" = some (some (.ref fI))) (hf : isFn G.K (.ref fI) = true)
    (h : ∀ i j, i ≠ j → σ i = none → σ j = none → HCc G n (.ref fI) (.loc i :: vs) (upd (upd σ j (.ns [])) i (.inst cls j)) (fun v σ' => v = .none ∧ Q (.loc i) σ') X) : HC G (n + 3) (.ref cls) vs σ Q X := by
  intro F C W ρ s av QQ EE hn hd st hav p px
  obtain ⟨m, led, hF, hN, hl, hmm⟩ := st.ex
  refine call_cls hF st.ok.inK hN hm hi hf fun x dx h' F' N' hlt hx => ?_
  let c : Code := .builtin "type.__call__" ⟨.ref cls :: av, []⟩
  have hw : c.weight ≤ 3 := by rw [tc_w]; lia
  have hu : c.cUnits ≤ 8 * 3 := by rw [tc_u]; lia
  have he : c.envs = [] := tc_e _ _
  show codeAny _ ((C.A F).under c) _ _ _
  rw [down_A c he 3]
  have N1 : News C.h₀ C.L h' ((dx, dictOf [] 0) :: led) := fun p hp => N' p (.tail _ hp)
  have hdxn : dx ∉ W.as ++ (W.im.map (·.1) ++ W.hid.map (·.1)) := fun z => by
    obtain ⟨o, ho⟩ := mem_addr hmm z
    exact Nat.lt_irrefl _ (hlt _ ho)
  have m1 := mem_grow' hmm hdxn (o := .ns []) (ob := dictOf [] 0) (.ns .nil (by simp) (by simp))
  have hxn : x ∉ (W.grow dx).as ++ ((W.grow dx).im.map (·.1) ++ (W.grow dx).hid.map (·.1)) := fun z => by
    obtain ⟨o, ho⟩ := mem_addr m1 z
    rcases List.mem_cons.mp ho with e | ho
    · cases e; exact Nat.lt_irrefl _ hx
    · exact Nat.lt_irrefl _ (Nat.lt_trans hx (hlt _ ho))
  have hgj : ((W.grow dx).grow x).as[W.as.length]? = some dx := prefix_get ((W.grow dx).grow_le x).as (W.grow_get dx)
  have m2 := mem_grow' m1 hxn (o := .inst cls W.as.length) (ob := instObj cls dx) (.inst hgj)
  have hle : W.le ((W.grow dx).grow x) := (W.grow_le dx).trans ((W.grow dx).grow_le x)
  have st2 : St G F C ((W.grow dx).grow x) ρ (upd (upd σ W.as.length (.ns [])) (W.grow dx).as.length (.inst cls W.as.length)) { s with heap := h' } := ⟨st.ok, m, _, F', N', hl.mono hle, m2⟩
  have hlen : (W.grow dx).as.length = W.as.length + 1 := by simp [Wd.grow]
  refine codeAny_mono (h (W.grow dx).as.length W.as.length (by lia) (hmm.off _ (by lia)) (mem_fresh hmm) (F.less 3) (C.down c) _ ρ { s with heap := h' } (.ref x :: av) (fun v s' => v = .none ∧ QQ (.ref x) s') EE (by show n ≤ F.n - 3; lia) hd (st2.down c (by lia) hw hu) (.cons (.loc (Wd.grow_get _ _)) (VReps.mono hle hav)) ?_ ?_) ?_
  · intro W' v σ' a s' k1 k2 k3 k4 k5
    obtain ⟨rfl, q⟩ := k3
    cases k4
    exact ⟨rfl, p W' _ σ' _ s' (hle.trans k1) ((Same.of s h' _).trans k2) q (.loc (prefix_get k1.as (Wd.grow_get _ _))) (k5.up st.ok)⟩
  · intro W' x' σ' e s' k1 k2 k3 k4 k5
    exact px W' x' σ' e s' (hle.trans k1) ((Same.of s h' _).trans k2) k3 st.ok (let ⟨ea, dx, g₂, m, led, B, a1, a2, a3, a4, a5, a6, a7, a8⟩ := k5; ⟨ea, dx, g₂, m, led, B, a1, a2, a3, a4, a5, a6, a7, a8⟩)
  · intro r s' hr
    rcases r with e | (v | _ | _ | _) <;> exact hr
end
end Mine
end
section
set_option Elab.async false
set_option linter.all false
set_option maxRecDepth 100000
set_option genSizeOf false
set_option genInjectivity false
namespace Mine
open PySem PySem.W PySem.Calls PyProof.Rows
open Sem (wp)

abbrev exc0 (C t : Addr) (dx : Option Addr) : Obj := { cls := .ref C, dict := dx, data := .fields #[.ref t, .none, .none, .none, .bool false, .none] }

/-- a written exception class with its own __init__ -/
inductive XObj (K : Frag) (C : Addr) : Prop
  | mk (nm q : Str) (N : Addr) (bs bm : List Value) (sn : List Str) (sub : List Value) (ab : Bool) (col : Option Bool) (dd : Option Addr) (k0 k1 k2 k3 k5 : Option Value)
    (hK : K.lookup C = some (excClassObj nm q C N bs bm true sn sub ab col dd k0 k1 k2 k3 k5 "Exception.__new__"))
    (hb : bm.contains (.type "Exception") = true) (hbb : bm.contains (.type "BaseException") = true) (ha : bm.contains (.type "AttributeError") = false) (hn : bm.contains (.type "NameError") = false) (ho : bm.contains (.type "object") = true)
    (hp : ∀ self, refuseLoop self "__setattr__" (.ref C :: bm) = pure ()) : XObj K C
structure XCls (K : Frag) (C fI : Addr) : Prop where
  obj : XObj K C
  init : findIn K (.ref C) "__init__" = some (some (.ref fI))
  fn : typeIn K (.ref fI) = some (.type "function")
  sa : findIn K (.ref C) "__setattr__" = some (some (.builtin "object.__setattr__"))
  told : findIn K (.ref C) "told" = some none

section
variable {M : Model} {prog : Program} {w : World} {A : Around} {E : Value → Shared → Prop} {R : Result → Shared → Prop} {h : Heap} {g : Array GenState} {d : Drawn} {t : Nat} {os : OsState}
variable {nm q : Str} {C N : Addr} {bs bm : List Value} {hdct : Bool} {sn : List Str} {sub : List Value} {ab : Bool} {col : Option Bool} {dd : Option Addr} {k0 k1 k2 k3 k5 : Option Value}

theorem x_check {rest : List Value} {Q : Unit → Shared → Prop} (hC : h.get? C = some (excClassObj nm q C N bs bm hdct sn sub ab col dd k0 k1 k2 k3 k5 "Exception.__new__")) (hb : bm.contains (.type "Exception") = true)
    (hq : Q () ⟨h, g, d, t, os⟩) : wpAny M A (checkBuiltinCall "Exception.__new__" ⟨.ref C :: rest, []⟩) Q E ⟨h, g, d, t, os⟩ := by
  have Fn := PySem.F.excBase_Exception
  have hcont : (Value.ref C :: bm).contains (.type "Exception") = true := by rw [List.contains_cons, hb, Bool.or_true]
  have hstar := Fn.noStar
  simp only [checkBuiltinCall, Fn.newKind, Fn.newSplit, Fn.newRow]
  repeat (first | with_reducible refine wpAny_loadPart_at hC ?_ | (with_reducible refine wpAny_isSubtype_exc hC ?_; rw [hcont]) | with_reducible refine wpAny_staticBase_exc hC ?_ | with_reducible refine wpAny_madeBy_exc hC ?_ | simp only [bne_self_eq_false, Bool.false_eq_true, if_false] | wp_step)
  exact hq

theorem x_new {rest : List Value} (hC : h.get? C = some (excClassObj nm q C N bs bm hdct sn sub ab col dd k0 k1 k2 k3 k5 "Exception.__new__")) (hb : bm.contains (.type "Exception") = true) (ha : bm.contains (.type "AttributeError") = false) (hn : bm.contains (.type "NameError") = false)
    (hq : R (.ok (.ret (.ref (h.objs.size + 1)))) ⟨(h.push { cls := .type "tuple", data := .seq rest.toArray }).push (exc0 C h.objs.size none), g, d, t, os⟩) (hrest : rest.length ≤ sizeLine) :
    codeAny (model prog w) A (.builtin "Exception.__new__" ⟨.ref C :: rest, []⟩) R ⟨h, g, d, t, os⟩ := by
  have Fn := PySem.F.excBase_Exception
  have hends := Fn.ends
  have hcB : (Value.ref C :: bm).contains (.type "Exception") = true := by rw [List.contains_cons, hb, Bool.or_true]
  have hcA : (Value.ref C :: bm).contains (.type "AttributeError") = false := by rw [List.contains_cons, ha]; rfl
  have hcN : (Value.ref C :: bm).contains (.type "NameError") = false := by rw [List.contains_cons, hn]; rfl
  refine codeAny_builtinAt Fn.entry ?_
  unfold Builtin.«BaseException.__new__»
  refine PySem.wpAt_bind ?_
  show PySem.wpAt _ _ _ (PySem.stack >>= _) _ _ _
  refine PySem.wpAt_bind (PySem.wpAt_stack fun p below => PySem.wpAt_of_wpAny ?_)
  wp_walk
  refine PySem.wpAt_of_wpAny ?_
  rw [Fn.owner]
  repeat (first | with_reducible refine wpAny_madeHere_exc Fn.canon hC ?_ | with_reducible refine wpAny_loadPart_at hC ?_ | (with_reducible refine wpAny_isSubtype_exc hC ?_; first | rw [hcB] | rw [hcA] | rw [hcN]) | wp_step)
  show R _ _
  rw [Heap.size_push]
  exact hq
end

section
variable {prog : Program} {w : World} {A : Around} {E : Value → Shared → Prop} {K : Frag} {s : Shared} {h₀ : Heap} {L C fI : Addr} {m : Str → Option Value} {led : List (Addr × Obj)}

theorem x_call {rest : List Value} {Q : Value → Shared → Prop} (hX : XCls K C fI) (F : Fr h₀ L s.heap m) (N : News h₀ L s.heap led) (XK : K.In h₀) (hrest : rest.length ≤ sizeLine)
    (k : ∀ e t h', Fr h₀ L h' m → News h₀ L h' ((e, exc0 C t none) :: led) → (∀ p ∈ led, p.1 < e) →
      codeAny (model prog w) (A.under (.builtin "type.__call__" ⟨.ref C :: rest, []⟩)) (.call (.ref fI) ⟨.ref e :: rest, []⟩) (InitBack e (retTo Q E)) { s with heap := h' }) :
    wpAny (model prog w) A (call (.ref C) rest []) Q E s := by
  obtain ⟨nm, q, NC, bs, bm, sn, sub, ab, col, dd, k0, k1, k2, k3, k5, hK, hb, hbb, ha, hn, hobj, -⟩ := hX.obj
  have XH := XK.keeps F.keep
  have hC := XH _ _ hK
  obtain ⟨h, g, d, t, os⟩ := s
  dsimp only at hC F N XH k
  have f1 := tc_lookup
  have f2 := tc_bind (.ref C)
  have hT : (⟨h, g, d, t, os⟩ : Shared).TypeIs (.ref C) "type" := ⟨_, hC, rfl⟩
  refine wpAny_call (codeAny_of_tree ?_)
  show wpAny _ _ (callAny (.ref C) _) _ _ _
  repeat (any_goals (first | assumption | with_reducible refine wpAny_loadPart_at hC ?_ | wp_step))
  refine ⟨rfl, ?_⟩
  refine codeAny_call_builtin_at (Code.quiet_builtin _ (by decide +kernel)) entry_typeCall (wpAny_check_type_call_sub hC ?_)
  repeat (first | with_reducible refine wpAny_loadPart_at hC ?_ | with_reducible refine wpAny_madeBy_exc hC ?_ | wp_step)
  refine codeAny_call_builtin_code (Code.quiet_builtin _ PySem.F.excBase_Exception.quiet) (x_check hC hb ?_)
  refine x_new hC hb ha hn ?_ hrest
  show wpAny _ _ _ _ _ _
  have keep2 : ∀ b o, h.get? b = some o → ((h.push { cls := .type "tuple", data := .seq rest.toArray }).push (exc0 C h.objs.size none)).get? b = some o := fun b o e => Heap.get?_push_of_some _ (Heap.get?_push_of_some _ e)
  have hC₁ := keep2 _ _ hC
  have hget : ((h.push { cls := .type "tuple", data := .seq rest.toArray }).push ({ cls := .ref C, data := .fields #[.ref h.objs.size, .none, .none, .none, .bool false, .none] } : Obj)).get? (h.objs.size + 1) = some { cls := .ref C, data := .fields #[.ref h.objs.size, .none, .none, .none, .bool false, .none] } := by heap_get
  have hcC : (Value.ref C :: bm).contains (.ref C) = true := by simp
  unfold isInstance
  repeat (first | with_reducible refine wpAny_loadPart_at hget ?_ | wp_step)
  show wpAny _ _ (isSubtype (.ref C) (.ref C)) _ _ _
  refine wpAny_isSubtype_exc hC₁ ?_
  rw [hcC]
  repeat (first | with_reducible refine wpAny_loadPart_at hget ?_ | wp_step)
  show wpAny _ _ (typeLookup (.ref C) _) _ _ _
  have XH2 := XH.keeps keep2
  refine (looks_findIn XH2 hX.init).at (wpAny_holding (wpAny_bind ((bind_fn XH2 (.ref (h.objs.size + 1)) hX.fn).at (wpAny_bind (wpAny_call ?_)))))
  have N2 : News h₀ L ((h.push { cls := .type "tuple", data := .seq rest.toArray }).push (exc0 C h.objs.size none)) ((h.objs.size + 1, exc0 C h.objs.size none) :: led) := by
    have := (N.grown (h' := h.push { cls := .type "tuple", data := .seq rest.toArray }) fun _ _ e => Heap.get?_push_of_some _ e).push (F.push _) (exc0 C h.objs.size none)
    rwa [Heap.size_push] at this
  refine codeAny_mono (k (h.objs.size + 1) h.objs.size _ ((F.push _).push _) N2 (fun p hp => Nat.lt_succ_of_lt (Heap.lt_size (N p hp).1))) fun r s' z => ?_
  rcases r with e | (v | _ | _ | _) <;> first | exact z | exact z.elim | skip
  obtain ⟨rfl, z⟩ := z
  exact wpAny_pure (wpAny_pure z)

theorem x_osa {x t : Addr} {v : Value} {R : Result → Shared → Prop} (hX : XCls K C fI) (XH : K.In s.heap) (hx : s.heap.get? x = some (exc0 C t none))
    (k : ∀ h' d hs tk n tk', h'.get? x = some (exc0 C t (some d)) → h'.get? d = some (dictOf [⟨hs, .str "told" tk, v⟩] n) → (∀ b o, b ≠ x → s.heap.get? b = some o → h'.get? b = some o) → s.heap.get? d = none → R (.ok (.ret .none)) { s with heap := h', toks := tk' }) {tk : Tok} :
    codeAny (model prog w) A (.call (.builtin "object.__setattr__") ⟨[.ref x, .str "told" tk, v], []⟩) R s := by
  obtain ⟨nm, q, NC, bs, bm, sn, sub, ab, col, dd, k0, k1, k2, k3, k5, hK, hb, hbb, ha, hn, hobj, hpass⟩ := hX.obj
  have SF := PySem.F.store_object
  have I : InstAt s.heap x (exc0 C t none) C none := ⟨hx, rfl, rfl, trivial⟩
  have hc : clsIn K C = some { name := nm, bases := bs, mro := .ref C :: bm, ns := NC, qualname := q, hasDict := true, slotNames := sn, subclasses := sub, abstract := ab, collection := col, hasDel := false } := by unfold clsIn; rw [hK]
  have hsub : mroIn K C (.type "object") = some true := by
    unfold mroIn
    rw [hc, Option.bind_some]
    simp only [List.isEmpty_cons, Bool.false_eq_true, if_false]
    rw [List.contains_cons, hobj, Bool.or_true]
  have sub : Looks (model prog w) s.heap (isInstance (.ref x) (.type "object")) true := I.type.andThen (looks_mroIn XH hsub)
  refine codeAny_call_builtin SF.slot.plain SF.entry (@check_slot (model prog w) _ _ s "object.__setattr__" "object" "__setattr__" (.ref x) [.str "told" tk, v] [] _ SF.kind SF.split sub (SF.args (.ref x) (.str "told" tk) v) ?_)
  have hm : Looks (model prog w) s.heap (mroOf (.ref C)) (.ref C :: bm) := (looks_clsIn XH hc).andThen .now
  rw [osa_eq, refuse_eq]
  refine wpAny_bind (wpAny_bind (I.type.here (wpAny_bind (hm.here ?_))))
  rw [hpass]
  refine wpAny_pure (wpAny_bind (I.type.here (wpAny_bind ((looks_findIn XH hX.told).here (wpAny_bind (wpAny_pure ?_))))))
  show wpAny _ _ (Builtin.ObjectAttr.storeInOwnDict (.ref x) (.ref C) (.str "told" tk) "told" v false) _ _ _
  refine wpAny_bind (wpAny_pure (wpAny_bind (wpAny_bind (wpAny_loadPart hx (wpAny_bind ((looks_clsIn XH hc).here ?_))))))
  have hx₁ : (s.heap.push { cls := .type "dict", data := .dict #[] }).get? x = some (exc0 C t none) := Heap.get?_push_of_some _ hx
  have hxs : x ≠ s.heap.objs.size := Nat.ne_of_lt (Heap.lt_size hx)
  show wpAny _ _ (alloc { cls := .type "dict", data := .dict #[] } >>= fun d => update x (fun o => { cls := o.cls, dict := some d, data := o.data, slots := o.slots }) >>= fun _ => (pure (some d) : Sem (Option Addr))) _ _ _
  refine wpAny_bind (wpAny_alloc (wpAny_bind (wpAny_update (s := { s with heap := s.heap.push { cls := .type "dict", data := .dict #[] } }) hx₁ (wpAny_pure ?_))))
  have hgd : ((s.heap.push { cls := .type "dict", data := .dict #[] }).update x fun o => { cls := o.cls, dict := some s.heap.objs.size, data := o.data, slots := o.slots }).get? s.heap.objs.size = some (dictOf [] 0) :=
    (Heap.get?_update_ne _ _ _ _ hxs.symm).trans (Heap.get?_push_at rfl rfl)
  have hgx : ((s.heap.push { cls := .type "dict", data := .dict #[] }).update x fun o => { cls := o.cls, dict := some s.heap.objs.size, data := o.data, slots := o.slots }).get? x = some (exc0 C t (some s.heap.objs.size)) := Heap.get?_update_self _ hx₁ rfl
  show wpAny _ _ (Builtin.ObjectAttr.storeInDict s.heap.objs.size (.str "told" tk) "told" v) _ _ _
  unfold Builtin.ObjectAttr.storeInDict Builtin.ObjectAttr.newKeyGuard nsSet
  refine wpAny_bind (wpAny_pure (wpAny_bind (wpAny_bind (wpAny_bind (wpAny_askSetting (wpAny_pure (wpAny_bind (wpAny_mkText (wpAny_bind (wpAny_loadPart hgd ?_))))))))))
  dsimp only
  rw [aRefKeyMayBeTheName_at]
  rw [if_neg (by simp)]
  generalize (if (Str.ofString "told").cps.isEmpty = true then (0 : Int) else reduceHash ((model prog w).w.params.strHash (Str.ofString "told").cps)) = hs
  have hf : Obj.putName "told" hs (.str "told" s.toks) v (dictOf [] 0) = dictOf [⟨hs, .str "told" s.toks, v⟩] 1 := by rw [putName_dict]; rfl
  refine wpAny_updatePart hgd ?_
  have hg2 := Heap.get?_update_self (Obj.putName "told" hs (.str "told" s.toks) v) hgd (by rw [hf]; rfl)
  rw [hf] at hg2
  refine wpAny_bind (wpAny_lookBehind hg2 (pastItsLine_dict (by rw [List.size_toArray, sizeLine_eq]; simp)) (wpAny_pure ?_))
  refine k _ s.heap.objs.size hs s.toks 1 _ ?_ hg2 (fun b o hb e => ?_) (none_at_size _)
  · exact (Heap.get?_update_ne _ _ _ _ hxs).trans hgx
  · exact (Heap.get?_update_ne _ _ _ _ (Nat.ne_of_lt (Heap.lt_size e))).trans ((Heap.get?_update_ne _ _ _ _ hb).trans (Heap.get?_push_of_some _ e))

theorem x_store {x t : Addr} {v : Value} {QQ : Unit → Shared → Prop} (hX : XCls K C fI) (XH : K.In s.heap) (hx : s.heap.get? x = some (exc0 C t none))
    (k : ∀ h' d hs tk n tk', h'.get? x = some (exc0 C t (some d)) → h'.get? d = some (dictOf [⟨hs, .str "told" tk, v⟩] n) → (∀ b o, b ≠ x → s.heap.get? b = some o → h'.get? b = some o) → s.heap.get? d = none → QQ () { s with heap := h', toks := tk' }) :
    wpAny (model prog w) A (setAttr (.ref x) "told" v) QQ E s := by
  have I : InstAt s.heap x (exc0 C t none) C none := ⟨hx, rfl, rfl, trivial⟩
  exact set_plain XH I hX.sa (x_osa (s := { s with toks := s.toks + 1 }) hX XH hx fun h' d hs tk n tk' a b c e => k h' d hs tk n tk' a b c e)
end
end Mine
end
section
set_option Elab.async false
set_option linter.all false
set_option maxRecDepth 100000
set_option genSizeOf false
set_option genInjectivity false
namespace Mine
open PySem PySem.W PySem.Calls PyProof.Rows

/-- the text of __init__: self.told = told -/
structure XInit (G : Gl) (fI : Addr) : Prop where
  ex : ∃ (oc : Value) (od : Option Addr) (osl : Array (Option Value)) (name qual : Str) (params : Arguments) (scope : Scope) (dV kV doc pm cdv ct : Value) (an : Option Addr) (p1 p2 p3 p4 : Pos),
    G.K.lookup fI = some ⟨oc, od, .func (fnOf name qual params [.Assign [.Attribute (.Name "self" p1) "told" p2] (.Name "told" p3) p4] scope dV kV doc pm an cdv ct), osl⟩ ∧ codeIn G.K cdv qual = true ∧
    (∀ (s : Shared) e v, G.K.In s.heap → BindsTo s (fnOf name qual params [.Assign [.Attribute (.Name "self" p1) "told" p2] (.Name "told" p3) p4] scope dV kV doc pm an cdv ct) ⟨[e, v], []⟩ [("self", e), ("told", v)]) ∧
    scope.names.lookup ("self" : Str) = some .local ∧ scope.names.lookup ("told" : Str) = some .local ∧ scope.isCoroutine = false ∧ scope.isGenerator = false ∧ scope.kind = .function ∧ ∀ x ∈ scope.names, x.2 ≠ .cell

section
variable {G : Gl} {F : Fx} {C : Cx} {W : Wd} {ρ : Loc} {σ : MH} {s : Shared} {X : MX → MH → Prop}

theorem x_init {cx fI e t : Addr} {v : Value} {m : Str → Option Value} {led : List (Addr × Obj)} {R : Result → Shared → Prop} (hX : XCls G.K cx fI) (hI : XInit G fI) (ok : COk G F C) (hF : Fr C.h₀ C.L s.heap m) (hN : News C.h₀ C.L s.heap ((e, exc0 cx t none) :: led)) (hne : ∀ p ∈ led, p.1 ≠ e)
    (hroom : C.dp < recursionLimit)
    (k : ∀ h' dx hs tk n tk', Fr C.h₀ C.L h' m → News C.h₀ C.L h' ((e, exc0 cx t (some dx)) :: (dx, dictOf [⟨hs, .str "told" tk, v⟩] n) :: led) → (∀ p ∈ led, p.1 ≠ dx) → dx ≠ e → InitBack e R (.ok (.ret .none)) { s with heap := h', toks := tk' }) :
    codeAny G.M (C.A F) (.call (.ref fI) ⟨[.ref e, v], []⟩) (InitBack e R) s := by
  obtain ⟨oc, od, osl, name, qual, params, scope, dV, kV, doc, pm, cdv, ct, an, p1, p2, p3, p4, ho, hcd, hbind, hl1, hl2, hco, hgen, hk, hcell⟩ := hI.ex
  refine code_def (A := C.A F) (env := C.env F) ok.below hF ok.inK hN ok.top rfl rfl ok.kind ho hcd hroom (hbind s (.ref e) v (ok.inK.keeps hF.keep)) (fun y hy => ?_) (fun g L' h₁ FG F' N' B' X' T' => ?_) hco hgen hk hcell
  · rcases List.mem_cons.mp hy with rfl | hy
    · exact hl1
    · rw [List.mem_singleton.mp hy]; exact hl2
  have he := (N' _ (.head _)).1
  have heL := (N' _ (.head _)).2.1
  have heg := (N' _ (.head _)).2.2
  refine wpAny_execs_cons (plainObj_wpAny_Assign_Attribute ?_ rfl)
  refine nameX_L F' (v := v) rfl ?_ hk hl2 rfl
  refine nameX_L F' (v := .ref e) rfl ?_ hk hl1 rfl
  refine x_store (s := { s with heap := h₁, toks := _ }) hX (X'.keeps F'.keep) he fun h₂ dx hs tk n tk' a1 a2 a3 a4 => ?_
  refine wpAny_execs_nil ?_
  have hdL : dx ≠ L' := fun z => by
    obtain ⟨oL, _, _, hoL, _⟩ := F'.ns
    rw [z] at a4
    dsimp only at a4
    rw [hoL] at a4; cases a4
  have hdg : g.get? dx = none := by
    cases q : g.get? dx with
    | none => rfl
    | some o => have := F'.keep _ _ q; dsimp only at a4; rw [this] at a4; cases a4
  have hde : dx ≠ e := fun z => by subst z; dsimp only at a4; rw [he] at a4; cases a4
  have F2 : Fr g L' h₂ _ := ⟨F'.ns.at' fun o q => a3 _ o (Ne.symm heL) q, fun b o q => a3 b o (fun z => by rw [z, heg] at q; cases q) (F'.keep b o q), F'.above⟩
  have hd2 : ∀ p ∈ led, p.1 ≠ dx := fun p hp z => by
    have := (N' p (.tail _ hp)).1
    dsimp only at a4
    rw [z, a4] at this; cases this
  have N2 : News g L' h₂ ((e, exc0 cx t (some dx)) :: (dx, dictOf [⟨hs, .str "told" tk, v⟩] n) :: led) := fun p hp => by
    rcases List.mem_cons.mp hp with rfl | hp
    · exact ⟨a1, heL, heg⟩
    · rcases List.mem_cons.mp hp with rfl | hp
      · exact ⟨a2, hdL, hdg⟩
      · exact ⟨a3 _ _ (hne p hp) (N' p (.tail _ hp)).1, (N' p (.tail _ hp)).2⟩
  exact leaveK_ F2 N2 fun Fc Nc => k h₂ dx hs tk n tk' Fc Nc hd2 hde

theorem raise_obj {env : Env} {cx : Addr} {fI : Addr} {K : Frag} {M : Model} {A : Around} {E : Value → Shared → Prop} {x : Sem Value} {Q : Flow → Shared → Prop} (hX : XCls K cx fI) (hh : A.handled = none)
    (h : wpAny M A x (fun v s₁ => ∃ e t dx, v = .ref e ∧ K.In s₁.heap ∧ s₁.heap.get? e = some (exc0 cx t (some dx)) ∧ E (.ref e) s₁) E s) : wpAny M A (raiseStmt env (some x) none) Q E s := by
  obtain ⟨nm, q, NC, bs, bm, sn, sub, ab, col, dd, k0, k1, k2, k3, k5, hK, hb, hbb, ha, hn, hobj, hpass⟩ := hX.obj
  have hcB : (Value.ref cx :: bm).contains (.type "BaseException") = true := by rw [List.contains_cons, hbb, Bool.or_true]
  unfold raiseStmt
  refine wpAny_bind (wpAny_mono h (fun v s₁ h₁ => ?_) fun _ _ x => x)
  obtain ⟨e, t, dx, rfl, XK, he, hE⟩ := h₁
  have hC := XK _ _ hK
  obtain ⟨hp, g, d, tk, os⟩ := s₁
  dsimp only at hC he
  repeat (first | with_reducible refine wpAny_loadPart_at he ?_ | with_reducible refine wpAny_loadPart_at hC ?_ | (with_reducible refine wpAny_isSubtype_exc hC ?_; rw [hcB]) | wp_step)
  exact wpAny_raiseNew_none hh hE

theorem hx_raise {id : Str} {np cpos pos : Pos} {arg : Expr} {cx fI : Addr} {Q : MFlow → Loc → MH → Prop} (hn : PV G F ρ σ (.Name id np) (.raw (.ref cx))) (hX : XCls G.K cx fI) (hI : XInit G fI) (hk : keepsG G.K (.ref cx) = true)
    (h : HE G F ρ σ arg (fun v σ1 => X ⟨cx, v⟩ σ1) X) (ha : notStar arg = true) (ht : F.tr = false) (hd : F.hd = false) (hr : 3 ≤ F.n) : HX G F ρ σ (.Raise (some (.Call (.Name id np) [arg] [] cpos)) none pos) Q X := by
  intro C W s QQ EE st eo p px
  rw [arm_exec_Raise]
  refine wpAny_bind (wpAny_standAt (raise_obj (K := G.K) hX (st.ok.hd hd) (wpAny_bind (wpAny_mono (Q := fun v s₁ => ∃ e t dx, v = .ref e ∧ G.K.In s₁.heap ∧ s₁.heap.get? e = some (exc0 cx t (some dx)) ∧ EE (.ref e) s₁) ?_ (fun v s₃ h₃ => wpAny_bind (wpAny_standAt (wpAny_pure h₃))) fun _ _ x => x))))
  refine wpAny_Call_Name_kw (he_use (hn (fun v σ' => v = .raw (.ref cx) ∧ σ' = σ) X ⟨rfl, rfl⟩) st eo px fun W1 x σ1 v s1 h1 h2 q r1 st1 px1 => ?_)
  obtain ⟨rfl, rfl⟩ := q
  cases r1
  refine callWith_any (fv := []) (Qa := fun as σ2 => ∃ v, as = [v] ∧ X ⟨cx, v⟩ σ2) hk (by simp [ha]) (ha_cons (HT.weaken h (fun v σ2 q2 => ha_nil ⟨v, rfl, q2⟩) fun _ _ z => z) ha) st1 eo px1 fun W2 as σ2 av s2 k1 k2 k3 k4 st2 => ?_
  obtain ⟨mv, rfl, hx⟩ := k3
  obtain ⟨m, led, hF, hN, hl, hm⟩ := st2.ex
  cases k4 with
  | @cons _ vv _ _ a b =>
    cases b
    refine x_call hX hF hN st2.ok.inK (by simp [sizeLine_eq]) fun e t h' F' N' hlt => ?_
    show codeAny _ ((C.A F).under (.builtin "type.__call__" ⟨.ref cx :: [vv], []⟩)) _ _ _
    rw [down_A _ (tc_e _ _) 3]
    have ok' := st2.ok.down (.builtin "type.__call__" ⟨.ref cx :: [vv], []⟩) hr (by rw [tc_w]; lia) (by rw [tc_u]; lia)
    refine x_init (s := { s2 with heap := h' }) hX hI ok' F' N' (fun p hp => Nat.ne_of_lt (hlt p hp)) (by have := ok'.room; lia) fun h₂ dx hs tk n tk' F2 N2 hd2 hde => ?_
    refine ⟨rfl, ?_⟩
    have XH : G.K.In h₂ := st2.ok.inK.keeps F2.keep
    have he := (N2 _ (.head _)).1
    refine ⟨e, t, dx, rfl, XH, he, ?_⟩
    have hdn : dx ∉ W2.as ++ (W2.im.map (·.1) ++ W2.hid.map (·.1)) := fun z => by
      obtain ⟨o, ho⟩ := mem_addr hm z
      exact hd2 _ ho rfl
    have hm2 := mem_keep (ob := dictOf [⟨hs, .str "told" tk, vv⟩] n) hm hdn
    refine px (W2.keep (dx, dictOf [⟨hs, .str "told" tk, vv⟩] n)) ⟨cx, mv⟩ σ2 _ _ ((h1.trans k1).trans (Wd.keep_le _ _)) ((h2.trans k2).trans (Same.of s2 h₂ tk')) hx ⟨st.ok, .inl ⟨ht, e, dx, _, _, .ref t, m, _, rfl, F2, (fun p hp => N2 p (.tail _ hp)), hm2, ⟨hs, tk, vv, n, .head _, a.mono (Wd.keep_le _ _)⟩, he, rfl, rfl, (N2 _ (.head _)).2.2, (N2 _ (.head _)).2.1, ?_⟩⟩
    intro z
    rw [List.map_cons] at z
    rcases List.mem_cons.mp z with z | z
    · exact hde z.symm
    · obtain ⟨p, hp, e'⟩ := List.mem_map.mp z
      exact Nat.ne_of_lt (hlt p hp) e'
end
end Mine
end
section
set_option Elab.async false
set_option linter.all false
set_option maxRecDepth 100000
set_option genSizeOf false
set_option genInjectivity false
namespace Mine
open PySem PySem.W PySem.Calls PyProof.Rows

/-- a call from the outermost written frame, nothing raised -/
noncomputable def HCt (G : Gl) (n : Nat) (f : Value) (vs : List MV) (σ : MH) (Q : MV → MH → Prop) : Prop :=
  ∀ F C W ρ s av QQ EE, n ≤ F.n → F.hd = false → F.top = true → St G F C W ρ σ s → VReps W vs av → Post G F C W s VRep ρ Q QQ → wpAny G.M (C.A F) (call f av) QQ EE s

noncomputable def locX (pre : List Str) (n : Str) (mv : MV) (post : List Str) : Loc := pre.map (fun x => (x, none)) ++ (n, some mv) :: post.map fun x => (x, none)
theorem locX_names (pre n mv post) : (locX pre n mv post).map (·.1) = pre ++ n :: post := by simp [locX, Function.comp_def]

inductive LDel (x : Str) : Loc → Loc → Prop
  | here {u r} : LDel x ((x, u) :: r) ((x, none) :: r)
  | there {p r r'} : LDel x r r' → LDel x (p :: r) (p :: r')
theorem LDel.keys {x} {ρ ρ' : Loc} (q : LDel x ρ ρ') : ρ'.map (·.1) = ρ.map (·.1) := by
  induction q with
  | here => rfl
  | there _ ih => simp [ih]
theorem LDel.mem {x} {ρ ρ' : Loc} (q : LDel x ρ ρ') : x ∈ ρ.map (·.1) := by
  induction q with
  | here => exact .head _
  | there _ ih => exact .tail _ ih
theorem LDel.old {x} {ρ ρ' : Loc} (q : LDel x ρ ρ') : (ρ.map (·.1)).Nodup → ∀ {y mv}, (y, some mv) ∈ ρ' → y ≠ x ∧ (y, some mv) ∈ ρ := by
  induction q with
  | here =>
    intro nd y mv h
    rw [List.map_cons, List.nodup_cons] at nd
    rcases List.mem_cons.mp h with e | h
    · cases e
    · exact ⟨fun z => nd.1 (z ▸ List.mem_map_of_mem (f := (·.1)) h), .tail _ h⟩
  | there hh ih =>
    intro nd y mv h
    rw [List.map_cons, List.nodup_cons] at nd
    rcases List.mem_cons.mp h with e | h
    · subst e
      exact ⟨fun z => by subst z; exact nd.1 hh.mem, .head _⟩
    · have q := ih nd.2 h
      exact ⟨q.1, .tail _ q.2⟩

section
variable {G : Gl} {F F' : Fx} {C : Cx} {W : Wd} {ρ : Loc} {σ : MH} {s : Shared}

theorem COk.re (ok : COk G F C) (h1 : F'.scope = F.scope) (h2 : F'.n ≤ F.n) (h3 : F'.hd = false → C.hdv = none) (h4 : F'.top = false) : COk G F' C :=
  ⟨h1 ▸ ok.kind, ok.below, ok.inK, ok.top, by have := ok.room; lia, by have := ok.units; lia, h3, fun h => by rw [h4] at h; cases h⟩
theorem LRep.re {m} (l : LRep W F ρ m) (h1 : F'.scope = F.scope) (h5 : F'.cl = F.cl) (h6 : F'.cells = F.cells) : LRep W F' ρ m := ⟨l.nd, by rw [h1]; exact l.kind, l.val, by rw [h5, h6]; exact l.cells⟩
theorem St.re (st : St G F C W ρ σ s) (h1 : F'.scope = F.scope) (h2 : F'.n ≤ F.n) (h3 : F'.hd = false → C.hdv = none) (h4 : F'.top = false) (h5 : F'.cl = F.cl) (h6 : F'.cells = F.cells) : St G F' C W ρ σ s :=
  let ⟨m, led, hF, hN, hl, hm⟩ := st.ex; ⟨st.ok.re h1 h2 h3 h4, m, led, hF, hN, hl.re h1 h5 h6, hm⟩

/-- the frame's ground once more: the base, and the caller's locals as they stand -/
theorem reground {base g : Heap} {L : Addr} {oL : Obj} (hb : base.StaysIn g) (hL : g.get? L = some oL) (hLb : base.get? L = none) (sl : Array (Option Value)) (hfr : ({ oL with slots := sl } : Obj).isFreed = false) :
    ∃ g2 : Heap, g2.objs.size = g.objs.size ∧ base.StaysIn g2 ∧ g2.get? L = some { oL with slots := sl } ∧ ∀ b o, g2.get? b = some o → base.get? b = some o ∨ b = L := by
  let as := (List.range g.objs.size).filter fun b => decide ((base.get? b).isNone = true ∧ b ≠ L)
  let g1 := hideAll g as
  have h1 : ∀ b, b ∈ as ↔ b < g.objs.size ∧ base.get? b = none ∧ b ≠ L := fun b => by simp [as, List.mem_filter]
  have hL1 : g1.get? L = some oL := hideAll_get _ hL fun z => ((h1 L).mp z).2.2 rfl
  refine ⟨g1.update L fun o => { o with slots := sl }, ?_, fun b o e => ?_, ?_, fun b o e => ?_⟩
  · have : (g1.update L fun o => { o with slots := sl }).objs.size = g1.objs.size := (Heap.SameBut.update g1 L _).1
    rw [this]; exact hideAll_size _ _
  · have hne : L ≠ b := fun z => by rw [← z, hLb] at e; cases e
    exact (Heap.get?_update_other _ _ hne).trans (hideAll_get _ (hb b o e) fun z => by rw [((h1 b).mp z).2.1] at e; cases e)
  · exact Heap.get?_update_self _ hL1 hfr
  · by_cases hbL : b = L
    · exact .inr hbL
    · left
      have e1 : g1.get? b = some o := by rw [← e]; exact (Heap.get?_update_other _ _ (Ne.symm hbL)).symm
      have e2 : g.get? b = some o := of_hideAll _ e1
      cases q : base.get? b with
      | some o' => have := hb b o' q; rw [e2] at this; cases this; rfl
      | none =>
        have : b ∈ as := (h1 b).mpr ⟨Heap.lt_size e2, q, hbL⟩
        rw [hideAll_none _ this] at e1; cases e1

theorem not_freed {h : Heap} {b : Addr} {o : Obj} (e : h.get? b = some o) : o.isFreed = false := (Heap.get?_some_iff.mp e).2
theorem not_freed_slots {o : Obj} (e : o.isFreed = false) (sl) : ({ o with slots := sl } : Obj).isFreed = false := by
  obtain ⟨c, d, dt, s0⟩ := o
  cases dt <;> first | rfl | exact e


theorem hct_try {f : Addr} {name qual : Str} {params : Arguments} {scope : Scope} {dV kV doc pm cdv ct oc : Value} {an od : Option Addr} {osl : Array (Option Value)} {k : Nat} {vs : List MV} {Q : MV → MH → Prop} {binds : List (Str × MV)} {others pre post : List Str}
    {s0 b0 r0 : Stmt} {tb suite : List Stmt} {cid n : Str} {np hpos tpos : Pos} {cx fI : Addr}
    (ho : G.K.lookup f = some ⟨oc, od, .func (fnOf name qual params [s0, .Try tb [.ExceptHandler (some (.Name cid np)) (some n) (b0 :: suite) hpos] [] [] tpos, r0] scope dV kV doc pm an cdv ct), osl⟩) (hcd : codeIn G.K cdv qual = true)
    (hb : ∀ (W : Wd) (s : Shared) av, G.K.In s.heap → VReps W vs av → ∃ bv, BindsTo s (fnOf name qual params [s0, .Try tb [.ExceptHandler (some (.Name cid np)) (some n) (b0 :: suite) hpos] [] [] tpos, r0] scope dV kV doc pm an cdv ct) ⟨av, []⟩ bv ∧ BReps W binds bv)
    (hnd : ((loc0 binds others).map (·.1)).Nodup) (hloc : ∀ p ∈ loc0 binds others, scope.names.lookup p.1 = some .local ∧ (p.1 == ("__debug__" : Str)) = false)
    (hco : scope.isCoroutine = false) (hgen : scope.isGenerator = false) (hk : scope.kind = .function) (hcell : ∀ x ∈ scope.names, x.2 ≠ .cell) (hnames : (loc0 binds others).map (·.1) = pre ++ n :: post)
    (hX : XCls G.K cx fI) (hcid : nsIn G.K mainGlobals cid = some (some (.ref cx))) (hcl : scope.names.lookup cid = some .globalImplicit) (hcdb : (cid == ("__debug__" : Str)) = false)
    (h : HX G ⟨qual, scope, k, false, false, false, [], []⟩ (loc0 binds others) σ s0 (fun fl ρ1 σ1 => fl = .next ∧ HS G ⟨qual, scope, k, true, false, false, [], []⟩ ρ1 σ1 tb
      (fun fl ρ2 σ2 => fl = .next ∧ HS G ⟨qual, scope, k, false, false, false, [], []⟩ ρ2 σ2 [r0] (fun fl _ σ3 => ∃ v, fl = .ret v ∧ Q v σ3) (fun _ _ => False))
      (fun x σ2 => x.C = cx ∧ HS G ⟨qual, scope, k, true, true, false, [], []⟩ (locX pre n (.exc x.C x.told) post) σ2 (b0 :: suite)
        (fun fl ρ3 σ3 => fl = .next ∧ ∃ ρ4, LDel n ρ3 ρ4 ∧ HS G ⟨qual, scope, k, false, false, false, [], []⟩ ρ4 σ3 [r0] (fun fl _ σ4 => ∃ v, fl = .ret v ∧ Q v σ4) (fun _ _ => False)) (fun _ _ => False))) (fun _ _ => False)) :
    HCt G (k + 1) (.ref f) vs σ Q := by
  intro F C W ρ s av QQ EE hn hd htop st hav p
  obtain ⟨m, led, hF, hN, hl, hm⟩ := st.ex
  obtain ⟨houter, hbase⟩ := st.ok.top0 htop
  obtain ⟨bv, hbind, hbr⟩ := hb W s av (st.ok.inK.keeps hF.keep) hav
  have hnm := hbr.names
  have hbl : ∀ y ∈ bv, scope.names.lookup y.1 = some .local := fun y hy => by
    have : y.1 ∈ bv.map (·.1) := List.mem_map_of_mem hy
    rw [hnm] at this
    obtain ⟨q, hq, e⟩ := List.mem_map.mp this
    have := (hloc (q.1, some q.2) (List.mem_append_left _ (List.mem_map_of_mem (f := fun p => (p.1, some p.2)) hq))).1
    rw [← e]; exact this
  obtain ⟨FG, BG, stg, lv⟩ := groundX (R := retTo QQ EE) st.ok.below hF hN (show (C.A F).frames = some (C.env F :: C.outer) from rfl) rfl st.ok.kind
  have XH := st.ok.inK.keeps hF.keep
  refine wpAny_call (codeAny_call_def (fd := fnOf name qual params _ scope dV kV doc pm an cdv ct) (binds := bv) (by have := st.ok.room; show C.dp < _; lia) (XH _ _ ho) rfl (Top.nolimit st.ok.top |>.keeps hF.keep) (codeRec_of XH hcd) rfl hbind hcell hbl (fun h₁ hns hk₁ => ?_) hco hgen hk)
  let g := hideAll s.heap (led.map (·.1))
  let L' : Addr := s.heap.objs.size
  let C' : Cx := { dp := C.dp + 1, un := C.un + 3, gd := C.gd, hdv := C.hdv, L := L', a := f, cd := cdv, outer := C.env F :: C.outer, A₀ := C.A F, base := C.base, h₀ := g }
  let F1 : Fx := ⟨qual, scope, k, false, false, false, [], []⟩
  let F2 : Fx := ⟨qual, scope, k, true, false, false, [], []⟩
  let F3 : Fx := ⟨qual, scope, k, true, true, false, [], []⟩
  have hhd := st.ok.hd hd
  have hndb : (bv.map (·.1)).Nodup := by
    rw [hnm]
    have := hnd
    unfold loc0 at this
    rw [List.map_append, List.map_map] at this
    exact (List.nodup_append.mp this).1
  have ok1 : COk G F1 C' := ⟨hk, BG, st.ok.inK.keeps stg, st.ok.top.keeps stg, by have := st.ok.room; show C.dp + 1 + k < _; lia, by have := st.ok.units; show C.un + 3 + 8 * k + 8 < _; lia, fun _ => hhd, fun h => by cases h⟩
  have hl1 : LRep W F1 (loc0 binds others) (fun y => bv.reverse.lookup y) := by
    refine ⟨hnd, hloc, fun x mv hx => ?_, fun _ h => absurd h List.not_mem_nil⟩
    rcases List.mem_append.mp hx with hx | hx
    · obtain ⟨q, hq, e⟩ := List.mem_map.mp hx
      cases e
      obtain ⟨v, h1, h2⟩ := hbr.get hq
      refine ⟨v, lookup_of_nodup ?_ (List.mem_reverse.mpr h1), h2⟩
      rw [List.map_reverse]
      exact List.pairwise_reverse.mpr (List.Pairwise.imp (fun h => Ne.symm h) hndb)
    · obtain ⟨q, hq, e⟩ := List.mem_map.mp hx
      cases e
  have F' : Fr g L' h₁ (fun y => bv.reverse.lookup y) := ⟨hns, fun b o e => hk₁ b o (of_hideAll _ e), Nat.le_of_eq (hideAll_size _ _)⟩
  have N' : News g L' h₁ led := fun q hq => ⟨hk₁ _ _ (hN q hq).1, Nat.ne_of_lt (Heap.lt_size (hN q hq).1), hideAll_none _ (List.mem_map_of_mem hq)⟩
  have st1 : St G F1 C' W (loc0 binds others) σ { s with heap := h₁, toks := s.toks + bv.length } := ⟨ok1, _, led, F', N', hl1, hm⟩
  -- the end at the exact ground
  suffices key : ∀ (Q1 : Flow → Shared → Prop) (E1 : Value → Shared → Prop), (∀ v s', retTo QQ EE (.ok (.ret v)) s' → Q1 (.ret v) s') → PassesOwn G.M (C'.A F1) (C'.env F1) E1 →
      wpAny G.M (C'.A F1) (execs [s0, .Try tb [.ExceptHandler (some (.Name cid np)) (some n) (b0 :: suite) hpos] [] [] tpos, r0] (C'.env F1)) Q1 E1 { s with heap := h₁, toks := s.toks + bv.length } from key _ _ (fun _ _ z => z) PassesOwn.leaving
  intro Q1 E1 hQ1 hE1
  have fin : ∀ (W2 : Wd) (ρ2 : Loc) (σ2 : MH) (s2 : Shared), W.le W2 → Same s s2 → St G F1 C' W2 ρ2 σ2 s2 → HS G F1 ρ2 σ2 [r0] (fun fl _ σ3 => ∃ v, fl = .ret v ∧ Q v σ3) (fun _ _ => False) →
      ∀ EX, EOk G F1 C' EX → wpAny G.M (C'.A F1) (execs [r0] (C'.env F1)) Q1 EX s2 := fun W2 ρ2 σ2 s2 hw hsm st2 hr EX eo => by
    refine hr C' W2 s2 _ EX st2 eo (fun W3 fl ρ3 σ3 fv s3 a1 a2 a3 a4 a5 => ?_) fun _ _ _ _ _ _ _ z _ => z.elim
    obtain ⟨v, rfl, q⟩ := a3
    cases a4 with
    | ret hv =>
      obtain ⟨m3, led3, hF3, hN3, hl3, hm3⟩ := a5.ex
      exact hQ1 _ _ (lv _ _ (leaveK_ hF3 hN3 fun Fc Nc => p W3 v σ3 _ s3 (hw.trans a1) (hsm.trans a2) q hv ⟨st.ok, m, led3, Fc, Nc, hl.mono (hw.trans a1), hm3⟩))
  refine wpAny_execs_cons (h C' W _ _ _ st1 (fun _ => hE1) (fun W1 fl ρ1 σ1 fv s1 a1 a2 a3 a4 a5 => ?_) fun _ _ _ _ _ _ _ z _ => z.elim)
  obtain ⟨rfl, hbody⟩ := a3
  cases a4
  have hsm1 : Same s s1 := (Same.of s h₁ _).trans a2
  have st2 : St G F2 C' W1 ρ1 σ1 s1 := a5.re rfl (Nat.le_refl _) (fun _ => hhd) rfl rfl rfl
  refine wpAny_execs_cons (wpAny_Try_except (hbody C' W1 s1 _ _ st2 (fun h => by cases h) (fun W2 fl ρ2 σ2 fv s2 c1 c2 c3 c4 c5 => ?_) fun W2 x σ2 e s2 c1 c2 c3 c4 => ?_))
  · obtain ⟨rfl, hret⟩ := c3
    cases c4
    exact wpAny_execs_nil (fin W2 ρ2 σ2 s2 (a1.trans c1) (hsm1.trans c2) (c5.re rfl (Nat.le_refl _) (fun _ => hhd) rfl rfl rfl) hret _ fun _ => hE1)
  · obtain ⟨hxc, hsuite⟩ := c3
    obtain ⟨ok2, hfx⟩ := c4
    obtain ⟨ea, dx, g₂, m2, led2, B, rfl, hF2, hup, hB, hled, hm2, hxin, ⟨a0, hfl⟩, oe0, ee1, ee2⟩ := hfx.resolve_left (fun z => by cases z.1)
    refine gently (gentle_note _ _) (wpAny_looks_onW (A := C'.A F2) (env := C'.env F2) (outer := C'.outer) rfl rfl hfl fun h₄ hheld₄ hsm₄ dk4 => ?_)
    refine gently (gentle_flight _ _) (wpAny_landsW hheld₄ fun h₅ hfl₅ hsm₅ dk5 => ?_)
    -- the frames' objects
    suffices key2 : ∀ QH : Flow → Shared → Prop, (∀ s', wpAny G.M (C'.A F1) (execs [r0] (C'.env F1)) Q1 E1 s' → QH .next s') →
        wpAny G.M (C'.A F1) (handleBy (.ref ea) (C'.env F1) [.ExceptHandler (some (.Name cid np)) (some n) (b0 :: suite) hpos]) QH E1 { s2 with heap := h₅ } from key2 _ fun _ z => z
    intro QH hQH
    have hbs : C.base.StaysIn B := hB
    obtain ⟨oL, es, ep, hLs, hLd, hLk, hLf⟩ := hF.ns
    have nL : C.L ∉ led.map (·.1) := fun q => by
      obtain ⟨z, hz, e⟩ := List.mem_map.mp q
      exact (hN z hz).2.1 e
    have hLg : g.get? C.L = some oL := hideAll_get _ hLs nL
    have hLb : C.base.get? C.L = none := by
      cases q : C.base.get? C.L with
      | none => rfl
      | some o => have h1 := Heap.lt_size q; rw [hbase] at h1; exact absurd (Nat.lt_of_lt_of_le h1 hF.above) (Nat.lt_irrefl _)
    have up5 : g₂.UpToSlots h₅ := hup.trans (hsm₄.trans hsm₅)
    have hL2 := hF2.keep _ _ hLg
    have habove : C.base.objs.size ≤ L' := by rw [hbase]; exact Nat.le_trans hF.above (Nat.le_of_lt hF.ns.lt)
    have F5 : Fr C.base L' h₅ m2 := ⟨up5.ns hF2.ns, fun b o e => hfl₅.1 b o (hbs b o e), habove⟩
    have XB : G.K.In C.base := hbase ▸ st.ok.inK
    have TB : Top G.p G.loose G.mean G.mg G.mb C.base := hbase ▸ st.ok.top
    obtain ⟨ob, hob, hobc⟩ := hfl₅.there
    obtain ⟨nm, qn, NC, bs, bm, sn, sub, ab, col, dd, k0, k1, k2, k3, k5, hK, hxb, hbb, -, -, -, -⟩ := hX.obj
    refine wpAny_handleBy_cons (codeAny_handlers_test (nameX_K (h₀ := C.base) F5 XB (topRead_of TB) hcid ?_ hk hcl hcdb)) (by intro q; cases q)
    refine wpAny_excMatches_sub_self (XB.keeps F5.keep _ _ hK) hob (hobc.trans (by rw [hxc])) hbb (codeAny_handlers_suite_as ?_)
    refine gently (gentle_flight _ _) (lands_againW hfl₅ fun h₆ hfl₆ hsm₆ dk6 => ?_)
    have up6 : g₂.UpToSlots h₆ := up5.trans hsm₆
    obtain ⟨sl, hL6⟩ := up6 _ _ hL2 (fun vs q => by rw [hLd] at q; cases q)
    obtain ⟨g2, hg2s, hg2b, hg2L, hg2o⟩ := reground (g := g) (fun b o e => stg b o (hbase ▸ e)) hLg hLb sl (not_freed hL6)
    obtain ⟨hfk1, ⟨Lf, of, hf1, hBf, hf6, hfd⟩, hfk2, ⟨Lg, og, hf2, hBg, hg6, hgd⟩, -⟩ := hfl₆.2.2.1
    obtain rfl : L' = Lf := Option.some.inj hf1
    obtain rfl : C.L = Lg := Option.some.inj hf2
    have BB : Below (C.A F) C.base (C.env F :: C.outer) g2 := ⟨BG.stack, hg2b, by
      rw [houter]
      exact ⟨fun z => (by have := st.ok.kind; rw [z] at this; cases this), ⟨C.L, _, rfl, hLb, hg2L, fun vs q => (by have q' : oL.data = .fields vs := q; rw [hLd] at q'; cases q')⟩, trivial⟩⟩
    let C4 : Cx := { C' with h₀ := g2 }
    let C3 : Cx := { C4 with hdv := some (.ref ea) }
    have okB : ∀ (Fz : Fx) (hv : Option Value), Fz.scope = scope → Fz.n = k → (Fz.hd = false → hv = none) → Fz.top = false → COk G Fz { C4 with hdv := hv } := fun Fz hv e1 e2 e3 e4 =>
      ⟨e1 ▸ hk, BB, XB.keeps hg2b, TB.keeps hg2b, by have := st.ok.room; rw [e2]; show C.dp + 1 + k < _; lia, by have := st.ok.units; rw [e2]; show C.un + 3 + 8 * k + 8 < _; lia, e3, fun z => by rw [e4] at z; cases z⟩
    have F6 : Fr g2 L' h₆ m2 := by
      refine ⟨up6.ns hF2.ns, fun b o e => ?_, by rw [hg2s]; exact hF2.above⟩
      rcases hg2o b o e with e | rfl
      · exact hfl₆.1 b o (hbs b o e)
      · rw [hg2L] at e; cases e; exact hL6
    obtain ⟨oe, ws, hoe, hoec, hoed, hoe0⟩ := hfl₆.first
    have hg2e : ∀ b, B.get? b = none → b ≠ C.L → g2.get? b = none := fun b e z => by
      cases q : g2.get? b with
      | none => rfl
      | some o => rcases hg2o b o q with q | q
                  · rw [hbs b o q] at e; cases e
                  · exact absurd q z
    have heL' : ea ≠ L' := fun z => (by rw [z, hf6] at hoe; cases hoe; exact hfd _ hoed)
    have heL : ea ≠ C.L := fun z => by rw [z, hg6] at hoe; cases hoe; exact hgd _ hoed
    have N6 : News g2 L' h₆ ((ea, oe) :: led2) := fun q hq => by
      rcases List.mem_cons.mp hq with rfl | hq
      · exact ⟨hoe, heL', hg2e _ hfl₆.2.1 heL⟩
      · have h1 := (hled q hq).1
        refine ⟨hfl₆.1 _ _ h1, fun z => (by rw [z, hBf] at h1; cases h1), ?_⟩
        cases q' : g2.get? q.1 with
        | none => rfl
        | some o => rcases hg2o _ o q' with e | e
                    · rw [(hled q hq).2] at e; cases e
                    · rw [e, hBg] at h1; cases h1
    have hea : ea ∉ W2.as ++ (W2.im.map (·.1) ++ W2.hid.map (·.1)) := fun z => by
      obtain ⟨o, hoo⟩ := mem_addr hm2 z
      have h1 := (hled _ hoo).1
      rw [hfl₆.2.1] at h1; cases h1
    obtain ⟨oe4, d1, d2⟩ := dk4 _ _ ee1
    obtain ⟨oe5, d3, d4⟩ := dk5 _ _ d1
    obtain ⟨oe6, d5, d6⟩ := dk6 _ _ d3
    have hdict : oe.dict = some dx := by rw [hoe] at d5; cases d5; exact d6.trans (d4.trans (d2.trans ee2))
    obtain ⟨oec, oed, oedt, oes⟩ := oe
    dsimp only at hoec hoed hdict
    subst hoec hoed hdict
    have hm3 := mem_keep (ob := ⟨.ref x.C, some dx, .fields ws, oes⟩) hm2 hea
    obtain ⟨ths, tt, tv, tn, hti, htv⟩ := hxin
    have hexc : VRep (W2.keep (ea, ⟨.ref x.C, some dx, .fields ws, oes⟩)) (.exc x.C x.told) (.ref ea) := .exc (.head _) (.tail _ hti) (htv.mono (Wd.keep_le _ _))
    have hnin : n ∈ (loc0 binds others).map (·.1) := by rw [hnames]; simp
    have hnl : scope.names.lookup n = some .local := by
      obtain ⟨q, hq, e⟩ := List.mem_map.mp hnin
      rw [← e]; exact (hloc q hq).1
    refine storeX_L F6 N6 (fun h₇ F7 N7 => ?_) hk hnl
    have st3 : St G F3 C3 (W2.keep (ea, ⟨.ref x.C, some dx, .fields ws, oes⟩)) (locX pre n (.exc x.C x.told) post) σ2 { s2 with heap := h₇, toks := s2.toks + 1 } := by
      refine ⟨okB F3 (some (.ref ea)) rfl rfl (fun z => by cases z) rfl, _, _, F7, N7, ⟨by rw [locX_names, ← hnames]; exact hnd, fun q hq => ?_, fun y mv hy => ?_, fun _ h => absurd h List.not_mem_nil⟩, hm3⟩
      · have : q.1 ∈ (loc0 binds others).map (·.1) := by rw [hnames, ← locX_names]; exact List.mem_map_of_mem hq
        obtain ⟨q', hq', e⟩ := List.mem_map.mp this
        rw [← e]; exact hloc q' hq'
      · unfold locX at hy
        rcases List.mem_append.mp hy with hy | hy
        · obtain ⟨z, _, e⟩ := List.mem_map.mp hy; cases e
        · rcases List.mem_cons.mp hy with e | hy
          · cases e; exact ⟨.ref ea, if_pos rfl, hexc⟩
          · obtain ⟨z, _, e⟩ := List.mem_map.mp hy; cases e
    refine hsuite C3 _ _ _ _ st3 (fun z => by cases z) (fun W4 fl ρ4 σ4 fv s4 b1 b2 b3 b4 b5 => ?_) fun _ _ _ _ _ _ _ z _ => z.elim
    obtain ⟨rfl, ρ5, hdel, hret⟩ := b3
    cases b4
    obtain ⟨m5, led5, hF5, hN5, hl5, hm5⟩ := b5.ex
    show wpAny G.M (C4.A F1) (do bindName (C4.env F1) n .none; unbindBehindTheSuite (C4.env F1) n hpos) _ _ s4
    refine wpAny_nameGoes_keeps hnl hF5.ns (by show (scope.kind == .class || (scope.kind == .module && L' != mainGlobals)) = false; rw [hk]; rfl) fun h₈ v8 hn8 hs8 => ?_
    have st8 : St G F1 C4 W4 ρ5 σ4 { s4 with heap := h₈, toks := s4.toks + 1 } := by
      refine ⟨okB F1 C.hdv rfl rfl (fun _ => hhd) rfl, _, led5, hF5.set hn8 hs8, hN5.set hs8, ⟨hdel.keys ▸ hl5.nd, fun q hq => ?_, fun y mv hy => ?_, fun _ h => absurd h List.not_mem_nil⟩, hm5⟩
      · have : q.1 ∈ ρ4.map (·.1) := hdel.keys ▸ List.mem_map_of_mem hq
        obtain ⟨q', hq', e⟩ := List.mem_map.mp this
        rw [← e]; exact hl5.kind q' hq'
      · have := hdel.old hl5.nd hy
        obtain ⟨v, e1, e2⟩ := hl5.val y mv this.2
        exact ⟨v, (if_neg this.1).trans e1, e2⟩
    have hle4 : W.le W4 := ((a1.trans c1).trans (Wd.keep_le _ _)).trans b1
    have hsm4 : Same s s4 := hsm1.trans (c2.trans ((Same.of s2 h₇ _).trans b2))
    refine hQH _ ?_
    refine hret C4 W4 _ _ _ st8 (fun _ => hE1) (fun W9 fl ρ9 σ9 fv s9 e1 e2 e3 e4 e5 => ?_) fun _ _ _ _ _ _ _ z _ => z.elim
    obtain ⟨v, rfl, q⟩ := e3
    cases e4 with
    | ret hv =>
      obtain ⟨m9, led9, hF9, hN9, hl9, hm9⟩ := e5.ex
      have hl9L := hF9.keep _ _ hg2L
      refine hQ1 _ _ ?_
      refine p W9 v σ9 _ s9 (hle4.trans e1) (hsm4.trans ((Same.of s4 h₈ _).trans e2)) q hv ⟨st.ok, m, led9, ⟨⟨_, es, ep, hl9L, hLd, hLk, hLf⟩, fun b o e => hF9.keep b o (hg2b b o (hbase ▸ e)), hF.above⟩, fun z hz => ⟨(hN9 z hz).1, fun w => ?_, ?_⟩, hl.mono (hle4.trans e1), hm9⟩
      · have := (hN9 z hz).2.2
        rw [w, hg2L] at this; cases this
      · cases w : C.h₀.get? z.1 with
        | none => rfl
        | some o => have := (hN9 z hz).2.2; rw [hg2b _ o (hbase ▸ w)] at this; cases this
end
end Mine
end
section
set_option Elab.async false
set_option linter.all false
set_option maxRecDepth 100000
set_option genSizeOf false
set_option genInjectivity false
namespace Mine
open PySem PySem.W PySem.Calls PyProof.Rows

section
variable {G : Gl} {F : Fx} {ρ : Loc} {σ : MH} {X : MX → MH → Prop} {C : Cx} {W : Wd} {s s' : Shared}

theorem St.perm (st : St G F C W ρ σ s) {h : List (Addr × Obj)} (hp : h.Perm W.hid) : St G F C (W.hide h) ρ σ s := by
  obtain ⟨m, led, hF, hN, hl, hm⟩ := st.ex
  refine ⟨st.ok, m, led, hF, hN, hl.hide, mem_rehid (bad := []) hm ?_ (fun _ h => absurd h List.not_mem_nil) (fun _ h => absurd h List.not_mem_nil) (fun p hp _ => hp) fun p hp' => hm.hid p (hp.mem_iff.mp hp')⟩
  exact (((hp.map (·.1)).append_left _).append_left _).nodup_iff.mpr hm.nd

theorem St.rehid1 (st : St G F C W ρ σ s) {pre post : List (Addr × Obj)} {a : Addr} {ob ob' : Obj} (e : W.hid = pre ++ (a, ob) :: post) (hk : ∀ b o, b ≠ a → s.heap.get? b = some o → s'.heap.get? b = some o) (ho : s'.heap.get? a = some ob') :
    St G F C (W.hide (pre ++ (a, ob') :: post)) ρ σ s' := by
  have p1 : ([(a, ob)] ++ (pre ++ post)).Perm W.hid := by rw [e]; show ((a, ob) :: (pre ++ post)).Perm _; exact List.perm_middle.symm
  have st1 := St.rehid (s' := s') (o := [(a, ob)]) (hid := pre ++ post) (o' := [(a, ob')]) (st.perm p1) rfl (fun b o hb q => hk b o (by simpa using hb) q) (fun p hp => by rw [List.mem_singleton.mp hp]; exact ho) (List.Sublist.refl _)
  exact St.perm st1 (h := pre ++ (a, ob') :: post) List.perm_middle

theorem St.adopt (st : St G F C W ρ σ s) {a : Addr} {ob : Obj} {hid : List (Addr × Obj)} {o : MObj} (e : W.hid = (a, ob) :: hid) (hr : ORep G ((W.hide hid).grow a) o ob) : St G F C ((W.hide hid).grow a) ρ (upd σ W.as.length o) s := by
  obtain ⟨m, led, hF, hN, hl, hm⟩ := st.ex
  have hnd := hm.nd
  rw [show W.hid = [(a, ob)] ++ hid from e, List.map_append] at hnd
  have hbad := nd_bad (a := a) hnd (.head _)
  have hmem : (a, ob) ∈ led := hm.hid _ (by rw [e]; exact .head _)
  have hm2 : Mem G (W.hide hid) σ (but led a) := mem_rehid (bad := [a]) hm (nd_sub hnd (List.sublist_append_right _ _)) (fun b hb => by rw [List.mem_singleton.mp hb]; exact hbad.1) (fun b hb => by rw [List.mem_singleton.mp hb]; exact hbad.2.1)
    (fun p hp hn => mem_but hp (by simpa using hn)) fun p hp => mem_but (hm.hid p (by rw [e]; exact .tail _ hp)) fun z => hbad.2.2 (z ▸ List.mem_map_of_mem hp)
  have hdn : a ∉ (W.hide hid).as ++ ((W.hide hid).im.map (·.1) ++ (W.hide hid).hid.map (·.1)) := fun z => by
    rcases List.mem_append.mp z with z | z
    · exact hbad.1 z
    · rcases List.mem_append.mp z with z | z
      · exact hbad.2.1 z
      · exact hbad.2.2 z
  exact ⟨st.ok, m, (a, ob) :: but led a, hF, news_but hN hmem, hl.hide.mono (Wd.grow_le _ _), mem_grow' hm2 hdn hr⟩

/-- an element of a comprehension: its name stands for mv -/
noncomputable def HEl (G : Gl) (F : Fx) (ρ : Loc) (σ : MH) (scope : Scope) (x : Str) (mv : MV) (elt : Expr) (Q : MV → MH → Prop) : Prop :=
  ∀ C W s v cl CL oC mC (QQ EE : Value → Shared → Prop), closureFor scope (C.env F) = pure cl → St G F C W ρ σ s → (CL, oC) ∈ W.hid → LCg.NsObj oC mC → mC x = some v → VRep W mv v → Post G F C W s VRep ρ Q QQ →
    wpAny G.M (C.A F) (eval elt (compEnvC scope cl CL (C.env F))) QQ EE s

noncomputable def compI (G : Gl) (F : Fx) (ρ : Loc) (scope : Scope) (x : Str) (elt : Expr) (Fin : List MV → MH → Prop) (xs : List MV) (J : MH → Prop) (σ1 : MH) : Prop :=
  ∃ I : Nat → List MV → MH → Prop, I 0 [] σ1 ∧ (∀ i ys σ', I i ys σ' → J σ') ∧ (∀ i ys v σ', xs[i]? = some v → I i ys σ' → HEl G F ρ σ' scope x v elt (fun y σ2 => I (i + 1) (ys ++ [y]) σ2)) ∧ xs.length ≤ 65536 ∧ (∀ ys σ', I xs.length ys σ' → Fin ys σ')

inductive CompInv (G : Gl) (F : Fx) (C : Cx) (ρ : Loc) (W1 : Wd) (xs : List MV) (own : Nat → List (Addr × Obj) → Prop) (CL D : Addr) (I : Nat → List MV → MH → Prop) (s : Shared) (n : Nat) (s' : Shared) : Prop
  | mk (W' : Wd) (σ' : MH) (i : Nat) (ys : List MV) (vs : List Value) (o' : List (Addr × Obj)) (oC : Obj) (m : Str → Option Value) (h1 : n = xs.length + 1 - i) (h2 : i ≤ xs.length) (h3 : ys.length = i) (h4 : W1.as <+: W'.as) (h5 : ∀ p ∈ W1.im, p ∈ W'.im)
    (h6 : W'.hid = o' ++ ((CL, oC) :: (D, listOf vs.toArray vs.length) :: W1.hid)) (h7 : own i o') (h8 : VReps W' ys vs) (h9 : I i ys σ') (h10 : Same s s') (h11 : St G F C W' ρ σ' s') (h12 : s'.heap.Ns CL m) : CompInv G F C ρ W1 xs own CL D I s n s'
theorem comp_core {elt iter : Expr} {x : Str} {px : Pos} {scope : Scope} {pos : Pos} {cl : List (Str × Addr)} {EE : Value → Shared → Prop} {Fin : List MV → MH → Prop} {RR : Value → Addr → Result → Shared → Prop}
    (h : HI G F ρ σ iter (.Name x px) (compI G F ρ scope x elt Fin) X) (hclos : closureFor scope (C.env F) = pure cl) (hcell : ∀ y ∈ scope.names, y.2 ≠ .cell) (hkind : scope.kind = .function) (hx : scope.names.lookup x = some .local)
    (st : St G F C W ρ σ s) (eo : EOk G F C EE) (hh : C.hdv = none) (px' : PostX G F C W s X EE)
    (k : ∀ D CL oC W' ys vs σ' s' m, W.le (W'.hide W.hid) → W'.hid = (CL, oC) :: (D, listOf vs.toArray vs.length) :: W.hid → Same s s' → Fin ys σ' → VReps W' ys vs → ys.length ≤ 65536 → St G F C W' ρ σ' s' → s'.heap.Ns CL m → RR (.ref D) CL (.ok .next) s') :
    wpAny G.M (C.A F) (eval iter (C.env F)) (fun xv s₁ => wpAny G.M (C.A F) (pyIter xv) (fun it s₂ => wpAny G.M (C.A F) (newList []) (fun acc s₃ =>
      wpAny G.M (C.A F) (newFunctionEnv scope (C.env F).globals cl [] (C.env F).qual none .none (some (C.env F))) (fun cenv s₄ =>
        codeAny G.M (C.A F) (.compStart (.ListComp elt [⟨.Name x px, iter, [], 0⟩] scope pos) 0 it acc { cenv with scope := relabel scope (C.env F) }) (RR acc cenv.locals) s₄) EE s₃) EE s₂) EE s₁) EE s := by
  refine h C W s _ EE st eo hh (fun W1 xs J own σ1 it o s1 h1 h2 q hJ T ho st1 => ?_) px'
  obtain ⟨I, h0, hIJ, step, hlen, fin⟩ := q
  refine wpAny_newObj_type (wpAny_newFunctionEnv hcell (by intro y hy; simp at hy) (fun h₁ hns₁ hsb₁ => ?_) hkind)
  dsimp only at hns₁ hsb₁ ⊢
  generalize hH2 : s1.heap.push { cls := .type "list", dict := none, data := .seq ([] : List Value).toArray } = H2 at hns₁ hsb₁ ⊢
  have hC : H2.objs.size = s1.heap.objs.size + 1 := by rw [← hH2, Heap.size_push]
  have hDC : s1.heap.objs.size ≠ H2.objs.size := by rw [hC]; exact Nat.ne_of_lt (Nat.lt_succ_self _)
  have old : ∀ b o, s1.heap.get? b = some o → h₁.get? b = some o := fun b o e => hsb₁.extBut b o (by rw [hC]; exact Nat.ne_of_lt (Nat.lt_succ_of_lt (Heap.lt_size e))) (Heap.get?_push_of_some _ (hH2 ▸ Heap.get?_push_of_some _ e))
  have hacc : h₁.get? s1.heap.objs.size = some (listOf ([] : List Value).toArray 0) := hsb₁.extBut _ _ hDC (Heap.get?_push_of_some _ (hH2 ▸ Heap.get?_push_size _ rfl))
  obtain ⟨oC0, hoC0, -⟩ := LCg.ns_obj hns₁
  have fresh : ∀ a, s1.heap.objs.size ≤ a → s1.heap.get? a = none := fun a ha => by
    cases e : s1.heap.get? a with
    | none => rfl
    | some o' => exact absurd (Heap.lt_size e) (Nat.not_lt.mpr ha)
  generalize hCL : H2.objs.size = CL at *
  generalize hD : s1.heap.objs.size = D at *
  let s4 : Shared := { s1 with heap := h₁, toks := s1.toks + ([] : List (Str × Value)).length }
  have st4 : St G F C (W1.hide (o ++ ((CL, oC0) :: (D, listOf ([] : List Value).toArray 0) :: W1.hid))) ρ σ1 s4 := by
    have a := st1.hid (s' := s4) (o := [(CL, oC0), (D, listOf ([] : List Value).toArray 0)]) old (fun p hp => ?_) ?_
    · refine St.perm a (h := o ++ ((CL, oC0) :: (D, listOf ([] : List Value).toArray 0) :: W1.hid)) ?_
      show List.Perm _ ([(CL, oC0), (D, listOf ([] : List Value).toArray 0)] ++ (o ++ W1.hid))
      exact List.perm_append_comm_assoc o [(CL, oC0), (D, listOf ([] : List Value).toArray 0)] W1.hid
    · rcases List.mem_cons.mp hp with rfl | hp
      · exact ⟨hoC0, fresh _ (by show D ≤ CL; lia)⟩
      · rw [List.mem_singleton.mp hp]; exact ⟨hacc, fresh _ (Nat.le_refl _)⟩
    · show (CL :: D :: []).Nodup
      rw [List.nodup_cons]
      exact ⟨by simpa using Ne.symm hDC, by simp⟩
  have hns4 : s4.heap.Ns CL (fun y => ([] : List (Str × Value)).reverse.lookup y) := hns₁
  have loop : codeAny G.M (C.A F) (.compLoop (.ListComp elt [⟨.Name x px, iter, [], 0⟩] scope pos) 0 it (.ref D) (compEnvC scope cl CL (C.env F))) (RR (.ref D) CL) s4 := by
    refine codeAny_compLoop_list (CompInv G F C ρ W1 xs own CL D I s) ?_ (xs.length + 1)
      ⟨W1.hide (o ++ ((CL, oC0) :: (D, listOf ([] : List Value).toArray 0) :: W1.hid)), σ1, 0, [], [], o, oC0, _, rfl, Nat.zero_le _, rfl, List.prefix_refl _, fun _ z => z, rfl, ho, .nil, h0, h2.trans (Same.of s1 h₁ _), st4, hns4⟩
    rintro n s2 ⟨W2, σ2, i, ys, vs, o2, oC, m, rfl, hi, hyl, ha, hi2, hh2, ho2, hvs, hI2, hs2, st2, hns2⟩
    have hle : W.le (W2.hide W1.hid) := ⟨h1.as.trans ha, fun p hp => hi2 p (h1.im p hp), h1.hid⟩
    cases hxi : xs[i]? with
    | none =>
      have hn : i = xs.length := Nat.le_antisymm hi (by simpa using hxi)
      subst hn
      refine wpAny_mono (T.done W2 ρ σ2 s2 o2 ((CL, oC) :: (D, listOf vs.toArray vs.length) :: W1.hid) (fun s' => RR (.ref D) CL (.ok .next) s') _ ho2 ha hi2 hh2 (hIJ _ _ _ hI2) st2 fun s' e st' => ?_) (fun r s' hr => ?_) fun _ _ e => e
      · obtain ⟨m', led', hF', hN', hl', hm'⟩ := st'.ex
        have hoc := hidden_at st' (p := (CL, oC)) (.head _)
        have hold := hidden_at st2 (p := (CL, oC)) (by rw [hh2]; simp)
        have hns' : s'.heap.Ns CL m := hns2.at' fun o q => by rw [hold] at q; cases q; exact hoc
        refine k D CL oC _ ys vs σ2 s' m (by rw [← h1.hid]; exact hle) (by rw [← h1.hid]; rfl) (hs2.trans e) (fin _ _ hI2) hvs.hide (by rw [hyl]; exact hlen) st' hns'
      · obtain ⟨rfl, hr⟩ := hr
        exact hr
    | some v =>
      have hlt : i < xs.length := (List.getElem?_eq_some_iff.mp hxi).1
      refine wpAny_mono (T.turn i v W2 ρ σ2 s2 o2 ((CL, oC) :: (D, listOf vs.toArray vs.length) :: W1.hid) ?QQ _ hxi ho2 ha hi2 hh2 (hIJ _ _ _ hI2) st2 fun W3 o3 u s3 ho3 hw hwi hwh hr3 hs3 st3 => ?_) (fun r s' hr => ?_) fun _ _ e => e
      rotate_left 2
      · obtain ⟨u, rfl, hr⟩ := hr
        show wpAny _ _ (assign (.Name x px) (compEnvC scope cl CL (C.env F)) u) _ _ _
        have e : (letOwnedTupleGo (.Name x px) it u >>= fun _ => assign (.Name x px) (compEnvC scope cl CL (C.env F)) u) = assign (.Name x px) (compEnvC scope cl CL (C.env F)) u := pure_bind () _
        rw [← e]
        refine wpAny_bind ?_
        exact hr
      have hoc3 := hidden_at st3 (p := (CL, oC)) (by rw [hwh]; simp)
      have hold := hidden_at st2 (p := (CL, oC)) (by rw [hh2]; simp)
      have hns3 : s3.heap.Ns CL m := hns2.at' fun o q => by rw [hold] at q; cases q; exact hoc3
      refine wpAny_assign_Name (wpAny_storeName_local (lookup_relabel_local hx) hns3 (fun h₅ hns₅ hs₅ => ?_) (by simp [compEnvC, relabel, hkind]))
      replace hs₅ : Heap.SameBut CL s3.heap h₅ := hs₅
      obtain ⟨oC5, hoC5, hnso⟩ := LCg.ns_obj hns₅
      have st5 : St G F C (W3.hide (o3 ++ (CL, oC5) :: (D, listOf vs.toArray vs.length) :: W1.hid)) ρ σ2 { s3 with heap := h₅, toks := s3.toks + 1 } :=
        st3.rehid1 (s' := { s3 with heap := h₅, toks := s3.toks + 1 }) hwh (fun b o hb q => (hs₅.2 b hb).trans q) hoC5
      refine step i ys v σ2 hxi hI2 C (W3.hide (o3 ++ (CL, oC5) :: (D, listOf vs.toArray vs.length) :: W1.hid)) { s3 with heap := h₅, toks := s3.toks + 1 } u cl CL oC5 _ _ _ hclos st5 (by show (CL, oC5) ∈ o3 ++ _; simp) hnso (if_pos rfl) hr3.hide fun W6 y σ6 yv s6 c1 c2 c3 c4 st6 => ?_
      have hh6 : W6.hid = o3 ++ (CL, oC5) :: (D, listOf vs.toArray vs.length) :: W1.hid := c1.hid
      have hD6 := hidden_at st6 (p := (D, listOf vs.toArray vs.length)) (by rw [hh6]; simp)
      have hC6 := hidden_at st6 (p := (CL, oC5)) (by rw [hh6]; simp)
      refine append_at (hsz := (by rw [List.size_toArray]; have := vreps_len hvs; rw [sizeLine_eq]; lia)) hD6 fun h₇ hs₇ hD₇ => ?_
      have hD7 : h₇.get? D = some (listOf (vs ++ [yv]).toArray (vs ++ [yv]).length) := by
        rw [hD₇]; simp
      have st7 := st6.rehid1 (s' := { s6 with heap := h₇ }) (pre := o3 ++ [(CL, oC5)]) (post := W1.hid) (a := D) (ob := listOf vs.toArray vs.length) (by rw [hh6]; simp) (fun b o hb q => (hs₇.2 b hb).trans q) hD7
      have hvs6 : VReps W6 ys vs := VReps.mono (W := W3.hide (o3 ++ (CL, oC5) :: (D, listOf vs.toArray vs.length) :: W1.hid)) c1 (VReps.hide (VReps.mono (W := W2.hide W3.hid) (W' := W3) ⟨by rw [hw]; exact List.prefix_refl _, hwi, rfl⟩ hvs.hide))
      have hDCL : CL ≠ D := Ne.symm hDC
      refine ⟨_, by lia, W6.hide ((o3 ++ [(CL, oC5)]) ++ (D, listOf (vs ++ [yv]).toArray (vs ++ [yv]).length) :: W1.hid), σ6, i + 1, ys ++ [y], vs ++ [yv], o3, oC5, (fun y => if y = x then some u else m y), rfl, hlt, by rw [List.length_append, hyl]; rfl, ?_, fun p hp => c1.im p (hwi p (hi2 p hp)), by simp [Wd.hide], ho3, vreps_app hvs6.hide (.cons c4.hide .nil), c3, hs2.trans (hs3.trans ((Same.of s3 h₅ _).trans (c2.trans (Same.of s6 h₇ _)))), st7, ?_⟩
      · have : W1.as <+: W3.as := by rw [hw]; exact ha
        exact this.trans c1.as
      · exact (hns₅.at' fun o q => by rw [hoC5] at q; cases q; exact hC6).at' fun o q => (hs₇.2 CL hDCL).trans q
  refine codeAny_compStart_list loop (T.self 0 _ ρ σ1 s4 o _ _ _ ho rfl st4 loop)

theorem he_listcomp {elt iter : Expr} {x : Str} {px pos : Pos} {scope : Scope} {Q : MV → MH → Prop}
    (h : HI G F ρ σ iter (.Name x px) (compI G F ρ scope x elt (fun ys σ' => ∀ l, σ' l = none → Q (.loc l) (upd σ' l (.list ys)))) X)
    (hclos : ∀ C, ∃ cl, closureFor scope (Cx.env F C) = pure cl) (hcell : ∀ y ∈ scope.names, y.2 ≠ .cell) (hkind : scope.kind = .function) (hx : scope.names.lookup x = some .local)
    (hnames : ∀ y ∈ scope.names, y.2 = .local → scope.names.lookup y.1 = some .local) (hs : ∀ env x, foldedSetIterable iter env x = pure x) (hd : F.hd = false) : HE G F ρ σ (.ListComp elt [⟨.Name x px, iter, [], 0⟩] scope pos) Q X := by
  intro C W s QQ EE st eo p px'
  obtain ⟨cl, hcl⟩ := hclos C
  show wpAny _ _ (eval (.ListComp elt [⟨.Name x px, iter, [], 0⟩] scope pos) (C.env F)) _ _ _
  rw [eval_ListComp]
  refine wpAny_comprehension_free (use := none) rfl (hs _) hcl hkind hnames (comp_core h hcl hcell hkind hx st eo (st.ok.hd hd) px' fun D CL oC W' ys vs σ' s' m h1 h2 h3 h4 h5 h6 h7 h8 => ?_)
  refine ⟨m, h8, fun h'' hs'' => ?_⟩
  have hC0 := hidden_at h7 (p := (CL, oC)) (by rw [h2]; exact .head _)
  have st8 := h7.unhid (s' := { s' with heap := h'' }) (o := [(CL, oC)]) (hid := (D, listOf vs.toArray vs.length) :: W.hid) h2 (fun b o hb q => (hs''.2 b (by simpa using hb)).trans q)
  have hr : ORep G (((W'.hide ((D, listOf vs.toArray vs.length) :: W.hid)).hide W.hid).grow D) (.list ys) (listOf vs.toArray vs.length) := .list (VReps.mono (Wd.grow_le _ _) h5.hide.hide) h6
  have st9 := st8.adopt (hid := W.hid) rfl hr
  obtain ⟨m8, led8, hF8, hN8, hl8, hm8⟩ := st8.ex
  exact p _ _ _ _ _ (h1.trans (Wd.grow_le _ _)) (h3.trans (Same.of s' h'' _)) (h4 _ (mem_fresh hm8)) (.loc (Wd.grow_get _ _)) st9

theorem hx_assign_listcomp {elt iter : Expr} {x y : Str} {px py pos spos : Pos} {scope : Scope} {Q : MFlow → Loc → MH → Prop}
    (h : HI G F ρ σ iter (.Name x px) (compI G F ρ scope x elt (fun ys σ' => ∀ l, σ' l = none → ∃ ρ', LPut y (.loc l) ρ ρ' ∧ Q .next ρ' (upd σ' l (.list ys)))) X)
    (hsw : ∀ C, swapsWith (.ListComp elt [⟨.Name x px, iter, [], 0⟩] scope pos) (some (.Name y py)) spos.line (Cx.env F C) = pure true)
    (hclos : ∀ C, ∃ cl, closureFor scope (Cx.env F C) = pure cl) (hcell : ∀ y ∈ scope.names, y.2 ≠ .cell) (hkind : scope.kind = .function) (hx : scope.names.lookup x = some .local)
    (hnames : ∀ y ∈ scope.names, y.2 = .local → scope.names.lookup y.1 = some .local) (hs : ∀ env x, foldedSetIterable iter env x = pure x) (hd : F.hd = false) : HX G F ρ σ (.Assign [.Name y py] (.ListComp elt [⟨.Name x px, iter, [], 0⟩] scope pos) spos) Q X := by
  intro C W s QQ EE st eo p px'
  obtain ⟨cl, hcl⟩ := hclos C
  rw [exec_Assign_Name_used _ _ _ _ (hsw C)]
  refine wpAny_bind (wpAny_standAt (wpAny_bind ?_))
  show wpAny _ (C.A F) (do let _ ← comprehension (.ListComp elt [⟨.Name x px, iter, [], 0⟩] scope pos) scope (C.env F) _ (newList []) false (eval iter (C.env F)) (some (assign (.Name y py) (C.env F)))) _ _ s
  refine wpAny_bind (wpAny_mono (wpAny_comprehension_free (use := some (assign (.Name y py) (C.env F))) (Q := fun _ s' => QQ .next s') rfl (hs _) hcl hkind hnames
    (comp_core h hcl hcell hkind hx st eo (st.ok.hd hd) px' fun D CL oC W' ys vs σ' s' m h1 h2 h3 h4 h5 h6 h7 h8 => ?_)) (fun _ s' hq => wpAny_pure (wpAny_pure hq)) fun _ _ e => e)
  have st8 := h7.perm (h := (D, listOf vs.toArray vs.length) :: ((CL, oC) :: W.hid)) (by rw [h2]; exact List.Perm.swap _ _ _)
  have hr : ORep G (((W'.hide ((D, listOf vs.toArray vs.length) :: ((CL, oC) :: W.hid))).hide ((CL, oC) :: W.hid)).grow D) (.list ys) (listOf vs.toArray vs.length) := .list (VReps.mono (Wd.grow_le _ _) h5.hide.hide) h6
  have st9 := st8.adopt (hid := (CL, oC) :: W.hid) rfl hr
  obtain ⟨m8, led8, hF8, hN8, hl8, hm8⟩ := st8.ex
  obtain ⟨ρ', hput, q⟩ := h4 _ (mem_fresh hm8)
  show wpAny _ _ (assign (.Name y py) (C.env F) (.ref D)) _ _ _
  refine wpAny_assign_Name (store_loc st9 hput (.loc (Wd.grow_get _ _)) fun s9 h9 st10 => ?_)
  have hC1 := hidden_at st9 (p := (CL, oC)) (.head _)
  have hC2 := hidden_at st10 (p := (CL, oC)) (.head _)
  refine ⟨m, h8.at' fun o q => by rw [hC1] at q; cases q; exact hC2, fun h'' hs'' => ?_⟩
  have st11 := st10.unhid (s' := { s9 with heap := h'' }) (o := [(CL, oC)]) (hid := W.hid) rfl (fun b o hb q => (hs''.2 b (by simpa using hb)).trans q)
  exact p ((((W'.hide ((D, listOf vs.toArray vs.length) :: ((CL, oC) :: W.hid))).hide ((CL, oC) :: W.hid)).grow D).hide W.hid) .next ρ' _ .next _ ⟨h1.as.trans (List.prefix_append _ _), h1.im, rfl⟩ (h3.trans (h9.trans (Same.of s9 h'' _))) q .next st11
end
end Mine
end
section
set_option Elab.async false
set_option linter.all false
set_option maxRecDepth 100000
set_option genSizeOf false
set_option genInjectivity false
namespace Mine
open PySem PySem.W PySem.Calls PyProof.Rows

structure XGet (K : Frag) (C : Addr) : Prop where
  ga : findIn K (.ref C) "__getattribute__" = some (some (.builtin "BaseException.__getattribute__"))
  gn : findIn K (.ref C) "__getattr__" = some none
  hd : hasDictIn K C = true
  sub : mroIn K C (.type "BaseException") = some true

section
variable {prog : Program} {w : World} {A : Around} {E : Value → Shared → Prop} {K : Frag} {s : Shared} {C fI : Addr}

theorem x_get {e dx : Addr} {ws : Array Value} {sl : Array (Option Value)} {hs : Int} {tk : Tok} {v : Value} {n : Nat} {expr : Bool} {Q : Value → Shared → Prop} (hX : XCls K C fI) (hG : XGet K C) (XH : K.In s.heap) (he : s.heap.get? e = some ⟨.ref C, some dx, .fields ws, sl⟩)
    (hd : s.heap.get? dx = some (dictOf [⟨hs, .str "told" tk, v⟩] n)) (hv : handedIn v = true) (k : ∀ tk', Q v { s with toks := tk' }) : wpAny (model prog w) A (getAttr (.ref e) "told" expr) Q E s := by
  have I : InstAt s.heap e ⟨.ref C, some dx, .fields ws, sl⟩ C (some (dictOf [⟨hs, .str "told" tk, v⟩] n)) := ⟨he, rfl, rfl, hd⟩
  have hl : lookIn "told" (dictOf [⟨hs, .str "told" tk, v⟩] n) = some (some v) := by
    rw [lookIn_dict]; unfold getL; simp [Value.isStr]
  have hf : findObj K C (some (dictOf [⟨hs, .str "told" tk, v⟩] n)) "told" = some (.value v) := findObj_own hG.hd hX.told (by first | rfl | simp [noGet]) hl
  obtain ⟨hh, g, d, t, os⟩ := s
  dsimp only at XH he hd I
  have L0 := I.type (M := model prog w)
  have L1 := looks_findIn (M := model prog w) XH hG.ga
  have L2 := looks_find (M := model prog w) XH I hf
  have L3 := looks_findIn (M := model prog w) XH hG.gn
  have hx2 : (Value.builtin "BaseException.__getattribute__" == Value.builtin "object.__getattribute__") = false := by decide +kernel
  unfold getAttr getAttrBy
  refine wpAny_bind (wpAny_mkText (wpAny_holding (wpAny_bind (L0.at (wpAny_bind (L1.at ?_))))))
  simp only [hx2, Bool.and_false, Bool.false_eq_true, if_false]
  unfold getAttrByItsOwn
  refine wpAny_bind (L3.at (wpAny_bind (wpAny_attempt (wpAny_holding ?_))))
  have hx0 : (expr && onTheHeap (Value.builtin "BaseException.__getattribute__")) = false := by cases expr <;> rfl
  unfold callGetattribute
  simp only [hx0, Bool.false_eq_true, if_false]
  have f3 := PySem.F.attr_Exception.ga.bind (.ref e)
  unfold boundAndCalled
  refine wpAny_bind (wpAny_of_eq f3 ?_)
  refine wpAny_call (codeAny_call_builtin PySem.F.attr_Exception.ga.plain PySem.F.entry_bexc_ga (@check_slot (model prog w) _ _ _ "BaseException.__getattribute__" "BaseException" "__getattribute__" (.ref e) [.str "told" t] [] _ (by decide +kernel) (by decide +kernel) (L0.andThen (looks_mroIn XH hG.sub)) (PySem.F.args_bexc_ga (.ref e) (.str "told" t)) ?_))
  refine wpAny_bind (wpAny_pure (wpAny_bind (wpAny_pure (wpAny_bind (L0.at (wpAny_bind (L2.at ?_)))))))
  refine wpAny_pure ?_
  show wpAny _ _ (handedOut v) _ _ _
  rw [handedOut_of hv]; exact wpAny_pure (k _)
end

/-! several targets -/
inductive SPut (G : Gl) (F : Fx) : List Expr → List MV → Loc → MH → Loc → MH → Prop
  | nil {ρ : Loc} {σ : MH} : SPut G F [] [] ρ σ ρ σ
  | name {x pos mv es ms} {ρ ρ1 ρ2 : Loc} {σ σ2 : MH} : LPut x mv ρ ρ1 → SPut G F es ms ρ1 σ ρ2 σ2 → SPut G F (.Name x pos :: es) (mv :: ms) ρ σ ρ2 σ2
  | item {o i ip mv es ms} {ρ ρ2 : Loc} {σ σ1 σ2 : MH} {x y} : PV G F ρ σ o x → PV G F ρ σ i y → ISet σ mv x y σ1 → SPut G F es ms ρ σ1 ρ2 σ2 → SPut G F (.Subscript o i ip :: es) (mv :: ms) ρ σ ρ2 σ2

inductive NPuts : List Str → List MV → Loc → Loc → Prop
  | nil {ρ : Loc} : NPuts [] [] ρ ρ
  | cons {x mv xs ms} {ρ ρ1 ρ2 : Loc} : LPut x mv ρ ρ1 → NPuts xs ms ρ1 ρ2 → NPuts (x :: xs) (mv :: ms) ρ ρ2

section
variable {G : Gl} {F : Fx} {ρ : Loc} {σ : MH} {X : MX → MH → Prop}

theorem pv_xattr {o : Expr} {pos : Pos} {cx fI : Addr} {told : MV} (h : PV G F ρ σ o (.exc cx told)) (hX : XCls G.K cx fI) (hG : XGet G.K cx) (hn : noRaw told = true)
    (he : ∀ env, eval (.Attribute o "told" pos) env = (do let v ← eval o env; standAt pos.atName; let r ← holding [v] (getAttr v "told" true); letTemporaryGo o v r; pure r)) : PV G F ρ σ (.Attribute o "told" pos) told := by
  intro Q X q C W s QQ EE st eo p px
  refine Attribute_any_ (he_use (h (fun v σ' => v = .exc cx told ∧ σ' = σ) X ⟨rfl, rfl⟩) st eo px fun W1 x σ1 v s1 h1 h2 q1 r1 st1 px1 => ?_) (he _)
  obtain ⟨rfl, rfl⟩ := q1
  obtain ⟨m, led, hF, hN, hl, hm⟩ := st1.ex
  cases r1 with
  | exc a b c =>
    exact x_get hX hG (st1.ok.inK.keeps hF.keep) (hN _ (hm.im _ a)).1 (hN _ (hm.im _ b)).1 (handed_of c hn) fun tk' => p W1 told σ1 _ _ h1 (h2.trans (Same.of s1 s1.heap tk')) q c (st1.toks rfl)

/-- a call from the outermost written frame -/
theorem he_callT {id : Str} {np pos : Pos} {args : List Expr} {fv : Value} {Q : MV → MH → Prop} (hn : PV G F ρ σ (.Name id np) (.raw fv)) (hk : keepsG G.K fv = true) (h : HA G F ρ σ args (fun vs σ1 => HCt G F.n fv vs σ1 Q) X)
    (ha : args.all notStar = true) (hd : F.hd = false) (ht : F.top = true) : HE G F ρ σ (.Call (.Name id np) args [] pos) Q X := by
  intro C W s QQ EE st eo p px
  refine wpAny_Call_Name_kw (he_use (hn (fun v σ' => v = .raw fv ∧ σ' = σ) X ⟨rfl, rfl⟩) st eo px fun W1 x σ1 v s1 h1 h2 q r1 st1 px1 => ?_)
  obtain ⟨rfl, rfl⟩ := q
  cases r1
  refine callWith_any (fv := []) (Qa := fun as σ2 => HCt G F.n fv as σ2 Q) hk ha h st1 eo px1 fun W2 as σ2 av s2 k1 k2 k3 k4 st2 => ?_
  exact k3 F C W2 ρ s2 av QQ EE (Nat.le_refl _) hd ht st2 k4 (p.from (h1.trans k1) (h2.trans k2))

theorem hx_ret0 {pos} {Q : MFlow → Loc → MH → Prop} (q : Q (.ret .none) ρ σ) : HX G F ρ σ (.Return none pos) Q X := by
  intro C W s QQ EE st eo p px
  exact wpAny_Return_none (p W _ ρ σ _ s (.refl W) (.refl s) q (.ret .none) st)

theorem sput_len {env : Env} {es ms ρ0 σ0 ρ' σ'} (h : SPut G F es ms ρ0 σ0 ρ' σ') : (assignEach es env).length = ms.length ∧ (assignEach es env).findIdx? (·.1) = none := by
  induction h with
  | nil => exact ⟨rfl, rfl⟩
  | name a r ih =>
    refine ⟨congrArg (· + 1) ih.1, ?_⟩
    show List.findIdx? _ ((false, _) :: _) = none
    rw [List.findIdx?_cons]; simp [ih.2]
  | item a b c r ih =>
    refine ⟨congrArg (· + 1) ih.1, ?_⟩
    show List.findIdx? _ ((false, _) :: _) = none
    rw [List.findIdx?_cons]; simp [ih.2]

theorem sput_ok {C : Cx} {QQ : Unit → Shared → Prop} {EE : Value → Shared → Prop} (eo : EOk G F C EE) {es ms ρ0 σ0 ρ' σ'} (h : SPut G F es ms ρ0 σ0 ρ' σ') : ∀ {W : Wd} {s : Shared} {vs}, St G F C W ρ0 σ0 s → PostX G F C W s (fun _ _ => False) EE → VReps W ms vs →
    (∀ W' s', W.le W' → Same s s' → St G F C W' ρ' σ' s' → QQ () s') → wpAny G.M (C.A F) (assignInOrder ((assignEach es (C.env F)).map (·.2)) vs) QQ EE s := by
  induction h with
  | nil =>
    intro W s vs st px hr k
    cases hr
    exact wpAny_pure (k W s (.refl W) (.refl s) st)
  | name a r ih =>
    intro W s vs st px hr k
    cases hr with
    | cons hv hr =>
      show wpAny _ _ (holding _ _ >>= _) _ _ _
      refine wpAny_bind (wpAny_holding (wpAny_assign_Name (store_loc st a hv fun s1 h1 st1 => ?_)))
      exact ih st1 (px.from (.refl W) h1) hr fun W2 s2 hw h2 st2 => k W2 s2 hw (h1.trans h2) st2
  | @item o i ip mv es ms ρ0 ρ2 σ0 σ2 σ1 x y ho hi hset r ih =>
    intro W s vs st px hr k
    cases hr with
    | @cons _ v _ _ hv hr =>
      show wpAny _ _ (holding _ (assign (.Subscript o i ip) (C.env F) _) >>= _) _ _ _
      refine wpAny_bind (wpAny_holding ?_)
      rw [arm_assign_Subscript]
      refine wpAny_bind (wpAny_holding (he_use (ho (fun z σ' => z = _ ∧ σ' = _) (fun _ _ => False) ⟨rfl, rfl⟩) st eo px fun W1 x σ1 vx s1 h1 h2 q1 r1 st1 px1 => ?_))
      obtain ⟨rfl, rfl⟩ := q1
      refine wpAny_bind (wpAny_holding (he_use (hi (fun z σ' => z = _ ∧ σ' = _) (fun _ _ => False) ⟨rfl, rfl⟩) st1 eo px1 fun W2 y σ2 vy s2 h3 h4 q2 r2 st2 px2 => ?_))
      obtain ⟨rfl, rfl⟩ := q2
      refine wpAny_bind (wpAny_standAt (wpAny_bind (wpAny_holding (set_item st2 hset ((hv.mono h1).mono h3) (r1.mono h3) r2 fun s3 h5 st3 => ?_))))
      refine wpAny_release ?_
      exact ih st3 (px2.from (.refl _) h5) ((VReps.mono h3 (VReps.mono h1 hr))) fun W4 s4 hw h6 st4 => k W4 s4 ((h1.trans h3).trans hw) (((h2.trans h4).trans h5).trans h6) st4

theorem hx_tuple {es k tpos value pos} {Q : MFlow → Loc → MH → Prop} (h : HE G F ρ σ value (fun v σ1 => ∃ ms ρ' σ2, v = .tup ms ∧ SPut G F es ms ρ σ1 ρ' σ2 ∧ Q .next ρ' σ2) X) (hd : F.hd = false)
    (hs : ∀ C : Cx, swapsWithSole [.Tuple es k tpos] value pos.line (C.env F) = pure false) (hw : ∀ C : Cx, swappedStores [.Tuple es k tpos] value (C.env F) = pure none) : HX G F ρ σ (.Assign [.Tuple es k tpos] value pos) Q X := by
  intro C W s QQ EE st eo p px
  refine Assign_Tuple (he_use h st eo px fun W1 v σ1 vv s1 h1 h2 q r1 st1 px1 => ?_) (hs C) (hw C)
  obtain ⟨ms, ρ', σ2, rfl, hput, q⟩ := q
  obtain ⟨_, _, _, rfl, m, rs⟩ := r1.tupv
  · skip
    obtain ⟨_, led, hF, hN, hl, hm⟩ := st1.ex
    have hlen := sput_len (env := C.env F) hput
    refine wpAny_assign_Tuple (items := _) (st1.ok.hd hd) ⟨_, (hN _ (hm.im _ m)).1, rfl, _, rfl⟩ (hlen.1.trans ?_) hlen.2 fun h' hx => ?_
    · rw [List.size_toArray]; exact (vreps_len rs).symm
    · have hk : ∀ b ob, s1.heap.get? b = some ob → h'.get? b = some ob := fun b ob e => hx b ob (Nat.ne_of_lt (Heap.lt_size e)) e
      refine sput_ok eo hput (st1.push (s' := { s1 with heap := h' }) hk) (fun _ _ _ _ _ _ _ z _ => z.elim) rs fun W2 s2 hw2 h3 st2 => ?_
      exact p W2 _ ρ' σ2 _ s2 (h1.trans hw2) (h2.trans ⟨h3.gens, h3.drawn, h3.os⟩) q .next st2

theorem nputs_ok {C : Cx} {QQ : Unit → Shared → Prop} {EE : Value → Shared → Prop} {W : Wd} {xs ms ρ0 ρ'} (h : NPuts xs ms ρ0 ρ') : ∀ {s : Shared} {vs}, St G F C W ρ0 σ s → VReps W ms vs → (∀ s', Same s s' → St G F C W ρ' σ s' → QQ () s') →
    wpAny G.M (C.A F) (assignInOrder (xs.map fun n => bindName (C.env F) n) vs) QQ EE s := by
  induction h with
  | nil =>
    intro s vs st hr k
    cases hr
    exact wpAny_pure (k s (.refl s) st)
  | cons a r ih =>
    intro s vs st hr k
    cases hr with
    | cons hv hr =>
      show wpAny _ _ (holding _ _ >>= _) _ _ _
      refine wpAny_bind (wpAny_holding (bindName_ (store_loc st a hv fun s1 h1 st1 => ?_)))
      exact ih st1 hr fun s2 h2 st2 => k s2 (h1.trans h2) st2
theorem vreps_rev {W : Wd} : ∀ {xs vs}, VReps W xs vs → VReps W xs.reverse vs.reverse := by
  intro xs
  induction xs with
  | nil => intro vs q; cases q; exact .nil
  | cons x xs ih =>
    intro vs q
    cases q with
    | cons a r => rw [List.reverse_cons, List.reverse_cons]; exact vreps_app (ih r) (.cons a .nil)
theorem hx_swap {es k tpos value pos} {names : List Str} {Q : MFlow → Loc → MH → Prop} (h : HE G F ρ σ value (fun v σ1 => ∃ ms ρ', v = .tup ms ∧ ms.length = names.length ∧ NPuts names.reverse ms.reverse ρ ρ' ∧ Q .next ρ' σ1) X) (hd : F.hd = false)
    (hs : ∀ C : Cx, swapsWithSole [.Tuple es k tpos] value pos.line (C.env F) = pure false) (hw : ∀ C : Cx, swappedStores [.Tuple es k tpos] value (C.env F) = pure (some names)) : HX G F ρ σ (.Assign [.Tuple es k tpos] value pos) Q X := by
  intro C W s QQ EE st eo p px
  refine Assign_Tuple_swapped (he_use h st eo px fun W1 v σ1 vv s1 h1 h2 q r1 st1 px1 => ?_) (hs C) (hw C)
  obtain ⟨ms, ρ', rfl, hlen, hput, q⟩ := q
  obtain ⟨_, _, _, rfl, m, rs⟩ := r1.tupv
  · skip
    obtain ⟨_, led, hF, hN, hl, hm⟩ := st1.ex
    rw [show names.length = (List.toArray _).size from by rw [List.size_toArray, vreps_len rs]; exact hlen.symm]
    refine wpAny_unpackItems_tuple (items := _) (st1.ok.hd hd) ⟨_, (hN _ (hm.im _ m)).1, rfl, _, rfl⟩ fun h' hx => ?_
    have hk : ∀ b ob, s1.heap.get? b = some ob → h'.get? b = some ob := fun b ob e => hx b ob (Nat.ne_of_lt (Heap.lt_size e)) e
    refine nputs_ok hput (st1.push (s' := { s1 with heap := h' }) hk) (vreps_rev rs) fun s2 h3 st2 => ?_
    exact p W1 _ ρ' σ1 _ s2 h1 (h2.trans ⟨h3.gens, h3.drawn, h3.os⟩) q .next st2
end
end Mine
end
section
set_option Elab.async false
set_option linter.all false
set_option maxRecDepth 100000
set_option genSizeOf false
set_option genInjectivity false
namespace Mine
open PySem PySem.W PySem.Calls PyProof.Rows

section
variable {G : Gl} {F : Fx} {ρ : Loc} {σ : MH} {X : MX → MH → Prop}

theorem pv_cell {x : Str} {pos : Pos} {mv : MV} (hx : (x, mv) ∈ F.cells) (hk : F.scope.names.lookup x = some .cell) (hd : (x == ("__debug__" : Str)) = false) : PV G F ρ σ (.Name x pos) mv := by
  intro Q X q C W s QQ EE st eo p px
  obtain ⟨m, led, hF, hN, hl, hm⟩ := st.ex
  obtain ⟨c, o, v, e1, e2, e3, e4⟩ := hl.cells _ hx
  exact nameX_C hN e1 (hm.im _ e2) e3 (p W mv σ v s (.refl W) (.refl s) q e4 st) st.ok.kind hk hd

/-- an int in a written tuple of ints -/
theorem hb_inK {l r : Expr} {pos : Pos} {a : Int} {tp : Addr} {o : Obj} {its : List Value} {ns : List Int} {n : Nat} (hl : PV G F ρ σ l (.int a)) (hr : PV G F ρ σ r (.raw (.ref tp))) (hK : G.K.lookup tp = some o) (hc : o.cls = .type "tuple") (hd : o.data = .seq its.toArray n) (hi : IntsAre its ns)
    (hm : behindInMarks .In r = false) : PB G F ρ σ (.Compare l [.In] [r] pos) (ns.contains a) := by
  intro Q X q C W s QQ EE st eo p px
  refine wpAny_isTrue_Compare1 (he_use (hl (fun z σ' => z = .int a ∧ σ' = σ) X ⟨rfl, rfl⟩) st eo px fun W1 x σ1 v s1 h1 h2 q1 r1 st1 px1 => he_use (hr (fun z σ' => z = .raw (.ref tp) ∧ σ' = σ) X ?_) ?_ eo px1 fun W2 y σ2 u s2 h3 h4 q2 r2 st2 px2 => ?_) hm
  · exact ⟨rfl, rfl⟩
  · obtain ⟨rfl, rfl⟩ := q1; exact st1
  · obtain ⟨rfl, rfl⟩ := q1
    obtain ⟨rfl, rfl⟩ := q2
    cases r1; cases r2
    obtain ⟨m, led, hF, hN, hl, hm⟩ := st2.ex
    have ho := (st2.ok.inK.keeps hF.keep) _ _ hK
    refine SeqAt.in_tupleAt (eqTo a) (items := its.toArray) ⟨_, ho, hc, _, hd⟩ (fun y hy => ?_) ?_
    · obtain ⟨n, u, rfl⟩ := any_ints (W := W) (a := a) (t := 0) hi y (by simpa using hy)
      exact SeqAt.EqAt.int_int _ _ _ _
    · rw [← Array.any_toList, any_eqTo hi]; exact wpAny_truthy_bool (p W2 _ σ2 _ s2 (h1.trans h3) (h2.trans h4) q rfl st2)

/-! elements of comprehensions -/
variable {scope : Scope} {x : Str} {mv : MV}

theorem hel_x {pos : Pos} {Q : MV → MH → Prop} (hk : scope.kind = .function) (hx : scope.names.lookup x = some .local) (hd : (x == ("__debug__" : Str)) = false) (q : Q mv σ) : HEl G F ρ σ scope x mv (.Name x pos) Q := by
  intro C W s v cl CL oC mC QQ EE hcl st hin hns hv hr p
  have hn : s.heap.Ns CL mC := hns.ns (hidden_at st hin)
  exact wpAny_Name (wpAny_loadName_local hk (lookup_relabel_local hx) hn hv (p W mv σ v s (.refl W) (.refl s) q hr st)) hd
theorem hel_int {i k pos} {Q : MV → MH → Prop} (q : Q (.int i) σ) : HEl G F ρ σ scope x mv (.Constant (.int i) k pos) Q := fun C W s v cl CL oC mC QQ EE hcl st hin hns hv hr p =>
  wpAny_Constant_int (p W _ σ _ _ (.refl W) (Same.of s s.heap _) q (.int i _) (st.toks rfl))
theorem hel_bin {l op r pos} {Q : MV → MH → Prop} (h : HEl G F ρ σ scope x mv l (fun a σ1 => HEl G F ρ σ1 scope x mv r (fun b σ2 => ∃ z, Bin op a b z ∧ Q z σ2))) : HEl G F ρ σ scope x mv (.BinOp l op r pos) Q := by
  intro C W s v cl CL oC mC QQ EE hcl st hin hns hv hr p
  refine wpAny_BinOp (h C W s v cl CL oC mC _ _ hcl st hin hns hv hr fun W1 a σ1 va s1 h1 h2 q r1 st1 => q C W1 s1 v cl CL oC mC _ _ hcl st1 (by rw [h1.hid]; exact hin) hns hv (hr.mono h1) fun W2 b σ2 vb s2 h3 h4 q2 r2 st2 => ?_)
  obtain ⟨z, hz, q3⟩ := q2
  exact bin_ok hz (r1.mono h3) r2 fun vz s3 e1 e2 r3 => p W2 z σ2 vz s3 (h1.trans h3) ((h2.trans h4).trans e2) q3 r3 (st2.toks e1)
theorem hel_glob {y : Str} {pos : Pos} {v : Value} {Q : MV → MH → Prop} (e : nsIn G.K mainGlobals y = some (some v)) (hk : scope.kind = .function) (hy : ∀ C : Cx, ∀ CL cl, (compEnvC scope cl CL (C.env F)).kindOf y = some .globalImplicit) (hd : (y == ("__debug__" : Str)) = false) (q : Q (.raw v) σ) : HEl G F ρ σ scope x mv (.Name y pos) Q := by
  intro C W s vv cl CL oC mC QQ EE hcl st hin hns hv hr p
  obtain ⟨m, led, hF, hN, hl, hm⟩ := st.ex
  exact nameG_K hF st.ok.inK (topRead_of st.ok.top) e (p W _ σ v s (.refl W) (.refl s) q (.raw v) st) rfl hk (hy C CL cl) hd
theorem hel_built {y : Str} {pos : Pos} {v : Value} {Q : MV → MH → Prop} (e : nsIn G.K mainGlobals y = some none) (hv' : bootBuiltins y = some v) (hn : y ≠ "__name__") (hk : scope.kind = .function) (hy : ∀ C : Cx, ∀ CL cl, (compEnvC scope cl CL (C.env F)).kindOf y = some .globalImplicit) (hd : (y == ("__debug__" : Str)) = false) (q : Q (.raw v) σ) : HEl G F ρ σ scope x mv (.Name y pos) Q := by
  intro C W s vv cl CL oC mC QQ EE hcl st hin hns hv hr p
  obtain ⟨m, led, hF, hN, hl, hm⟩ := st.ex
  have T := topRead_of st.ok.top
  exact Name_function_global hk (hy C CL cl) (loadGlobal_builtin (env := compEnvC scope cl CL (C.env F)) (T.g.keeps hF.keep) (mg_none_of st.ok.inK T.g e) (T.b.keeps hF.keep) ((T.builtins y hn).trans hv') (p W _ σ v s (.refl W) (.refl s) q (.raw v) st)) hd
theorem hel_cell {y : Str} {pos : Pos} {mw : MV} {Q : MV → MH → Prop} (hy : (y, mw) ∈ F.cells) (hk : scope.kind = .function) (hyk : ∀ C : Cx, ∀ CL cl, (compEnvC scope cl CL (C.env F)).kindOf y = some .cell) (hcls : ∀ (C : Cx) cl, closureFor scope (C.env F) = pure cl → cl.lookup y = F.cl.lookup y) (hd : (y == ("__debug__" : Str)) = false) (q : Q mw σ) : HEl G F ρ σ scope x mv (.Name y pos) Q := by
  intro C W s vv cl CL oC mC QQ EE hcl st hin hns hv hr p
  obtain ⟨m, led, hF, hN, hl, hm⟩ := st.ex
  obtain ⟨c, o, v, e1, e2, e3, e4⟩ := hl.cells _ hy
  exact lcf_cell hN ((hcls C cl hcl).trans e1) (hm.im _ e2) e3 (p W mw σ v s (.refl W) (.refl s) q e4 st) hk (hyk C CL cl) hd

theorem callWith_env {C : Cx} {s : Shared} {env : Env} {QQ EE : Value → Shared → Prop} {f : Value} {fv : List Value} {args : List Expr} {pos : Pos} (hk : keepsG G.K f = true) (ha : args.all notStar = true)
    (h : wpAny G.M (C.A F) (spliced (backTo pos (starEach args env))) (fun vs s' => G.K.In s'.heap ∧ wpAny G.M (C.A F) (call f (fv ++ vs) []) QQ EE s') EE s) :
    wpAny G.M (C.A F) (callWith pos f fv (backTo pos (starEach args env)) []) QQ EE s := by
  refine callWith_of (P := G.K.In) ?_ (fun hp => keeps_any hk hp) ?_
  · rw [show (backTo pos (starEach args env)).any (·.1) = (starEach args env).any (·.1) from by simp [backTo, List.any_map, Function.comp_def], starEach_plain ha]; rfl
  · cases args with
    | nil =>
      show wpAny _ _ (evalArgs f true [] []) _ _ s
      have main' : wpAny G.M (C.A F) (spliced []) (fun vs s' => G.K.In s'.heap ∧ wpAny G.M (C.A F) (call f (fv ++ vs) []) QQ EE s') EE s := h
      unfold evalArgs
      show wpAny _ _ (spliced [] >>= _) _ _ s
      refine wpAny_bind (wpAny_mono main' (fun vs s' h' => ?_) fun _ _ x => x)
      refine wpAny_bind (wpAny_pure ?_)
      refine wpAny_holding ?_
      exact wpAny_bind (wpAny_pure (wpAny_bind (wpAny_pure (wpAny_pure h'))))
    | cons e r =>
      rw [List.all_cons, Bool.and_eq_true] at ha
      rw [starEach_cons ha.1] at h ⊢
      exact evalArgs_plain h

noncomputable def HEls (G : Gl) (F : Fx) (ρ : Loc) (scope : Scope) (x : Str) (mv : MV) : List Expr → MH → (List MV → MH → Prop) → Prop
  | [], σ, Q => Q [] σ
  | e :: r, σ, Q => notStar e = true ∧ HEl G F ρ σ scope x mv e (fun y σ1 => HEls G F ρ scope x mv r σ1 (fun ys σ2 => Q (y :: ys) σ2))
theorem hels_ok {C : Cx} {v : Value} {cl CL oC mC} {EE : Value → Shared → Prop} {pos : Pos} (hcl : closureFor scope (C.env F) = pure cl) (hns : LCg.NsObj oC mC) (hv : mC x = some v) : ∀ {es : List Expr} {σ : MH} {Q : List MV → MH → Prop}, HEls G F ρ scope x mv es σ Q → ∀ {W : Wd} {s : Shared} {QQ : List Value → Shared → Prop}, St G F C W ρ σ s → (CL, oC) ∈ W.hid → VRep W mv v →
    (∀ W' ys σ' vs s', W.le W' → Same s s' → Q ys σ' → VReps W' ys vs → St G F C W' ρ σ' s' → QQ vs s') → wpAny G.M (C.A F) (spliced (backTo pos (starEach es (compEnvC scope cl CL (C.env F))))) QQ EE s := by
  intro es
  induction es with
  | nil => exact fun {σ Q} h {W s QQ} st hin hr k => spliced_none (k W [] σ [] s (.refl W) (.refl s) h .nil st)
  | cons e r ih =>
    intro σ Q h W s QQ st hin hr k
    refine spliced_more (h.2 C W s v cl CL oC mC _ EE hcl st hin hns hv hr fun W1 y σ1 vy s1 h1 h2 q r1 st1 => ?_) (starEach_cons h.1)
    exact ih q st1 (by rw [h1.hid]; exact hin) (hr.mono h1) fun W2 ys σ2 vs s2 h3 h4 q2 r2 st2 => k W2 _ σ2 _ s2 (h1.trans h3) (h2.trans h4) q2 (.cons (r1.mono h3) r2) st2

theorem hel_call {id : Str} {np pos : Pos} {args : List Expr} {fv : Value} {Q : MV → MH → Prop} (hk : keepsG G.K fv = true) (ha : args.all notStar = true) (hd : F.hd = false)
    (hn : ∀ Q', Q' (.raw fv) σ → HEl G F ρ σ scope x mv (.Name id np) Q') (h : HEls G F ρ scope x mv args σ (fun vs σ1 => HC G F.n fv vs σ1 Q (fun _ _ => False))) : HEl G F ρ σ scope x mv (.Call (.Name id np) args [] pos) Q := by
  intro C W s v cl CL oC mC QQ EE hcl st hin hns hv hr p
  refine wpAny_Call_Name_kw (hn (fun z σ' => z = .raw fv ∧ σ' = σ) ⟨rfl, rfl⟩ C W s v cl CL oC mC _ _ hcl st hin hns hv hr fun W1 a σ1 va s1 h1 h2 q r1 st1 => ?_)
  obtain ⟨rfl, rfl⟩ := q
  cases r1
  refine callWith_env (fv := []) hk ha (hels_ok hcl hns hv h st1 (by rw [h1.hid]; exact hin) (hr.mono h1) fun W2 ys σ2 vs s2 h3 h4 q2 r2 st2 => ⟨?_, ?_⟩)
  · obtain ⟨m, led, hF, hN, hl, hm⟩ := st2.ex
    exact st2.ok.inK.keeps hF.keep
  · exact q2 F C W2 ρ s2 _ QQ EE (Nat.le_refl _) hd st2 r2 (p.from (h1.trans h3) (h2.trans h4)) fun _ _ _ _ _ _ _ z _ _ => z.elim

/-- an item of a written list of ints -/
theorem hel_subK {o i : Expr} {pos : Pos} {lp : Addr} {ob : Obj} {its : List Value} {ns : List Int} {n : Nat} {Q : MV → MH → Prop} (hK : G.K.lookup lp = some ob) (hc : ob.cls = .type "list") (hdt : ob.data = .seq its.toArray n) (hi : IntsAre its ns) (hs : ∀ a b, subscripted i false a b = operate [a, b] (getItem a b))
    (h : HEl G F ρ σ scope x mv o (fun a σ1 => a = .raw (.ref lp) ∧ HEl G F ρ σ1 scope x mv i (fun b σ2 => ∃ k : Int, b = .int k ∧ 0 ≤ k ∧ k < ns.length ∧ ns.length ≤ 1000 ∧ Q (.int (ns.getD k.toNat 0)) σ2))) : HEl G F ρ σ scope x mv (.Subscript o i pos) Q := by
  intro C W s v cl CL oC mC QQ EE hcl st hin hns hv hr p
  refine Subscript_ (h C W s v cl CL oC mC _ _ hcl st hin hns hv hr fun W1 a σ1 va s1 h1 h2 q r1 st1 => ?_)
  obtain ⟨rfl, q⟩ := q
  cases r1
  refine q C W1 s1 v cl CL oC mC _ _ hcl st1 (by rw [h1.hid]; exact hin) hns hv (hr.mono h1) fun W2 b σ2 vb s2 h3 h4 q2 r2 st2 => ?_
  obtain ⟨k, rfl, k0, k1, k2, q3⟩ := q2
  cases r2
  obtain ⟨m, led, hF, hN, hl, hm⟩ := st2.ex
  have ho := (st2.ok.inK.keeps hF.keep) _ _ hK
  have hL : s2.heap.IsList lp its.toArray := ⟨_, ho, hc, _, hdt⟩
  have hlen : its.length = ns.length := hi.length
  have hget : ∃ t, its[k.toNat]? = some (.int (ns.getD k.toNat 0) t) := by
    have : ∀ {vs : List Value} {ms : List Int}, IntsAre vs ms → ∀ j, j < ms.length → ∃ t, vs[j]? = some (.int (ms.getD j 0) t) := fun {vs ms} hh => by
      induction hh with
      | nil => intro j hj; cases hj
      | cons a t r ih =>
        intro j hj
        cases j with
        | zero => exact ⟨_, rfl⟩
        | succ j => simpa using ih j (by simpa using hj)
    exact this hi _ (by lia)
  obtain ⟨t, ht⟩ := hget
  exact tail_any (T := "list") (id := "list.__getitem__") ⟨_, ho, hc⟩ slot_list_getitem.lookup (getItem_listL hL k0 (by lia) ht (p W2 _ σ2 _ s2 (h1.trans h3) (h2.trans h4) q3 (.int _ _) st2)) (hs _ _)
end
end Mine
end
section
set_option Elab.async false
set_option linter.all false
set_option maxRecDepth 100000
set_option genSizeOf false
set_option genInjectivity false
namespace Mine
open PySem PySem.W PySem.Calls PyProof.Rows

section
variable {G : Gl} {F : Fx} {ρ : Loc} {σ : MH} {X : MX → MH → Prop} {Q : MFlow → Loc → MH → Prop} {rest : List Stmt}

theorem pv_call {id : Str} {np pos : Pos} {args : List Expr} {fv : Value} {vs : List MV} {v : MV} (hn : PV G F ρ σ (.Name id np) (.raw fv)) (ha : PA G F ρ σ args vs) (hp : PC G F.n fv vs σ v) (hk : keepsG G.K fv = true) (hall : args.all notStar = true) (hd : F.hd = false) :
    PV G F ρ σ (.Call (.Name id np) args [] pos) v := fun Q X q => he_call (hn _ X ⟨fv, rfl, hk, ha_pa ha (hp Q X q)⟩) hall hd
theorem he_callp {id : Str} {np pos : Pos} {args : List Expr} {fv : Value} {vs : List MV} {Q : MV → MH → Prop} (hn : PV G F ρ σ (.Name id np) (.raw fv)) (ha : PA G F ρ σ args vs) (hp : HC G F.n fv vs σ Q X) (hk : keepsG G.K fv = true) (hall : args.all notStar = true) (hd : F.hd = false) :
    HE G F ρ σ (.Call (.Name id np) args [] pos) Q X := he_call (hn _ X ⟨fv, rfl, hk, ha_pa ha hp⟩) hall hd
/-- args that are not plain -/
theorem he_calla {id : Str} {np pos : Pos} {args : List Expr} {fv : Value} {Q : MV → MH → Prop} (hn : PV G F ρ σ (.Name id np) (.raw fv)) (ha : HA G F ρ σ args (fun vs σ1 => HC G F.n fv vs σ1 Q X) X) (hk : keepsG G.K fv = true) (hall : args.all notStar = true) (hd : F.hd = false) :
    HE G F ρ σ (.Call (.Name id np) args [] pos) Q X := he_call (hn _ X ⟨fv, rfl, hk, ha⟩) hall hd
theorem he_methp {o : Expr} {name : Str} {apos pos : Pos} {args : List Expr} {i c j kvs f vs} {Q : MV → MH → Prop} (ho : PV G F ρ σ o (.loc i)) (I : IsInst σ i c j kvs) (hm : methOk G.K c name f = true) (hk : name ∉ kvs.map (·.1)) (ha : PA G F ρ σ args vs)
    (h : HC G F.n (.ref f) (.loc i :: vs) σ Q X) (ht : MethTree o name apos pos args) (hall : args.all notStar = true) (hd : F.hd = false) : HE G F ρ σ (.Call (.Attribute o name apos) args [] pos) Q X :=
  he_meth (ho _ X ⟨i, c, j, kvs, f, rfl, I, hm, hk, ha_pa ha h⟩) ht hall hd
theorem he_appendp {o e : Expr} {apos pos : Pos} {l xs v} {Q : MV → MH → Prop} (ho : PV G F ρ σ o (.loc l)) (he : PV G F ρ σ e v) (hl : σ l = some (.list xs)) (hz : xs.length < 65536) (q : Q .none (upd σ l (.list (xs ++ [v])))) (ht : MethTree o "append" apos pos [e]) (ha : notStar e = true) :
    HE G F ρ σ (.Call (.Attribute o "append" apos) [e] [] pos) Q X := he_append (ho _ X ⟨l, rfl, ⟨xs, hl⟩, he _ X ⟨xs, hl, hz, q⟩⟩) ht ha

/-! statements, the rest behind them -/
theorem hs_ret {e pos} (h : HE G F ρ σ e (fun x σ1 => Q (.ret x) ρ σ1) X) : HS G F ρ σ (.Return (some e) pos :: rest) Q X := hs_cons (hx_ret h)
theorem hs_retp {e pos v} (h : PV G F ρ σ e v) (q : Q (.ret v) ρ σ) : HS G F ρ σ (.Return (some e) pos :: rest) Q X := hs_ret (h _ X q)
theorem hs_ret0 {pos} (q : Q (.ret .none) ρ σ) : HS G F ρ σ (.Return none pos :: rest) Q X := hs_cons (hx_ret0 q)
theorem hs_brk {pos} (q : Q .brk ρ σ) : HS G F ρ σ (.Break pos :: rest) Q X := hs_cons (hx_brk q)
theorem hs_if {t b o pos} (h : HB G F ρ σ t (fun c σ1 => (c = true → HS G F ρ σ1 b (Nx G F rest Q X) X) ∧ (c = false → HS G F ρ σ1 o (Nx G F rest Q X) X)) X) : HS G F ρ σ (.If t b o pos :: rest) Q X := hs_cons (hx_if h)
theorem hs_ifp {t b o pos c} (h : PB G F ρ σ t c) (h1 : c = true → HS G F ρ σ b (Nx G F rest Q X) X) (h2 : c = false → HS G F ρ σ o (Nx G F rest Q X) X) : HS G F ρ σ (.If t b o pos :: rest) Q X := hs_if (h _ X ⟨h1, h2⟩)
theorem hs_endN {ρ' σ'} (h : HS G F ρ' σ' rest Q X) : HS G F ρ' σ' [] (Nx G F rest Q X) X := hs_nil h
theorem hs_assign {x np e pos} (h : HE G F ρ σ e (fun v σ1 => ∃ ρ', LPut x v ρ ρ' ∧ HS G F ρ' σ1 rest Q X) X) (hs : ∀ env, swapsWith e (some (.Name x np)) pos.line env = pure false) : HS G F ρ σ (.Assign [.Name x np] e pos :: rest) Q X := hs_cons (hx_assign h hs)
theorem hs_assignp {x np e pos v ρ'} (h : PV G F ρ σ e v) (hp : LPut x v ρ ρ') (k : HS G F ρ' σ rest Q X) (hs : ∀ env, swapsWith e (some (.Name x np)) pos.line env = pure false) : HS G F ρ σ (.Assign [.Name x np] e pos :: rest) Q X := hs_assign (h _ X ⟨ρ', hp, k⟩) hs
theorem hs_setattr {o name ap e pos} (h : HE G F ρ σ e (fun mv σ1 => HE G F ρ σ1 o (fun x σ2 => ∃ i c j kvs kvs', x = .loc i ∧ IsInst σ2 i c j kvs ∧ setOk G.K c name = true ∧ APut name mv kvs kvs' ∧ HS G F ρ (upd σ2 j (.ns kvs')) rest Q X) X) X)
    (hs : ∀ env, swapsWith e (some (.Attribute o name ap)) pos.line env = pure false) : HS G F ρ σ (.Assign [.Attribute o name ap] e pos :: rest) Q X := hs_cons (hx_setattr h hs)
theorem hs_setattrp {o name ap e pos v i c j kvs kvs'} (h : PV G F ρ σ e v) (ho : PV G F ρ σ o (.loc i)) (I : IsInst σ i c j kvs) (hk : setOk G.K c name = true) (hp : APut name v kvs kvs') (k : HS G F ρ (upd σ j (.ns kvs')) rest Q X)
    (hs : ∀ env, swapsWith e (some (.Attribute o name ap)) pos.line env = pure false) : HS G F ρ σ (.Assign [.Attribute o name ap] e pos :: rest) Q X := hs_setattr (h _ X (ho _ X ⟨i, c, j, kvs, kvs', rfl, I, hk, hp, k⟩)) hs
theorem hs_setattr1 {o name ap e pos} (h : HE G F ρ σ e (fun mv σ1 => ∃ i c j kvs kvs', PV G F ρ σ1 o (.loc i) ∧ IsInst σ1 i c j kvs ∧ setOk G.K c name = true ∧ APut name mv kvs kvs' ∧ HS G F ρ (upd σ1 j (.ns kvs')) rest Q X) X)
    (hs : ∀ env, swapsWith e (some (.Attribute o name ap)) pos.line env = pure false) : HS G F ρ σ (.Assign [.Attribute o name ap] e pos :: rest) Q X :=
  hs_setattr (HT.weaken h (fun mv σ1 q => by obtain ⟨i, c, j, kvs, kvs', ho, q⟩ := q; exact ho _ X ⟨i, c, j, kvs, kvs', rfl, q⟩) fun _ _ z => z) hs
theorem hs_setitem {o i ip e pos} (h : HE G F ρ σ e (fun mv σ1 => HE G F ρ σ1 o (fun x σ2 => HE G F ρ σ2 i (fun y σ3 => ∃ σ4, ISet σ3 mv x y σ4 ∧ HS G F ρ σ4 rest Q X) X) X) X)
    (hs : ∀ env, swapsWith e (some (.Subscript o i ip)) pos.line env = pure false) : HS G F ρ σ (.Assign [.Subscript o i ip] e pos :: rest) Q X := hs_cons (hx_setitem h hs)
theorem hs_setitemp {o i ip e pos v x y σ4} (h : PV G F ρ σ e v) (ho : PV G F ρ σ o x) (hi : PV G F ρ σ i y) (hset : ISet σ v x y σ4) (k : HS G F ρ σ4 rest Q X) (hs : ∀ env, swapsWith e (some (.Subscript o i ip)) pos.line env = pure false) : HS G F ρ σ (.Assign [.Subscript o i ip] e pos :: rest) Q X :=
  hs_setitem (h _ X (ho _ X (hi _ X ⟨σ4, hset, k⟩))) hs
theorem hs_expr {e pos} (h : HE G F ρ σ e (fun x σ1 => x = .none ∧ HS G F ρ σ1 rest Q X) X) (hi : ∀ env : Env, env.scope.kind = .function → interactive env = false) (hs : ∀ env, swapsWith e none pos.line env = pure false) : HS G F ρ σ (.Expr e pos :: rest) Q X := hs_cons (hx_expr h hi hs)
theorem hs_raise {id : Str} {np cpos pos : Pos} {arg : Expr} {cx fI : Addr} (hn : PV G F ρ σ (.Name id np) (.raw (.ref cx))) (hX : XCls G.K cx fI) (hI : XInit G fI) (hk : keepsG G.K (.ref cx) = true)
    (h : HE G F ρ σ arg (fun v σ1 => X ⟨cx, v⟩ σ1) X) (ha : notStar arg = true) (ht : F.tr = false) (hd : F.hd = false) (hr : 3 ≤ F.n) : HS G F ρ σ (.Raise (some (.Call (.Name id np) [arg] [] cpos)) none pos :: rest) Q X := hs_cons (hx_raise hn hX hI hk h ha ht hd hr)
theorem hs_swap {es k tpos value pos} {names : List Str} (h : HE G F ρ σ value (fun v σ1 => ∃ ms ρ', v = .tup ms ∧ ms.length = names.length ∧ NPuts names.reverse ms.reverse ρ ρ' ∧ HS G F ρ' σ1 rest Q X) X) (hd : F.hd = false)
    (hs : ∀ C : Cx, swapsWithSole [.Tuple es k tpos] value pos.line (C.env F) = pure false) (hw : ∀ C : Cx, swappedStores [.Tuple es k tpos] value (C.env F) = pure (some names)) : HS G F ρ σ (.Assign [.Tuple es k tpos] value pos :: rest) Q X := hs_cons (hx_swap h hd hs hw)
theorem hs_tuple {es k tpos value pos} (h : HE G F ρ σ value (fun v σ1 => ∃ ms ρ' σ2, v = .tup ms ∧ SPut G F es ms ρ σ1 ρ' σ2 ∧ HS G F ρ' σ2 rest Q X) X) (hd : F.hd = false)
    (hs : ∀ C : Cx, swapsWithSole [.Tuple es k tpos] value pos.line (C.env F) = pure false) (hw : ∀ C : Cx, swappedStores [.Tuple es k tpos] value (C.env F) = pure none) : HS G F ρ σ (.Assign [.Tuple es k tpos] value pos :: rest) Q X := hs_cons (hx_tuple h hd hs hw)
theorem hs_for {tgt iter : Expr} {body : List Stmt} {pos : Pos}
    (h : HI G F ρ σ iter tgt (fun xs J σ1 => ∃ I : Nat → Loc → MH → Prop, I 0 ρ σ1 ∧ (∀ i ρ' σ', I i ρ' σ' → J σ') ∧
      (∀ i x ρ' σ', xs[i]? = some x → I i ρ' σ' → ∃ ρ'', TPut tgt x ρ' ρ'' ∧ HS G F ρ'' σ' body (fun fl ρ2 σ2 => match fl with | .next | .cont => I (i + 1) ρ2 σ2 | .brk => HS G F ρ2 σ2 rest Q X | .ret v => Q (.ret v) ρ2 σ2) X) ∧
      (∀ ρ' σ', I xs.length ρ' σ' → HS G F ρ' σ' rest Q X)) X)
    (hs : ∀ env x, foldedSetIterable iter env x = pure x) (ht : F.tr = false) (hd : F.hd = false) : HS G F ρ σ (.For tgt iter body [] pos :: rest) Q X := by
  refine hs_cons (hx_for (Q := Nx G F rest Q X) ?_ hs ht hd)
  intro C W s QQ EE st eo hh p px
  refine h C W s QQ EE st eo hh (fun W' xs J own σ' it o s' h1 h2 h3 h4 h5 h6 h7 => p W' xs J own σ' it o s' h1 h2 ?_ h4 h5 h6 h7) px
  obtain ⟨I, i0, i1, i2, i3⟩ := h3
  refine ⟨I, i0, i1, fun i x ρ' σ' hx hI => ?_, i3⟩
  obtain ⟨ρ'', a, b⟩ := i2 i x ρ' σ' hx hI
  refine ⟨ρ'', a, fun C2 W2 s2 Q2 E2 st2 eo2 p2 px2 => b C2 W2 s2 Q2 E2 st2 eo2 (fun W3 fl ρ3 σ3 f s3 c1 c2 c3 c4 c5 => p2 W3 fl ρ3 σ3 f s3 c1 c2 ?_ c4 c5) px2⟩
  cases fl <;> exact c3
theorem hs_while {test : Expr} {body : List Stmt} {pos : Pos} (I : Nat → Loc → MH → Prop) (n : Nat) (h0 : I n ρ σ)
    (step : ∀ n ρ' σ', I n ρ' σ' → HB G F ρ' σ' test (fun b σ1 => (b = true → HS G F ρ' σ1 body (fun fl ρ2 σ2 => match fl with | .next | .cont => ∃ m, m < n ∧ I m ρ2 σ2 | .brk => HS G F ρ2 σ2 rest Q X | .ret v => Q (.ret v) ρ2 σ2) X) ∧ (b = false → HS G F ρ' σ1 rest Q X)) X)
    (ht : F.tr = false) : HS G F ρ σ (.While test body [] pos :: rest) Q X := by
  refine hs_cons (hx_while (Q := Nx G F rest Q X) I n h0 (fun n ρ' σ' hI => ?_) ht)
  refine HT.weaken (step n ρ' σ' hI) (fun b σ1 h => ⟨fun hb => ?_, h.2⟩) fun _ _ z => z
  intro C2 W2 s2 Q2 E2 st2 eo2 p2 px2
  refine h.1 hb C2 W2 s2 Q2 E2 st2 eo2 (fun W3 fl ρ3 σ3 f s3 c1 c2 c3 c4 c5 => p2 W3 fl ρ3 σ3 f s3 c1 c2 ?_ c4 c5) px2
  cases fl <;> exact c3

/-! memory facts -/
noncomputable def Kp (S : List Nat) (σ σ' : MH) : Prop := ∀ i o, i ∉ S → σ i = some o → σ' i = some o
theorem Kp.refl (S σ) : Kp S σ σ := fun _ _ _ h => h
theorem Kp.trans {S σ σ' σ''} (a : Kp S σ σ') (b : Kp S σ' σ'') : Kp S σ σ'' := fun i o hi h => b i o hi (a i o hi h)
theorem Kp.sub {S S' σ σ'} (a : Kp S σ σ') (h : ∀ i ∈ S, i ∈ S') : Kp S' σ σ' := fun i o hi => a i o fun z => hi (h i z)
theorem Kp.upd {S σ i o} (h : i ∈ S) : Kp S σ (upd σ i o) := fun j o' hj e => upd_get (fun z => hj (z ▸ h)) e
theorem Kp.new {S σ i o} (h : σ i = none) : Kp S σ (Mine.upd σ i o) := fun j o' hj e => upd_get (fun z => by rw [z, h] at e; cases e) e
theorem ne_fresh {σ : MH} {a b : Nat} {o : MObj} (h : σ a = none) (e : σ b = some o) : a ≠ b := fun z => by rw [z, e] at h; cases h
end
end Mine
end
section
set_option Elab.async false
set_option linter.all false
set_option maxRecDepth 100000
set_option genSizeOf false
set_option genInjectivity false
namespace Mine
open PySem PySem.W PySem.Calls PyProof.Rows

inductive L0 : List (Str × MV) → List Str → Loc → Prop
  | nil : L0 [] [] []
  | oth {x os ρ} : L0 [] os ρ → L0 [] (x :: os) ((x, none) :: ρ)
  | bind {x v bs os ρ} : L0 bs os ρ → L0 ((x, v) :: bs) os ((x, some v) :: ρ)
theorem L0.eq {bs os ρ} (q : L0 bs os ρ) : loc0 bs os = ρ := by
  induction q with
  | nil => rfl
  | oth _ ih => simp [loc0] at ih ⊢; exact ih
  | bind _ ih => simp [loc0] at ih ⊢; exact ih

inductive Nm : Loc → List Str → Prop
  | nil : Nm [] []
  | cons {x v ρ ns} : Nm ρ ns → Nm ((x, v) :: ρ) (x :: ns)
theorem Nm.eq {ρ ns} (q : Nm ρ ns) : ρ.map (·.1) = ns := by
  induction q with
  | nil => rfl
  | cons _ ih => simp [ih]
theorem vreps0 {W av} (h : VReps W [] av) : av = [] := by cases h; rfl
theorem vreps1 {W a av} (h : VReps W [a] av) : ∃ v, av = [v] ∧ VRep W a v := by cases h with | cons x h => cases h; exact ⟨_, rfl, x⟩
theorem vreps2 {W a b av} (h : VReps W [a, b] av) : ∃ v u, av = [v, u] ∧ VRep W a v ∧ VRep W b u := by cases h with | cons x h => obtain ⟨u, rfl, y⟩ := vreps1 h; exact ⟨_, _, rfl, x, y⟩
theorem vreps3 {W a b c av} (h : VReps W [a, b, c] av) : ∃ v u t, av = [v, u, t] ∧ VRep W a v ∧ VRep W b u ∧ VRep W c t := by cases h with | cons x h => obtain ⟨u, t, rfl, y, z⟩ := vreps2 h; exact ⟨_, _, _, rfl, x, y, z⟩
theorem vreps4 {W a b c d av} (h : VReps W [a, b, c, d] av) : ∃ v u t r, av = [v, u, t, r] ∧ VRep W a v ∧ VRep W b u ∧ VRep W c t ∧ VRep W d r := by cases h with | cons x h => obtain ⟨u, t, r, rfl, y⟩ := vreps3 h; exact ⟨_, _, _, _, rfl, x, y⟩
theorem vreps5 {W a b c d e av} (h : VReps W [a, b, c, d, e] av) : ∃ v u t r q, av = [v, u, t, r, q] ∧ VRep W a v ∧ VRep W b u ∧ VRep W c t ∧ VRep W d r ∧ VRep W e q := by cases h with | cons x h => obtain ⟨u, t, r, q, rfl, y⟩ := vreps4 h; exact ⟨_, _, _, _, _, rfl, x, y⟩

noncomputable def kindOk (scope : Scope) (names : List Str) : Bool := names.all fun x => scope.names.lookup x == some .local && !(x == ("__debug__" : Str))
noncomputable def noCell (scope : Scope) : Bool := scope.names.all fun x => match x.2 with | .cell => false | _ => true

/-- the body's end, as the caller hears it -/
noncomputable def ends (Q : MV → MH → Prop) : MFlow → Loc → MH → Prop := fun fl _ σ' => match fl with | .ret v => Q v σ' | .next => Q .none σ' | _ => False

theorem fn_def {G : Gl} {f : Addr} {name qual : Str} {params : Arguments} {body : List Stmt} {scope : Scope} {dV kV doc pm cdv ct oc : Value} {an od : Option Addr} {osl : Array (Option Value)} {n : Nat} {vs : List MV} {σ : MH} {Q : MV → MH → Prop} {X : MX → MH → Prop} (binds : List (Str × MV)) (others : List Str) {ρ0 : Loc} {names : List Str}
    (ho : G.K.lookup f = some ⟨oc, od, .func (fnOf name qual params body scope dV kV doc pm an cdv ct), osl⟩) (hcd : codeIn G.K cdv qual = true)
    (hb : ∀ (W : Wd) (s : Shared) av, G.K.In s.heap → VReps W vs av → ∃ bv, BindsTo s (fnOf name qual params body scope dV kV doc pm an cdv ct) ⟨av, []⟩ bv ∧ BReps W binds bv)
    (h0 : L0 binds others ρ0) (hn' : Nm ρ0 names) (hnd : names.Nodup) (hloc : kindOk scope names = true)
    (hco : scope.isCoroutine = false) (hgen : scope.isGenerator = false) (hk : scope.kind = .function) (hcell : noCell scope = true)
    (h : HS G ⟨qual, scope, n, false, false, false, [], []⟩ ρ0 σ body (ends Q) X) : HCc G (n + 1) (.ref f) vs σ Q X := by
  have e := h0.eq
  have hn := hn'.eq
  refine hcc_def (binds := binds) (others := others) ho hcd hb (by rw [e, hn]; exact hnd) (fun p hp => ?_) hco hgen hk (fun x hx => ?_) (by rw [e]; exact h)
  · rw [e] at hp
    have hp1 : p.1 ∈ names := hn ▸ List.mem_map_of_mem hp
    have := List.all_eq_true.mp hloc p.1 hp1
    simp only [Bool.and_eq_true, beq_iff_eq, Bool.not_eq_true'] at this
    exact this
  · have := List.all_eq_true.mp hcell x hx
    intro z
    rw [z] at this; cases this

theorem PC.of {G n f vs σ v} (h : ∀ (Q : MV → MH → Prop) (X : MX → MH → Prop), Q v σ → HCc G n f vs σ Q X) : PC G n f vs σ v := fun Q X q => (h Q X q).hc
theorem bool_and_eq {a b : Bool} : (a && b) = (a && b) := rfl
end Mine
end
section
set_option Elab.async false
set_option linter.all false
set_option genSizeOf false
set_option genInjectivity false
namespace Mine
open PySem

/-! what the codec computes, in plain Lean -/
abbrev mvo : Option Int → MV
  | none => .none
  | some i => .int i
noncomputable def isCode (i : Int) : Bool := decide (0 ≤ i) && decide (i ≤ 1114111)
noncomputable def isHigh (i : Int) : Bool := decide (55296 ≤ i) && decide (i ≤ 56319)
noncomputable def isLow (i : Int) : Bool := decide (56320 ≤ i) && decide (i ≤ 57343)
noncomputable def isSurr (i : Int) : Bool := decide (55296 ≤ i) && decide (i ≤ 57343)
noncomputable def isScalar (i : Int) : Bool := isCode i && !isSurr i
noncomputable def statics : List Int := [0, 128, 256, 768, 8192, 8320, 8448, 12288]
noncomputable def firsts : List Int := [128, 192, 1024, 1536, 2304, 12352, 12448, 65280]
noncomputable def specials : List Int := [192, 592, 880, 1328, 12352, 12448, 65376]
noncomputable def winStart (i : Int) : Option Int :=
  if (decide (1 ≤ i) && decide (i < 104)) = true then some (i * 128)
  else if (decide (104 ≤ i) && decide (i ≤ 167)) = true then some (i * 128 + 44032)
  else if decide (249 ≤ i) = true then some (specials.getD (i - 249).toNat 0)
  else none
noncomputable def narrowLen (o : Int) : Int :=
  if (decide (o = 11) || decide (o = 14)) = true then 3
  else if ((decide (1 ≤ o) && decide (o < 1 + 8)) || (decide (24 ≤ o) && decide (o < 24 + 8))) = true then 2 else 1
noncomputable def wideLen (o : Int) : Int :=
  if (decide (o = 240) || decide (o = 241)) = true then 3
  else if ((decide (224 ≤ o) && decide (o < 232)) || decide (o = 242)) = true then 1 else 2

structure RdV where
  starts : List Int
  active : Int
  wide : Bool
  rest : List UInt8
  gone : Int
  high : Option Int
  highAt : Int
  found : List Int

/-- the error's offset, or the state -/
abbrev RRes := Except Int RdV
noncomputable def RdV.putCode (v : RdV) (c : Int) : RRes := if v.high.isSome = true then .error v.highAt else .ok { v with found := v.found ++ [c] }
noncomputable def RdV.putUnit (v : RdV) (u : Int) : RRes :=
  if (isLow u && v.high.isSome) = true then .ok { v with high := none, found := v.found ++ [65536 + (v.high.getD 0 - 55296) * 1024 + u - 56320] }
  else if (isHigh u && !v.high.isSome) = true then .ok { v with high := some u, highAt := v.gone }
  else if (isHigh u || isLow u) = true then .error (if (!v.high.isSome) = true then v.gone else v.highAt)
  else v.putCode u
noncomputable def RdV.change (v : RdV) (n : Int) : RdV := { v with active := n, wide := false }
noncomputable def RdV.move (v : RdV) (n : Int) (st : Option Int) : RRes := match st with
  | none => .error v.gone
  | some s => .ok ({ v with starts := v.starts.set n.toNat s }.change n)
noncomputable def RdV.moveFar (v : RdV) (hi lo : Int) : RRes := v.move (hi / 32) (some (65536 + (hi % 32 * 256 + lo) * 128))
noncomputable def RdV.quoted (v : RdV) (n o : Int) : Int := if decide (o < 128) = true then statics.getD n.toNat 0 + o else v.starts.getD n.toNat 0 + o - 128
noncomputable def u8 (b : List UInt8) (i : Nat) : Int := ((b.getD i 0).toNat : Int)
noncomputable def RdV.takeNarrow (v : RdV) (c : List UInt8) : RRes :=
  let o := u8 c 0
  if decide (128 ≤ o) = true then v.putCode (v.starts.getD v.active.toNat 0 + o - 128)
  else if (decide (32 ≤ o) || [0, 9, 10, 13].contains o) = true then v.putCode o
  else if decide (24 ≤ o) = true then v.move (o - 24) (winStart (u8 c 1))
  else if decide (16 ≤ o) = true then .ok (v.change (o - 16))
  else if decide (o = 15) = true then .ok { v with wide := true }
  else if decide (o = 14) = true then v.putUnit (u8 c 1 * 256 + u8 c 2)
  else if decide (o = 11) = true then v.moveFar (u8 c 1) (u8 c 2)
  else if decide (o = 12) = true then .error v.gone
  else v.putCode (v.quoted (o - 1) (u8 c 1))
noncomputable def RdV.takeWide (v : RdV) (c : List UInt8) : RRes :=
  let o := u8 c 0
  if decide (o = 242) = true then .error v.gone
  else if decide (o = 240) = true then v.putUnit (u8 c 1 * 256 + u8 c 2)
  else if decide (o = 241) = true then v.moveFar (u8 c 1) (u8 c 2)
  else if (decide (224 ≤ o) && decide (o < 232)) = true then .ok (v.change (o - 224))
  else if (decide (232 ≤ o) && decide (o < 240)) = true then v.move (o - 232) (winStart (u8 c 1))
  else v.putUnit (o * 256 + u8 c 1)
/-- one command's length -/
noncomputable def RdV.len (v : RdV) (o : Int) : Int := if v.wide = true then wideLen o else narrowLen o
noncomputable def RdV.take (v : RdV) (c : List UInt8) : RRes := if v.wide = true then v.takeWide c else v.takeNarrow c
/-- the loop of feed: what is left and the state; fuel bounds the turns -/
noncomputable def RdV.run (fuel : Nat) (v : RdV) (b : List UInt8) : Except Int (RdV × List UInt8) := match fuel with
  | 0 => .ok (v, b)
  | fuel + 1 => match b with
    | [] => .ok (v, [])
    | o :: _ =>
      let n := (v.len (o.toNat : Int)).toNat
      if b.length < n then .ok (v, b)
      else match v.take (b.take n) with
        | .error e => .error e
        | .ok v' => ({ v' with gone := v'.gone + n } : RdV).run fuel (b.drop n)
noncomputable def RdV.new : RdV := { starts := firsts, active := 0, wide := false, rest := [], gone := 0, high := none, highAt := 0, found := [] }
noncomputable def RdV.feed (v : RdV) (b : List UInt8) : RRes :=
  match ({ v with found := [] } : RdV).run (v.rest ++ b).length (v.rest ++ b) with
  | .error e => .error e
  | .ok (v', r) => .ok { v' with rest := r }
noncomputable def RdV.finish (v : RdV) : Option Int := if v.high.isSome = true then some v.highAt else if v.rest != [] then some v.gone else none
end Mine
end
section
set_option Elab.async false
set_option linter.all false
set_option maxRecDepth 100000
set_option genSizeOf false
set_option genInjectivity false
namespace Mine
open PySem PySem.W PySem.Calls PyProof.Rows

section
variable {G : Gl} {F : Fx} {ρ : Loc} {σ : MH} {X : MX → MH → Prop}
theorem pv_tuple {es k pos vs} (h : PA G F ρ σ es vs) (hz : vs.length ≤ 1000) : PV G F ρ σ (.Tuple es k pos) (.tup vs) := fun Q X q => he_tuple (ha_pa h ⟨hz, q⟩)
theorem pb_and1 {x pos c} (h : PB G F ρ σ x c) : PB G F ρ σ (.BoolOp .And [x] pos) c := by
  have := pb_and (pos := pos) h (fun _ => pb_and_nil (pos := pos)); rwa [Bool.and_true] at this
theorem pb_or1 {x pos c} (h : PB G F ρ σ x c) : PB G F ρ σ (.BoolOp .Or [x] pos) c := by
  have := pb_or (pos := pos) h (fun _ => pb_or_nil (pos := pos)); rwa [Bool.or_false] at this
theorem pb_and2 {x y r pos b c} (h : PB G F ρ σ x b) (h2 : b = true → PB G F ρ σ (.BoolOp .And (y :: r) pos) c) : PB G F ρ σ (.BoolOp .And (x :: y :: r) pos) (b && c) := pb_and h h2
theorem pb_or2 {x y r pos b c} (h : PB G F ρ σ x b) (h2 : b = false → PB G F ρ σ (.BoolOp .Or (y :: r) pos) c) : PB G F ρ σ (.BoolOp .Or (x :: y :: r) pos) (b || c) := pb_or h h2
theorem cmp_in2 (a b c : Int) : Cmp σ .In (.int a) (.tup [.int b, .int c]) (decide (a = b) || decide (a = c)) := by
  have := Cmp.inT (σ := σ) a [b, c]
  have e : [b, c].contains a = (decide (a = b) || decide (a = c)) := by
    rw [List.contains_cons, List.contains_cons, List.contains_nil, Bool.or_false]
    congr 1 <;> (rw [Bool.eq_iff_iff]; simp)
  rw [e] at this; exact this
theorem cmp_isNo (o : Option Int) : Cmp σ .Is (mvo o) .none (!o.isSome) := by cases o with | none => exact .isN rfl | some i => exact .isN (x := .int i) rfl
theorem cmp_notNo (o : Option Int) : Cmp σ .IsNot (mvo o) .none o.isSome := by cases o with | none => exact .notN rfl | some i => exact .notN (x := .int i) rfl
theorem cmp_isN (i : Int) : Cmp σ .Is .none .none true := .isN rfl
theorem cmp_isI (i : Int) : Cmp σ .Is (.int i) .none false := .isN rfl
theorem cmp_notI (i : Int) : Cmp σ .IsNot (.int i) .none true := .notN rfl
theorem cmp_notNone : Cmp σ .IsNot .none .none false := .notN rfl
theorem sub_ints {l : Nat} {ns : List Int} {k : Int} (h : σ l = some (.list (ns.map MV.int))) (h0 : 0 ≤ k) (hk : k < ns.length) : Sub σ (.loc l) (.int k) (.int (ns.getD k.toNat 0)) := by
  refine .list h h0 ?_
  have : k.toNat < ns.length := by lia
  rw [List.getElem?_map, List.getElem?_eq_getElem this]
  simp [List.getD, List.getElem?_eq_getElem this]
theorem sub_bytes {b : List UInt8} {k : Int} (h0 : 0 ≤ k) (hk : k < b.length) (hz : b.length ≤ 1000000) : Sub σ (.bytes b) (.int k) (.int (u8 b k.toNat)) := .bytes h0 hk hz
theorem u8_lo (b : List UInt8) (i : Nat) : 0 ≤ u8 b i := by unfold u8; lia
theorem u8_hi (b : List UInt8) (i : Nat) : u8 b i < 256 := by unfold u8; have := (b.getD i 0).toNat_lt; lia
end
end Mine
end
section
set_option Elab.async false
set_option linter.all false
set_option maxRecDepth 100000
set_option genSizeOf false
set_option genInjectivity false
namespace Mine
open PySem PySem.W PySem.Calls PyProof.Rows

section
variable {G : Gl} {F : Fx} {ρ : Loc} {σ : MH} {X : MX → MH → Prop} {Q : MFlow → Loc → MH → Prop} {rest : List Stmt}

inductive PAI (G : Gl) (F : Fx) (ρ : Loc) (σ : MH) : List Expr → List Int → Prop
  | nil : PAI G F ρ σ [] []
  | cons {e i es is} : PV G F ρ σ e (.int i) → notStar e = true → PAI G F ρ σ es is → PAI G F ρ σ (e :: es) (i :: is)
theorem PAI.pa {es is} (h : PAI G F ρ σ es is) : PA G F ρ σ es (is.map MV.int) := by
  induction h with
  | nil => exact .nil
  | cons a b _ ih => exact .cons a b ih

noncomputable def notKey (name : Str) (kvs : List (Str × MV)) : Bool := kvs.all fun p => !(p.1 == name)
theorem notKey_mem {name : Str} {kvs : List (Str × MV)} (h : notKey name kvs = true) : name ∉ kvs.map (·.1) := fun z => by
  obtain ⟨p, hp, e⟩ := List.mem_map.mp z
  have := List.all_eq_true.mp h p hp
  rw [e] at this
  simp at this
theorem aput_new {x mv} {k : List (Str × MV)} (h : notKey x k = true) (hl : k.length < 60) : APut x mv k (k ++ [(x, mv)]) := .new (notKey_mem h) hl

theorem hs_appendp {o e : Expr} {apos pos epos : Pos} {l xs v} (ho : PV G F ρ σ o (.loc l)) (he : PV G F ρ σ e v) (hl : σ l = some (.list xs)) (hz : xs.length < 65536) (k : HS G F ρ (upd σ l (.list (xs ++ [v]))) rest Q X) (ht : MethTree o "append" apos pos [e]) (ha : notStar e = true)
    (hi : ∀ env : Env, env.scope.kind = .function → interactive env = false) (hs : ∀ env, swapsWith (.Call (.Attribute o "append" apos) [e] [] pos) none epos.line env = pure false) : HS G F ρ σ (.Expr (.Call (.Attribute o "append" apos) [e] [] pos) epos :: rest) Q X :=
  hs_expr (he_appendp ho he hl hz ⟨rfl, k⟩ ht ha) hi hs
theorem hs_append_int {o e : Expr} {apos pos epos : Pos} {l} {ns : List Int} {c : Int} (ho : PV G F ρ σ o (.loc l)) (he : PV G F ρ σ e (.int c)) (hl : σ l = some (.list (ns.map MV.int))) (hz : ns.length < 65536) (k : HS G F ρ (upd σ l (.list ((ns ++ [c]).map MV.int))) rest Q X) (ht : MethTree o "append" apos pos [e]) (ha : notStar e = true)
    (hi : ∀ env : Env, env.scope.kind = .function → interactive env = false) (hs : ∀ env, swapsWith (.Call (.Attribute o "append" apos) [e] [] pos) none epos.line env = pure false) : HS G F ρ σ (.Expr (.Call (.Attribute o "append" apos) [e] [] pos) epos :: rest) Q X :=
  hs_appendp ho he hl (by simpa using hz) (by rw [List.map_append] at k; exact k) ht ha hi hs
theorem he_list_int {es pos} {ns : List Int} {Q : MV → MH → Prop} (h : PAI G F ρ σ es ns) (hz : ns.length ≤ 65536) (q : ∀ l, σ l = none → Q (.loc l) (upd σ l (.list (ns.map MV.int)))) : HE G F ρ σ (.List es pos) Q X := he_list (ha_pa h.pa ⟨by simpa using hz, q⟩)
theorem hs_extend_int {o : Expr} {es : List Expr} {apos pos epos lpos : Pos} {l} {ns cs : List Int} (ho : PV G F ρ σ o (.loc l)) (hl : σ l = some (.list (ns.map MV.int))) (h : PAI G F ρ σ es cs) (hz : ns.length + cs.length ≤ 65536)
    (k : ∀ l2, σ l2 = none → HS G F ρ (upd (upd σ l2 (.list (cs.map MV.int))) l (.list ((ns ++ cs).map MV.int))) rest Q X) (ht : MethTree o "extend" apos pos [.List es lpos])
    (hi : ∀ env : Env, env.scope.kind = .function → interactive env = false) (hs : ∀ env, swapsWith (.Call (.Attribute o "extend" apos) [.List es lpos] [] pos) none epos.line env = pure false) : HS G F ρ σ (.Expr (.Call (.Attribute o "extend" apos) [.List es lpos] [] pos) epos :: rest) Q X := by
  refine hs_expr (he_extend (ho _ X ⟨l, rfl, ⟨_, hl⟩, he_list_int h (by lia) fun l2 h2 => ⟨l2, ns.map MV.int, cs.map MV.int, rfl, upd_get (ne_fresh h2 hl).symm hl, upd_same, ne_fresh h2 hl, by simpa using hz, rfl, ?_⟩⟩) ht rfl) hi hs
  have := k l2 h2
  rw [List.map_append] at this
  exact this
theorem hs_methp {o : Expr} {name : Str} {apos pos epos : Pos} {args : List Expr} {i c j kvs f vs} (ho : PV G F ρ σ o (.loc i)) (I : IsInst σ i c j kvs) (hm : methOk G.K c name f = true) (hk : notKey name kvs = true) (ha : PA G F ρ σ args vs)
    (h : HC G F.n (.ref f) (.loc i :: vs) σ (fun x σ1 => x = .none ∧ HS G F ρ σ1 rest Q X) X) (ht : MethTree o name apos pos args) (hall : args.all notStar = true) (hd : F.hd = false)
    (hi : ∀ env : Env, env.scope.kind = .function → interactive env = false) (hs : ∀ env, swapsWith (.Call (.Attribute o name apos) args [] pos) none epos.line env = pure false) : HS G F ρ σ (.Expr (.Call (.Attribute o name apos) args [] pos) epos :: rest) Q X :=
  hs_expr (he_methp ho I hm (notKey_mem hk) ha h ht hall hd) hi hs
theorem hs_assign_meth {x np} {o : Expr} {name : Str} {apos pos epos : Pos} {args : List Expr} {i c j kvs f vs} (ho : PV G F ρ σ o (.loc i)) (I : IsInst σ i c j kvs) (hm : methOk G.K c name f = true) (hk : notKey name kvs = true) (ha : PA G F ρ σ args vs)
    (h : HC G F.n (.ref f) (.loc i :: vs) σ (fun v σ1 => ∃ ρ', LPut x v ρ ρ' ∧ HS G F ρ' σ1 rest Q X) X) (ht : MethTree o name apos pos args) (hall : args.all notStar = true) (hd : F.hd = false)
    (hs : ∀ env, swapsWith (.Call (.Attribute o name apos) args [] pos) (some (.Name x np)) epos.line env = pure false) : HS G F ρ σ (.Assign [.Name x np] (.Call (.Attribute o name apos) args [] pos) epos :: rest) Q X :=
  hs_assign (he_methp ho I hm (notKey_mem hk) ha h ht hall hd) hs
theorem hs_assign_call {x np} {id : Str} {fp pos epos : Pos} {args : List Expr} {fv vs} (hn : PV G F ρ σ (.Name id fp) (.raw fv)) (ha : PA G F ρ σ args vs)
    (h : HC G F.n fv vs σ (fun v σ1 => ∃ ρ', LPut x v ρ ρ' ∧ HS G F ρ' σ1 rest Q X) X) (hk : keepsG G.K fv = true) (hall : args.all notStar = true) (hd : F.hd = false)
    (hs : ∀ env, swapsWith (.Call (.Name id fp) args [] pos) (some (.Name x np)) epos.line env = pure false) : HS G F ρ σ (.Assign [.Name x np] (.Call (.Name id fp) args [] pos) epos :: rest) Q X :=
  hs_assign (he_callp hn ha h hk hall hd) hs
theorem pv_methp {o : Expr} {name : Str} {apos pos : Pos} {args : List Expr} {i c j kvs f vs v} (ho : PV G F ρ σ o (.loc i)) (I : IsInst σ i c j kvs) (hm : methOk G.K c name f = true) (hk : notKey name kvs = true) (ha : PA G F ρ σ args vs) (hp : PC G F.n (.ref f) (.loc i :: vs) σ v)
    (ht : MethTree o name apos pos args) (hall : args.all notStar = true) (hd : F.hd = false) : PV G F ρ σ (.Call (.Attribute o name apos) args [] pos) v := fun Q X q => he_methp ho I hm (notKey_mem hk) ha (hp Q X q) ht hall hd
theorem iset_ints {l : Nat} {ns : List Int} {k c : Int} (h : σ l = some (.list (ns.map MV.int))) (h0 : 0 ≤ k) (hk : k < ns.length) : ISet σ (.int c) (.loc l) (.int k) (upd σ l (.list ((ns.set k.toNat c).map MV.int))) := by
  have := ISet.list (mv := .int c) h h0 (by simpa using hk)
  rw [← List.map_set] at this; exact this
theorem noRaw_mvo (o : Option Int) : noRaw (mvo o) = true := by cases o <;> rfl
theorem hs_tuplep {es k tpos value pos ms ρ' σ2} (h : PV G F ρ σ value (.tup ms)) (hp : SPut G F es ms ρ σ ρ' σ2) (kk : HS G F ρ' σ2 rest Q X) (hd : F.hd = false)
    (hs : ∀ C : Cx, swapsWithSole [.Tuple es k tpos] value pos.line (C.env F) = pure false) (hw : ∀ C : Cx, swappedStores [.Tuple es k tpos] value (C.env F) = pure none) : HS G F ρ σ (.Assign [.Tuple es k tpos] value pos :: rest) Q X :=
  hs_tuple (h _ X ⟨ms, ρ', σ2, rfl, hp, kk⟩) hd hs hw
theorem hs_swapp {es k tpos value pos ms ρ'} {names : List Str} (h : PV G F ρ σ value (.tup ms)) (hl : ms.length = names.length) (hp : NPuts names.reverse ms.reverse ρ ρ') (kk : HS G F ρ' σ rest Q X) (hd : F.hd = false)
    (hs : ∀ C : Cx, swapsWithSole [.Tuple es k tpos] value pos.line (C.env F) = pure false) (hw : ∀ C : Cx, swappedStores [.Tuple es k tpos] value (C.env F) = pure (some names)) : HS G F ρ σ (.Assign [.Tuple es k tpos] value pos :: rest) Q X :=
  hs_swap (h _ X ⟨ms, ρ', rfl, hl, hp, kk⟩) hd hs hw
theorem he_ifexpp {t b o pos c} {Q : MV → MH → Prop} (h : PB G F ρ σ t c) (h1 : c = true → HE G F ρ σ b Q X) (h2 : c = false → HE G F ρ σ o Q X) : HE G F ρ σ (.IfExp t b o pos) Q X := he_ifexp (h _ X (by
  cases c with
  | true => exact h1 rfl
  | false => exact h2 rfl))
theorem interactive_no : ∀ env : Env, env.scope.kind = .function → interactive env = false := fun env h => by
  first | (unfold interactive; rw [h]; rfl) | (unfold interactive; simp [h])
end
end Mine
end
section
set_option Elab.async false
set_option linter.all false
set_option maxRecDepth 100000
set_option genSizeOf false
set_option genInjectivity false
namespace Mine
open PySem PySem.W PySem.Calls PyProof.Rows

theorem nle {n a b : Nat} (h : Nat.ble a b = true) : n + a ≤ n + b := Nat.add_le_add_left (Nat.le_of_ble_eq_true h) n
theorem lookup_at {a : Addr} {o : Obj} {i : Nat} {K : Frag} (h : K[i]? = some (a, o)) (hn : (K.take i).all (fun p => !(p.1 == a)) = true) : K.lookup a = some o := by
  induction i generalizing K with
  | zero =>
    cases K with
    | nil => cases h
    | cons p r => cases h; rw [List.lookup_cons, beq_self_eq_true]
  | succ i ih =>
    cases K with
    | nil => cases h
    | cons p r =>
      obtain ⟨b, u⟩ := p
      rw [List.take_succ_cons, List.all_cons, Bool.and_eq_true] at hn
      rw [List.lookup_cons, beq_false_of_ne (fun z : a = b => by have := hn.1; rw [z, beq_self_eq_true] at this; cases this)]
      exact ih h hn.2

theorem fn_at {G : Gl} {f : Addr} {name qual : Str} {params : Arguments} {body : List Stmt} {scope : Scope} {dV kV doc pm cdv ct oc : Value} {an od : Option Addr} {osl : Array (Option Value)} {n : Nat} {vs : List MV} {σ : MH} {Q : MV → MH → Prop} {X : MX → MH → Prop} (i : Nat) (binds : List (Str × MV)) (others : List Str) {ρ0 : Loc} {names : List Str}
    (hi : G.K[i]? = some (f, ⟨oc, od, .func (fnOf name qual params body scope dV kV doc pm an cdv ct), osl⟩)) (hno : (G.K.take i).all (fun p => !(p.1 == f)) = true) (hcd : codeIn G.K cdv qual = true)
    (hb : ∀ (W : Wd) (s : Shared) av, G.K.In s.heap → VReps W vs av → ∃ bv, BindsTo s (fnOf name qual params body scope dV kV doc pm an cdv ct) ⟨av, []⟩ bv ∧ BReps W binds bv)
    (h0 : L0 binds others ρ0) (hn' : Nm ρ0 names) (hnd : names.Nodup) (hloc : kindOk scope names = true)
    (hco : scope.isCoroutine = false) (hgen : scope.isGenerator = false) (hk : scope.kind = .function) (hcell : noCell scope = true)
    (h : HS G ⟨qual, scope, n, false, false, false, [], []⟩ ρ0 σ body (ends Q) X) : HCc G (n + 1) (.ref f) vs σ Q X :=
  fn_def binds others (lookup_at hi hno) hcd hb h0 hn' hnd hloc hco hgen hk hcell h
end Mine
end
section
set_option Elab.async false
set_option linter.all false
set_option maxRecDepth 100000
set_option genSizeOf false
set_option genInjectivity false
namespace Mine
open PySem

/-! the step from a command to the next: a is the place, L the command's length -/
theorem adv_nat {L : Int} (h : 1 ≤ L ∧ L ≤ 3) : ((L.toNat : Nat) : Int) = L := Int.toNat_of_nonneg (Int.le_trans (by decide) h.1)
theorem adv_int {a : Nat} {L : Int} (h : 1 ≤ L ∧ L ≤ 3) : ((a + L.toNat : Nat) : Int) = (a : Int) + L := by rw [Int.natCast_add, adv_nat h]
theorem adv_pos {L : Int} (h : 1 ≤ L ∧ L ≤ 3) : 1 ≤ L.toNat := Int.ofNat_le.mp (by rw [adv_nat h]; exact h.1)
theorem adv_succ {L : Int} (h : 1 ≤ L ∧ L ≤ 3) : ∃ k, L.toNat = k + 1 := ⟨L.toNat - 1, (Nat.sub_add_cancel (adv_pos h)).symm⟩
theorem adv_le {a b : Nat} {L : Int} (h : 1 ≤ L ∧ L ≤ 3) (hb : (a : Int) + L ≤ b) : a + L.toNat ≤ b := Int.ofNat_le.mp (by rw [adv_int h]; exact hb)
theorem adv_min {a b : Nat} {L : Int} (h : 1 ≤ L ∧ L ≤ 3) (hb : (a : Int) + L ≤ b) : min L.toNat (b - a) = L.toNat := Nat.min_eq_left (Nat.le_sub_of_add_le (by rw [Nat.add_comm]; exact adv_le h hb))
theorem adv_lt {a b : Nat} {L : Int} (h : 1 ≤ L ∧ L ≤ 3) (hlt : a < b) : b - (a + L.toNat) < b - a := Nat.sub_lt_sub_left hlt (Nat.lt_add_of_pos_right (adv_pos h))
theorem adv_fu {a b f : Nat} {L : Int} (h : 1 ≤ L ∧ L ≤ 3) (hf : b - a ≤ f + 1) : b - (a + L.toNat) ≤ f := by
  rw [Nat.sub_add_eq]; exact Nat.sub_le_of_le_add (Nat.le_trans hf (Nat.add_le_add_left (adv_pos h) f))
theorem adv_fuz {m f : Nat} {L : Int} (h : 1 ≤ L ∧ L ≤ 3) (hf : m ≤ f + 1) : m - L.toNat ≤ f := Nat.sub_le_of_le_add (Nat.le_trans hf (Nat.add_le_add_left (adv_pos h) f))
theorem adv_fuel {a b f : Nat} (h : b - a ≤ f) (hlt : a < b) : ∃ k, f = k + 1 := ⟨f - 1, (Nat.sub_add_cancel (Nat.le_trans (Nat.sub_pos_of_lt hlt) h)).symm⟩
theorem adv_rest {a b : Nat} (hlt : a < b) : b - (a + 1) + 1 = b - a := by rw [Nat.sub_add_eq]; exact Nat.sub_add_cancel (Nat.sub_pos_of_lt hlt)
theorem adv_not {a b : Nat} {L : Int} (h : 1 ≤ L ∧ L ≤ 3) (hlt : a < b) (hb : (a : Int) + L ≤ b) : ¬ b - (a + 1) + 1 < L.toNat := by
  rw [adv_rest hlt]; exact Nat.not_lt.mpr (Nat.le_sub_of_add_le (by rw [Nat.add_comm]; exact adv_le h hb))
theorem adv_short {a b : Nat} {L : Int} (h : 1 ≤ L ∧ L ≤ 3) (hlt : a < b) (hb : (b : Int) < a + L) : b - (a + 1) + 1 < L.toNat := by
  rw [adv_rest hlt]
  have : b < a + L.toNat := Int.ofNat_lt.mp (by rw [adv_int h]; exact hb)
  exact Nat.sub_lt_left_of_lt_add (Nat.le_of_lt hlt) this
structure RdOk (v : RdV) : Prop where
  len : v.starts.length = 8
  a0 : 0 ≤ v.active
  a8 : v.active < 8
  hi : ∀ x, v.high = some x → 55296 ≤ x ∧ x ≤ 56319
theorem narrow_facts {o : Int} {k : Nat} (h : k = (narrowLen o).toNat) : 1 ≤ k ∧ k ≤ 3 ∧ (24 ≤ o → o < 32 → 2 ≤ k) ∧ (1 ≤ o → o < 9 → 2 ≤ k) ∧ (o = 14 → 3 ≤ k) ∧ (o = 11 → 3 ≤ k) := by
  unfold narrowLen at h
  subst h
  split
  · exact ⟨by decide, by decide, fun _ _ => by decide, fun _ _ => by decide, fun _ => by decide, fun _ => by decide⟩
  · rename_i h1
    have e3 : o ≠ 14 := fun z => h1 (by simp [z])
    have e4 : o ≠ 11 := fun z => h1 (by simp [z])
    split
    · exact ⟨by decide, by decide, fun _ _ => by decide, fun _ _ => by decide, fun z => absurd z e3, fun z => absurd z e4⟩
    · rename_i h2
      have f1 : ¬ (1 ≤ o ∧ o < 9) := fun z => h2 (by simp [z])
      have f2 : ¬ (24 ≤ o ∧ o < 32) := fun z => h2 (by simp [z])
      exact ⟨by decide, by decide, fun a b => absurd ⟨a, b⟩ f2, fun a b => absurd ⟨a, b⟩ f1, fun z => absurd z e3, fun z => absurd z e4⟩
theorem wide_facts {o : Int} {k : Nat} (h : k = (wideLen o).toNat) : 1 ≤ k ∧ k ≤ 3 ∧ (o = 240 → 3 ≤ k) ∧ (o = 241 → 3 ≤ k) ∧ (o < 224 → 2 ≤ k) ∧ (232 ≤ o → o ≠ 242 → 2 ≤ k) := by
  unfold wideLen at h
  subst h
  split
  · exact ⟨by decide, by decide, fun _ => by decide, fun _ => by decide, fun _ => by decide, fun _ _ => by decide⟩
  · rename_i h1
    have e3 : o ≠ 240 := fun z => h1 (by simp [z])
    have e4 : o ≠ 241 := fun z => h1 (by simp [z])
    split
    · rename_i h2
      have f : (224 ≤ o ∧ o < 232) ∨ o = 242 := by simpa using h2
      exact ⟨by decide, by decide, fun z => absurd z e3, fun z => absurd z e4, fun z => by lia, fun z y => by lia⟩
    · exact ⟨by decide, by decide, fun z => absurd z e3, fun z => absurd z e4, fun _ => by decide, fun _ _ => by decide⟩
theorem ok_putCode {v v' : RdV} {c} (h : RdOk v) (e : v.putCode c = .ok v') : RdOk v' ∧ v'.found.length ≤ v.found.length + 1 := by
  unfold RdV.putCode at e
  split at e
  · cases e
  · cases e; exact ⟨⟨h.len, h.a0, h.a8, h.hi⟩, by simp⟩
theorem ok_putUnit {v v' : RdV} {c} (h : RdOk v) (e : v.putUnit c = .ok v') : RdOk v' ∧ v'.found.length ≤ v.found.length + 1 := by
  unfold RdV.putUnit at e
  split at e
  · cases e; exact ⟨⟨h.len, h.a0, h.a8, fun x z => by cases z⟩, by simp⟩
  · split at e
    · rename_i h1
      cases e
      refine ⟨⟨h.len, h.a0, h.a8, fun x z => ?_⟩, by simp⟩
      cases z
      simp [isHigh] at h1
      exact ⟨h1.1.1, h1.1.2⟩
    · split at e
      · cases e
      · exact ok_putCode h e
theorem ok_move {v v' : RdV} {c : Int} {st} (h : RdOk v) (h0 : 0 ≤ c) (h8 : c < 8) (e : v.move c st = .ok v') : RdOk v' ∧ v'.found.length ≤ v.found.length + 1 := by
  unfold RdV.move at e
  split at e
  · cases e
  · cases e; exact ⟨⟨by simp [RdV.change, h.len], h0, h8, h.hi⟩, by simp [RdV.change]⟩
theorem ok_take {v v' : RdV} {c : List UInt8} (h : RdOk v) (hc : c.length = (v.len (u8 c 0)).toNat) (e : v.take c = .ok v') : RdOk v' ∧ v'.found.length ≤ v.found.length + 1 := by
  have b0 := u8_lo c 0
  have b0' := u8_hi c 0
  have b1 := u8_lo c 1
  have b1' := u8_hi c 1
  unfold RdV.take at e
  split at e
  · unfold RdV.takeWide at e
    dsimp only at e
    generalize u8 c 0 = o at *
    split at e
    · cases e
    split at e
    · exact ok_putUnit h e
    split at e
    · exact ok_move h (by lia) (by lia) e
    split at e
    · rename_i h1; simp at h1; cases e; exact ⟨⟨h.len, by simp [RdV.change]; lia, by simp [RdV.change]; lia, h.hi⟩, by simp [RdV.change]⟩
    split at e
    · rename_i h1; simp at h1; exact ok_move h (by lia) (by lia) e
    · exact ok_putUnit h e
  · unfold RdV.takeNarrow at e
    dsimp only at e
    generalize u8 c 0 = o at *
    split at e
    · exact ok_putCode h e
    split at e
    · exact ok_putCode h e
    rename_i h1 h2
    simp at h2
    split at e
    · rename_i h3; simp at h3; exact ok_move h (by lia) (by lia) e
    rename_i h3
    simp at h3
    split at e
    · rename_i h4; simp at h4; cases e; exact ⟨⟨h.len, by simp [RdV.change]; lia, by simp [RdV.change]; lia, h.hi⟩, by simp [RdV.change]⟩
    split at e
    · cases e; exact ⟨⟨h.len, h.a0, h.a8, h.hi⟩, by simp⟩
    split at e
    · exact ok_putUnit h e
    split at e
    · exact ok_move h (by lia) (by lia) e
    split at e
    · cases e
    · exact ok_putCode h e
theorem nat_13 {L : Int} (a : 1 ≤ L.toNat) (b : L.toNat ≤ 3) : 1 ≤ L ∧ L ≤ 3 := by
  have := Int.toNat_of_nonneg (Int.le_of_lt (Int.lt_toNat.mp a))
  exact ⟨Int.lt_toNat.mp a, by rw [← this]; exact Int.ofNat_le.mpr b⟩
theorem len_pos (v : RdV) (o : Int) : 1 ≤ v.len o ∧ v.len o ≤ 3 := by
  unfold RdV.len
  split
  · obtain ⟨a, b, -⟩ := wide_facts (o := o) rfl; exact nat_13 a b
  · obtain ⟨a, b, -⟩ := narrow_facts (o := o) rfl; exact nat_13 a b
theorem run_step (fu : Nat) (v : RdV) (o : UInt8) (t : List UInt8) : RdV.run (fu + 1) v (o :: t) = if (o :: t).length < (v.len (o.toNat : Int)).toNat then .ok (v, o :: t) else match v.take ((o :: t).take (v.len (o.toNat : Int)).toNat) with
    | .error e => .error e
    | .ok v' => ({ v' with gone := v'.gone + (v.len (o.toNat : Int)).toNat } : RdV).run fu ((o :: t).drop (v.len (o.toNat : Int)).toNat) := rfl
noncomputable def decode (b : List UInt8) : Except Int (List Int) := match RdV.new.feed b with
  | .error e => .error e
  | .ok v => match v.finish with
    | some e => .error e
    | none => .ok v.found
theorem new_ok : RdOk RdV.new := ⟨rfl, by decide, by decide, fun x z => by cases z⟩
structure LwV where
  text : List Int
  half : Option Int
  starts : List Int
  taken : Int
  wide : Bool
noncomputable def LwV.told (v : LwV) (c : Int) (u : Bool) : Bool × LwV :=
  if (u && (decide (56320 ≤ c) && decide (c ≤ 57343))) = true then
    (if (!v.half.isSome) = true then (false, v) else (true, { v with text := v.text ++ [65536 + (v.half.getD 0 - 55296) * 1024 + c - 56320], half := none }))
  else if v.half.isSome = true then (false, v)
  else if (u && (decide (55296 ≤ c) && decide (c ≤ 56319))) = true then (true, { v with half := some c })
  else (true, { v with text := v.text ++ [c] })
noncomputable def LwV.laid (v : LwV) (n : Int) (st : Option Int) : Bool × LwV := match st with
  | none => (false, v)
  | some s => (true, { v with starts := v.starts.set n.toNat s, taken := n, wide := false })
noncomputable def lawStart (i : Int) : Option Int :=
  if (decide (1 ≤ i) && decide (i ≤ 103)) = true then some (i * 128)
  else if (decide (104 ≤ i) && decide (i ≤ 167)) = true then some (i * 128 + 44032)
  else if decide (249 ≤ i) = true then some (specials.getD (i - 249).toNat 0) else none
noncomputable def lawLong (o : Int) (w : Bool) : Int :=
  if w = true then (if ((decide (224 ≤ o) && decide (o ≤ 231)) || decide (o = 242)) = true then 1 else if (decide (o = 240) || decide (o = 241)) = true then 3 else 2)
  else if (decide (o = 11) || decide (o = 14)) = true then 3
  else if ((decide (1 ≤ o) && decide (o ≤ 8)) || (decide (24 ≤ o) && decide (o ≤ 31))) = true then 2 else 1
noncomputable def okOr (r : Bool × LwV) : Option Bool × LwV := (if r.1 = true then some true else none, r.2)
noncomputable def some1 (r : Bool × LwV) : Option Bool × LwV := (some r.1, r.2)
noncomputable def LwV.step (v : LwV) (c : List UInt8) : Option Bool × LwV :=
  let o := u8 c 0
  if v.wide = true then
    if (decide (224 ≤ o) && decide (o ≤ 231)) = true then (some true, { v with taken := o - 224, wide := false })
    else if decide (o = 242) = true then (none, v)
    else if decide (o = 240) = true then some1 (v.told (u8 c 1 * 256 + u8 c 2) true)
    else if decide (o = 241) = true then some1 (v.laid (u8 c 1 / 32) (some (65536 + (u8 c 1 % 32 * 256 + u8 c 2) * 128)))
    else if (decide (232 ≤ o) && decide (o ≤ 239)) = true then okOr (v.laid (o - 232) (lawStart (u8 c 1)))
    else some1 (v.told (o * 256 + u8 c 1) true)
  else if (decide (1 ≤ o) && decide (o ≤ 8)) = true then
    if decide (u8 c 1 < 128) = true then some1 (v.told (statics.getD (o - 1).toNat 0 + u8 c 1) false)
    else some1 (v.told (v.starts.getD (o - 1).toNat 0 + u8 c 1 - 128) false)
  else if decide (o = 11) = true then some1 (v.laid (u8 c 1 / 32) (some (65536 + (u8 c 1 % 32 * 256 + u8 c 2) * 128)))
  else if decide (o = 14) = true then some1 (v.told (u8 c 1 * 256 + u8 c 2) true)
  else if decide (o = 15) = true then (some true, { v with wide := true })
  else if (decide (16 ≤ o) && decide (o ≤ 23)) = true then (some true, { v with taken := o - 16 })
  else if (decide (24 ≤ o) && decide (o ≤ 31)) = true then okOr (v.laid (o - 24) (lawStart (u8 c 1)))
  else if decide (128 ≤ o) = true then some1 (v.told (v.starts.getD v.taken.toNat 0 + o - 128) false)
  else if decide (o = 12) = true then (none, v) else some1 (v.told o false)
inductive LRes where
  | text (l : List Int)
  | err (e : Option Int)
noncomputable def LwV.run (fuel : Nat) (v : LwV) (at' : Nat) (b : List UInt8) : LRes := match fuel with
  | 0 => if (!v.half.isSome) = true then .text v.text else .err none
  | fuel + 1 => match b with
    | [] => if (!v.half.isSome) = true then .text v.text else .err none
    | o :: t =>
      if (o :: t).length < (lawLong (o.toNat : Int) v.wide).toNat then (if (!v.half.isSome) = true then .err (some at') else .err none)
      else match v.step ((o :: t).take (lawLong (o.toNat : Int) v.wide).toNat) with
        | (none, _) => .err (some at')
        | (some false, _) => .err none
        | (some true, v') => v'.run fuel (at' + (lawLong (o.toNat : Int) v.wide).toNat) ((o :: t).drop (lawLong (o.toNat : Int) v.wide).toNat)
noncomputable def LwV.new : LwV := { text := [], half := none, starts := firsts, taken := 0, wide := false }
noncomputable def lread (b : List UInt8) : LRes := LwV.new.run b.length 0 b
end Mine
end
section
set_option Elab.async false
set_option linter.all false
set_option maxRecDepth 100000
set_option genSizeOf false
set_option genInjectivity false
namespace Mine
open PySem

/-! the package's reader and the law's reader answer alike -/
structure Sim (v : RdV) (w : LwV) (g : Int) : Prop where
  s : v.starts = w.starts
  a : v.active = w.taken
  wd : v.wide = w.wide
  h : v.high = w.half
  f : v.found = w.text
  g : v.gone = g
noncomputable def Rel (r : RRes) (s : Option Bool × LwV) (g : Int) : Prop := match s with
  | (some true, w') => ∃ v', r = .ok v' ∧ Sim v' w' g
  | (none, _) => r = .error g
  | (some false, _) => ∃ e, r = .error e

theorem rel_code {v w g} (h : Sim v w g) (c : Int) : Rel (v.putCode c) (some1 (w.told c false)) g := by
  obtain ⟨s, a, wd, hh, f, gg⟩ := h
  unfold RdV.putCode LwV.told some1
  rw [hh]
  cases w.half with
  | none => exact ⟨_, rfl, s, a, wd, rfl, by simp [f], gg⟩
  | some x => exact ⟨_, rfl⟩
theorem rel_unit {v w g} (h : Sim v w g) (c : Int) : Rel (v.putUnit c) (some1 (w.told c true)) g := by
  have h' := h
  obtain ⟨s, a, wd, hh, f, gg⟩ := h
  unfold RdV.putUnit LwV.told some1
  by_cases hl : isLow c = true
  · have hl2 : (true && (decide (56320 ≤ c) && decide (c ≤ 57343))) = true := hl
    have hH : isHigh c = false := by simp [isLow] at hl; simp [isHigh]; lia
    simp only [hl2, hl, hH, if_true, Bool.true_and, Bool.false_and, Bool.false_or]
    rw [hh]
    cases w.half with
    | none => exact ⟨_, rfl⟩
    | some x => exact ⟨_, rfl, s, a, wd, rfl, by simp [f], gg⟩
  · have hl2 : (true && (decide (56320 ≤ c) && decide (c ≤ 57343))) = false := by
      rw [Bool.true_and]; exact (Bool.not_eq_true _).mp hl
    have hl3 : isLow c = false := (Bool.not_eq_true _).mp hl
    simp only [hl2, hl3, Bool.false_and, if_false, Bool.or_false, Bool.false_eq_true]
    by_cases hH : isHigh c = true
    · have hH2 : (true && (decide (55296 ≤ c) && decide (c ≤ 56319))) = true := hH
      simp only [hH, hH2, Bool.true_and, if_true]
      rw [hh]
      cases w.half with
      | none => exact ⟨_, rfl, s, a, wd, rfl, f, gg⟩
      | some x => exact ⟨_, rfl⟩
    · have hH3 : isHigh c = false := (Bool.not_eq_true _).mp hH
      have hH2 : (true && (decide (55296 ≤ c) && decide (c ≤ 56319))) = false := hH3
      simp only [hH3, hH2, Bool.false_and, if_false, Bool.false_eq_true]
      unfold RdV.putCode
      rw [hh]
      cases w.half with
      | none => exact ⟨_, rfl, s, a, wd, rfl, by simp [f], gg⟩
      | some x => exact ⟨_, rfl⟩
theorem rel_move {v w g} (h : Sim v w g) (c : Int) (st : Option Int) : Rel (v.move c st) (okOr (w.laid c st)) g := by
  obtain ⟨s, a, wd, hh, f, gg⟩ := h
  cases st with
  | none => show _ = _; rw [← gg]; rfl
  | some x => exact ⟨_, rfl, by simp [RdV.change, LwV.laid, s], rfl, rfl, hh, f, gg⟩
theorem rel_far {v w g} (h : Sim v w g) (a b : Int) : Rel (v.moveFar a b) (some1 (w.laid (a / 32) (some (65536 + (a % 32 * 256 + b) * 128)))) g := rel_move h _ (some _)
theorem winStart_law (i : Int) : winStart i = lawStart i := by
  unfold winStart lawStart
  have : (decide (1 ≤ i) && decide (i < 104)) = (decide (1 ≤ i) && decide (i ≤ 103)) := by
    congr 1; rw [Bool.eq_iff_iff]; simp; lia
  rw [this]
theorem len_law {v w g} (h : Sim v w g) (o : Int) : v.len o = lawLong o w.wide := by
  unfold RdV.len lawLong
  rw [h.wd]
  cases w.wide with
  | true =>
    simp only [if_true]
    unfold wideLen
    by_cases h1 : o = 240 ∨ o = 241
    · have : ¬ ((decide (224 ≤ o) && decide (o ≤ 231)) || decide (o = 242)) = true := by simp; lia
      rw [if_pos (by simpa using h1), if_neg this, if_pos (by simpa using h1)]
    · rw [if_neg (by simpa using h1), if_neg (show ¬ (decide (o = 240) || decide (o = 241)) = true by simpa using h1)]
      have : ((decide (224 ≤ o) && decide (o < 232)) || decide (o = 242)) = ((decide (224 ≤ o) && decide (o ≤ 231)) || decide (o = 242)) := by
        rw [Bool.eq_iff_iff]; simp; lia
      rw [this]
  | false =>
    simp only [Bool.false_eq_true, if_false]
    unfold narrowLen
    have : ((decide (1 ≤ o) && decide (o < 1 + 8)) || (decide (24 ≤ o) && decide (o < 24 + 8))) = ((decide (1 ≤ o) && decide (o ≤ 8)) || (decide (24 ≤ o) && decide (o ≤ 31))) := by
      rw [Bool.eq_iff_iff]; simp; lia
    rw [this]

theorem step_rel {v w g} (h : Sim v w g) (c : List UInt8) : Rel (v.take c) (w.step c) g := by
  have h' := h
  obtain ⟨s, a, wd, hh, f, gg⟩ := h
  have b0 := u8_lo c 0
  have b0' := u8_hi c 0
  unfold RdV.take LwV.step
  dsimp only
  rw [wd]
  cases hw : w.wide with
  | true =>
    simp only [if_true]
    unfold RdV.takeWide
    dsimp only
    generalize u8 c 0 = o at *
    by_cases h1 : o = 242
    · subst h1; exact gg ▸ rfl
    rw [if_neg (show ¬ decide (o = 242) = true by simpa using h1)]
    by_cases h2 : o = 240
    · subst h2; exact rel_unit h' _
    rw [if_neg (show ¬ decide (o = 240) = true by simpa using h2)]
    by_cases h3 : o = 241
    · subst h3; exact rel_far h' _ _
    rw [if_neg (show ¬ decide (o = 241) = true by simpa using h3)]
    by_cases h4 : 224 ≤ o ∧ o < 232
    · rw [if_pos (show (decide (224 ≤ o) && decide (o < 232)) = true by simpa using h4), if_pos (show (decide (224 ≤ o) && decide (o ≤ 231)) = true by simp; lia)]
      exact ⟨_, rfl, s, rfl, rfl, hh, f, gg⟩
    rw [if_neg (show ¬ (decide (224 ≤ o) && decide (o < 232)) = true by simpa using h4), if_neg (show ¬ (decide (224 ≤ o) && decide (o ≤ 231)) = true by simp; lia)]
    rw [if_neg (show ¬ decide (o = 242) = true by simpa using h1), if_neg (show ¬ decide (o = 240) = true by simpa using h2), if_neg (show ¬ decide (o = 241) = true by simpa using h3)]
    by_cases h5 : 232 ≤ o ∧ o < 240
    · rw [if_pos (show (decide (232 ≤ o) && decide (o < 240)) = true by simpa using h5), if_pos (show (decide (232 ≤ o) && decide (o ≤ 239)) = true by simp; lia)]
      rw [winStart_law]; exact rel_move h' _ _
    rw [if_neg (show ¬ (decide (232 ≤ o) && decide (o < 240)) = true by simpa using h5), if_neg (show ¬ (decide (232 ≤ o) && decide (o ≤ 239)) = true by simp; lia)]
    exact rel_unit h' _
  | false =>
    simp only [if_false, Bool.false_eq_true]
    unfold RdV.takeNarrow
    dsimp only
    generalize u8 c 0 = o at *
    by_cases h1 : 128 ≤ o
    · rw [if_pos (by simpa using h1), if_neg (by simp; lia), if_neg (by simp; lia), if_neg (by simp; lia), if_neg (by simp; lia), if_neg (by simp; lia), if_neg (by simp; lia), if_pos (by simpa using h1)]
      rw [s, a]; exact rel_code h' _
    rw [if_neg (show ¬ decide (128 ≤ o) = true by simpa using h1)]
    by_cases h2 : 32 ≤ o ∨ o = 0 ∨ o = 9 ∨ o = 10 ∨ o = 13
    · rw [if_pos (by simpa using h2), if_neg (by simp; lia), if_neg (by simp; lia), if_neg (by simp; lia), if_neg (by simp; lia), if_neg (by simp; lia), if_neg (by simp; lia), if_neg (by simpa using h1), if_neg (by simp; lia)]
      exact rel_code h' _
    rw [if_neg (show ¬ (decide (32 ≤ o) || [0, 9, 10, 13].contains o) = true by simpa using h2)]
    by_cases h3 : 24 ≤ o
    · rw [if_pos (by simpa using h3), if_neg (by simp; lia), if_neg (by simp; lia), if_neg (by simp; lia), if_neg (by simp; lia), if_neg (by simp; lia), if_pos (by simp; lia)]
      rw [winStart_law]; exact rel_move h' _ _
    rw [if_neg (show ¬ decide (24 ≤ o) = true by simpa using h3)]
    by_cases h4 : 16 ≤ o
    · rw [if_pos (by simpa using h4), if_neg (by simp; lia), if_neg (by simp; lia), if_neg (by simp; lia), if_neg (by simp; lia), if_pos (by simp; lia)]
      exact ⟨_, rfl, s, rfl, rfl, hh, f, gg⟩
    rw [if_neg (show ¬ decide (16 ≤ o) = true by simpa using h4)]
    by_cases h5 : o = 15
    · subst h5; exact ⟨_, rfl, s, a, rfl, hh, f, gg⟩
    rw [if_neg (show ¬ decide (o = 15) = true by simpa using h5)]
    by_cases h6 : o = 14
    · subst h6; exact rel_unit h' _
    rw [if_neg (show ¬ decide (o = 14) = true by simpa using h6)]
    by_cases h7 : o = 11
    · subst h7; exact rel_far h' _ _
    rw [if_neg (show ¬ decide (o = 11) = true by simpa using h7)]
    by_cases h8 : o = 12
    · subst h8; exact gg ▸ rfl
    rw [if_neg (show ¬ decide (o = 12) = true by simpa using h8)]
    rw [if_pos (show (decide (1 ≤ o) && decide (o ≤ 8)) = true by simp; lia)]
    unfold RdV.quoted
    by_cases h9 : u8 c 1 < 128
    · rw [if_pos (by simpa using h9), if_pos (by simpa using h9)]; exact rel_code h' _
    · rw [if_neg (by simpa using h9), if_neg (by simpa using h9), s]; exact rel_code h' _

/-- what the package's reader says at its end -/
noncomputable def fin2 (r : Except Int (RdV × List UInt8)) : Except Int (List Int) := match r with
  | .error e => .error e
  | .ok (v, r) => match ({ v with rest := r } : RdV).finish with
    | some e => .error e
    | none => .ok v.found
noncomputable def Agree (r : Except Int (List Int)) : LRes → Prop
  | .text l => r = .ok l
  | .err (some a) => r = .error a
  | .err none => ∃ e, r = .error e
theorem lrun_step (fu : Nat) (v : LwV) (at' : Nat) (o : UInt8) (t : List UInt8) : LwV.run (fu + 1) v at' (o :: t) =
      if (o :: t).length < (lawLong (o.toNat : Int) v.wide).toNat then (if (!v.half.isSome) = true then .err (some at') else .err none)
      else match v.step ((o :: t).take (lawLong (o.toNat : Int) v.wide).toNat) with
        | (none, _) => .err (some at')
        | (some false, _) => .err none
        | (some true, v') => v'.run fu (at' + (lawLong (o.toNat : Int) v.wide).toNat) ((o :: t).drop (lawLong (o.toNat : Int) v.wide).toNat) := rfl
theorem run_agree : ∀ (fu : Nat) (v : RdV) (w : LwV) (at' : Nat) (b : List UInt8), b.length ≤ fu → Sim v w at' → Agree (fin2 (v.run fu b)) (w.run fu at' b) := by
  intro fu
  induction fu with
  | zero =>
    intro v w at' b hb h
    have : b = [] := List.length_eq_zero_iff.mp (Nat.le_zero.mp hb)
    subst this
    unfold RdV.run LwV.run fin2 RdV.finish
    dsimp only
    rw [h.h]
    cases hx : w.half with
    | none => simp [Agree, h.f]
    | some x => simp [Agree]
  | succ fu ih =>
    intro v w at' b hb h
    cases b with
    | nil =>
      unfold RdV.run LwV.run fin2 RdV.finish
      dsimp only
      rw [h.h]
      cases hx : w.half with
      | none => simp [Agree, h.f]
      | some x => simp [Agree]
    | cons o t =>
      rw [run_step, lrun_step]
      rw [len_law h]
      by_cases hl : (o :: t).length < (lawLong (o.toNat : Int) w.wide).toNat
      · rw [if_pos hl, if_pos hl]
        unfold fin2 RdV.finish
        dsimp only
        rw [h.h]
        cases hx : w.half with
        | none => simp [Agree, h.g]
        | some x => simp [Agree]
      · rw [if_neg hl, if_neg hl]
        have hr := step_rel h ((o :: t).take (lawLong (o.toNat : Int) w.wide).toNat)
        revert hr
        generalize w.step ((o :: t).take (lawLong (o.toNat : Int) w.wide).toNat) = sr
        intro hr
        obtain ⟨x, w'⟩ := sr
        cases x with
        | none =>
          have : v.take ((o :: t).take (lawLong (o.toNat : Int) w.wide).toNat) = .error at' := hr
          rw [this]; rfl
        | some y =>
          cases y with
          | false =>
            obtain ⟨e, he⟩ := hr
            rw [he]; exact ⟨e, rfl⟩
          | true =>
            obtain ⟨v', he, hs⟩ := hr
            rw [he]
            have hp := len_pos v (o.toNat : Int)
            rw [len_law h] at hp
            refine ih _ w' _ _ (by rw [List.length_drop]; exact adv_fuz hp hb) ⟨hs.s, hs.a, hs.wd, hs.h, hs.f, ?_⟩
            show v'.gone + _ = _
            rw [hs.g]; simp
theorem decode_agree (b : List UInt8) : Agree (decode b) (lread b) := by
  have := run_agree b.length RdV.new LwV.new 0 b (Nat.le_refl _) ⟨rfl, rfl, rfl, rfl, rfl, rfl⟩
  have e : decode b = fin2 (RdV.new.run b.length b) := by
    unfold decode RdV.feed fin2
    rw [show (({ RdV.new with found := [] } : RdV).run (RdV.new.rest ++ b).length (RdV.new.rest ++ b)) = RdV.run b.length RdV.new b from rfl]
    cases RdV.run b.length RdV.new b with
    | error e => rfl
    | ok p => rfl
  rw [e]; exact this

/-! the octets in two pieces -/
noncomputable def RdV.mod (x : List Int) (r : List UInt8) (v : RdV) : RdV := { v with found := x ++ v.found, rest := r }
theorem mod_putCode (x r) (v : RdV) (c) : (v.mod x r).putCode c = (v.putCode c).map (RdV.mod x r) := by
  unfold RdV.putCode RdV.mod
  dsimp only
  split
  · rfl
  · simp [Except.map]
theorem mod_putUnit (x r) (v : RdV) (c) : (v.mod x r).putUnit c = (v.putUnit c).map (RdV.mod x r) := by
  unfold RdV.putUnit
  rw [mod_putCode]
  unfold RdV.mod
  dsimp only
  split
  · simp [Except.map]
  split
  · rfl
  split
  · rfl
  · rfl
theorem mod_move (x r) (v : RdV) (c st) : (v.mod x r).move c st = (v.move c st).map (RdV.mod x r) := by
  cases st <;> rfl
theorem mod_take (x r) (v : RdV) (c) : (v.mod x r).take c = (v.take c).map (RdV.mod x r) := by
  unfold RdV.take RdV.takeWide RdV.takeNarrow RdV.moveFar
  simp only [mod_putCode, mod_putUnit, mod_move]
  rw [show (v.mod x r).wide = v.wide from rfl]
  cases v.wide with
  | true =>
    simp only [if_true]
    split
    · rfl
    split
    · rfl
    split
    · rfl
    split
    · rfl
    split <;> rfl
  | false =>
    simp only [if_false, Bool.false_eq_true]
    split
    · rfl
    split
    · rfl
    split
    · rfl
    split
    · rfl
    split
    · rfl
    split
    · rfl
    split
    · rfl
    split <;> rfl
theorem mod_run (x r) : ∀ (fu : Nat) (v : RdV) (b : List UInt8), (v.mod x r).run fu b = (v.run fu b).map fun p => (p.1.mod x r, p.2) := by
  intro fu
  induction fu with
  | zero => intro v b; rfl
  | succ fu ih =>
    intro v b
    cases b with
    | nil => rfl
    | cons o t =>
      rw [run_step, run_step, mod_take]
      rw [show (v.mod x r).len = v.len from rfl]
      split
      · rfl
      · cases v.take ((o :: t).take (v.len (o.toNat : Int)).toNat) with
        | error e => rfl
        | ok v' => exact ih ({ v' with gone := v'.gone + (v.len (o.toNat : Int)).toNat } : RdV) _
theorem run_fuel : ∀ (f f' : Nat) (v : RdV) (p : List UInt8), p.length ≤ f → p.length ≤ f' → v.run f p = v.run f' p := by
  intro f
  induction f with
  | zero =>
    intro f' v p h h'
    have : p = [] := List.length_eq_zero_iff.mp (Nat.le_zero.mp h)
    subst this
    cases f' <;> rfl
  | succ f ih =>
    intro f' v p h h'
    cases p with
    | nil => cases f' <;> rfl
    | cons o t =>
      cases f' with
      | zero => simp at h'
      | succ f' =>
        have hp := len_pos v (o.toNat : Int)
        simp only [List.length_cons] at h h'
        rw [run_step, run_step]
        split
        · rfl
        · cases v.take ((o :: t).take (v.len (o.toNat : Int)).toNat) with
          | error e => rfl
          | ok v' => exact ih _ _ _ (by rw [List.length_drop, List.length_cons]; exact adv_fuz hp h) (by rw [List.length_drop, List.length_cons]; exact adv_fuz hp h')
theorem run_append : ∀ (f : Nat) (v : RdV) (p q : List UInt8), p.length ≤ f → v.run (p ++ q).length (p ++ q) = match v.run f p with
    | .error e => .error e
    | .ok (v1, r) => v1.run (r ++ q).length (r ++ q) := by
  intro f
  induction f with
  | zero =>
    intro v p q h
    have : p = [] := List.length_eq_zero_iff.mp (Nat.le_zero.mp h)
    subst this
    rfl
  | succ f ih =>
    intro v p q h
    cases p with
    | nil => rfl
    | cons o t =>
      have hp := len_pos v (o.toNat : Int)
      simp only [List.length_cons] at h
      rw [run_step f]
      by_cases hl : (o :: t).length < (v.len (o.toNat : Int)).toNat
      · rw [if_pos hl]
      · rw [if_neg hl]
        rw [List.cons_append, List.length_cons, run_step, ← List.cons_append, if_neg (by rw [List.length_append]; exact fun z => hl (Nat.lt_of_le_of_lt (Nat.le_add_right _ _) z))]
        rw [List.take_append_of_le_length (Nat.le_of_not_lt hl)]
        cases v.take ((o :: t).take (v.len (o.toNat : Int)).toNat) with
        | error e => rfl
        | ok v' =>
          dsimp only
          rw [List.drop_append_of_le_length (Nat.le_of_not_lt hl)]
          rw [← ih _ _ q (by rw [List.length_drop, List.length_cons]; exact adv_fuz hp h)]
          refine run_fuel _ _ _ _ ?_ (Nat.le_refl _)
          rw [List.length_append, List.length_drop, List.length_append, List.length_cons]; exact Nat.add_le_add_right (adv_fuz hp (Nat.le_refl _)) _
noncomputable def decode2 (p q : List UInt8) : Except Int (List Int) := match RdV.new.feed p with
  | .error e => .error e
  | .ok v => match v.feed q with
    | .error e => .error e
    | .ok v2 => match v2.finish with
      | some e => .error e
      | none => .ok (v.found ++ v2.found)
theorem decode_two (p q : List UInt8) : decode2 p q = decode (p ++ q) := by
  have h := run_append p.length RdV.new p q (Nat.le_refl _)
  unfold decode2 decode RdV.feed
  rw [show (({ RdV.new with found := [] } : RdV).run (RdV.new.rest ++ p).length (RdV.new.rest ++ p)) = RdV.run p.length RdV.new p from rfl]
  rw [show (({ RdV.new with found := [] } : RdV).run (RdV.new.rest ++ (p ++ q)).length (RdV.new.rest ++ (p ++ q))) = RdV.run (p ++ q).length RdV.new (p ++ q) from rfl]
  rw [h]
  cases hp : RdV.run p.length RdV.new p with
  | error e => rfl
  | ok vr =>
    obtain ⟨v1, r⟩ := vr
    dsimp only
    have hm : v1 = RdV.mod v1.found v1.rest ({ v1 with found := [], rest := r } : RdV) := by
      unfold RdV.mod; simp
    rw [hm, mod_run]
    rw [show RdV.mod v1.found v1.rest ({ v1 with found := [], rest := r } : RdV) = v1 from hm.symm]
    cases RdV.run (r ++ q).length ({ v1 with found := [], rest := r } : RdV) (r ++ q) with
    | error e => rfl
    | ok p2 =>
      obtain ⟨v2, r2⟩ := p2
      simp only [Except.map, RdV.mod, RdV.finish]
      try rfl
end Mine
end
section
set_option Elab.async false
set_option linter.all false
set_option maxRecDepth 100000
set_option genSizeOf false
set_option genInjectivity false
namespace Mine
open PySem

/-! what the writer writes is read back -/
noncomputable def Oct (l : List Int) : Prop := ∀ x ∈ l, 0 ≤ x ∧ x < 256
theorem Oct.nil : Oct [] := fun x h => absurd h List.not_mem_nil
theorem Oct.cons {a l} (h : 0 ≤ a ∧ a < 256) (hl : Oct l) : Oct (a :: l) := fun x hx => by
  rcases List.mem_cons.mp hx with rfl | z
  · exact h
  · exact hl x z
theorem Oct.app {a b} (h : Oct a) (h' : Oct b) : Oct (a ++ b) := fun x hx => (List.mem_append.mp hx).elim (h x) (h' x)
theorem u8_octs {c : List Int} (h : Oct c) (i : Nat) : u8 (octs c) i = c.getD i 0 := by
  induction c generalizing i with
  | nil => simp [octs, u8]
  | cons a l ih =>
    cases i with
    | zero =>
      obtain ⟨a0, a1⟩ := h a (.head _)
      have e : a.toNat < 256 := Int.ofNat_lt.mp (by rw [Int.toNat_of_nonneg a0]; exact a1)
      show (((UInt8.ofNat a.toNat).toNat : Nat) : Int) = a
      rw [UInt8.toNat_ofNat_of_lt' e, Int.toNat_of_nonneg a0]
    | succ i => exact ih (fun x hx => h x (.tail _ hx)) i
inductive Reads : LwV → List Int → LwV → Prop
  | nil (v) : Reads v [] v
  | cmd {v v' v''} (o : Int) (t : List Int) {r} (ho : Oct (o :: t)) (hl : ((o :: t).length : Int) = lawLong o v.wide) (hs : v.step (octs (o :: t)) = (some true, v')) (hr : Reads v' r v'') : Reads v ((o :: t) ++ r) v''
theorem Reads.one {v v'} {o : Int} {t : List Int} (ho : Oct (o :: t)) (hl : ((o :: t).length : Int) = lawLong o v.wide) (hs : v.step (octs (o :: t)) = (some true, v')) : Reads v (o :: t) v' := by
  have := Reads.cmd o t ho hl hs (.nil v')
  rwa [List.append_nil] at this
theorem Reads.trans {a b c l l'} (h : Reads a l b) (h' : Reads b l' c) : Reads a (l ++ l') c := by
  induction h with
  | nil => exact h'
  | cmd o t ho hl hs _ ih => rw [List.append_assoc]; exact .cmd o t ho hl hs (ih h')
theorem Reads.oct {a b l} (h : Reads a l b) : Oct l := by
  induction h with
  | nil => exact .nil
  | cmd o t ho hl hs _ ih => exact ho.app ih
theorem octs_app (a b : List Int) : octs (a ++ b) = octs a ++ octs b := by simp [octs]
theorem octs_len (a : List Int) : (octs a).length = a.length := by simp [octs]
theorem Reads.run {v l v'} (h : Reads v l v') (hh : v'.half = none) : ∀ fu at', l.length ≤ fu → v.run fu at' (octs l) = .text v'.text := by
  induction h with
  | nil v =>
    intro fu at' _
    cases fu <;> (unfold LwV.run; simp [hh, octs])
  | @cmd v v' v'' o t r ho hl hs hr ih =>
    intro fu at' hf
    cases fu with
    | zero => simp at hf
    | succ fu =>
      have e : octs (o :: t ++ r) = UInt8.ofNat o.toNat :: (octs t ++ octs r) := by simp [octs]
      have o0 : ((UInt8.ofNat o.toNat).toNat : Int) = o := by
        have := u8_octs ho 0
        simpa [octs, u8] using this
      rw [e, lrun_step, o0, ← hl]
      have hL : (((o :: t).length : Int)).toNat = (o :: t).length := by simp
      rw [hL]
      have e2 : UInt8.ofNat o.toNat :: (octs t ++ octs r) = octs (o :: t) ++ octs r := by simp [octs]
      rw [e2]
      rw [if_neg (by rw [List.length_append, octs_len]; lia)]
      rw [List.take_append_of_le_length (by rw [octs_len]; exact Nat.le_refl _), List.drop_append_of_le_length (by rw [octs_len]; exact Nat.le_refl _)]
      rw [show (o :: t).length = (octs (o :: t)).length from (octs_len _).symm, List.take_length, List.drop_length, hs]
      dsimp only
      rw [List.nil_append]
      refine ih hh _ _ ?_
      simp at hf; lia

/-- the reader between two codes -/
noncomputable def lst (t s : List Int) (a : Int) (w : Bool) : LwV := { text := t, half := none, starts := s, taken := a, wide := w }
set_option hygiene false in
local macro_rules | `(tactic| walk_at "oct") => `(tactic| ((repeat (refine Oct.cons ⟨by lia, by lia⟩ ?_)); exact Oct.nil))
set_option hygiene false in
local macro_rules | `(tactic| walk_at "ifs") => `(tactic| (repeat (first | (rw [if_pos]; rotate_left; (focus ((simp <;> lia); done))) | (rw [if_neg]; rotate_left; (focus ((simp <;> lia); done))))))
theorem o0 {a c} (h : Oct (a :: c)) : u8 (octs (a :: c)) 0 = a := u8_octs h 0
theorem o1 {a b c} (h : Oct (a :: b :: c)) : u8 (octs (a :: b :: c)) 1 = b := u8_octs h 1
theorem o2 {a b d c} (h : Oct (a :: b :: d :: c)) : u8 (octs (a :: b :: d :: c)) 2 = d := u8_octs h 2
theorem lw {t s a w} : (lst t s a w).wide = w := rfl
theorem lh {t s a w} : (lst t s a w).half = none := rfl
theorem lss {t s a w} : (lst t s a w).starts = s := rfl
theorem lta {t s a w} : (lst t s a w).taken = a := rfl
noncomputable def NoSur (c : Int) : Prop := c < 55296 ∨ 57343 < c
theorem told_plain {t s a w} (c : Int) : (lst t s a w).told c false = (true, lst (t ++ [c]) s a w) := by
  unfold LwV.told
  rw [if_neg (by simp), lh, if_neg (by simp), if_neg (by simp)]
  rfl
theorem told_unit {t s a w} {c : Int} (h : NoSur c) : (lst t s a w).told c true = (true, lst (t ++ [c]) s a w) := by
  unfold NoSur at h
  unfold LwV.told
  rw [if_neg (by simp; lia), if_neg (by simp [lst]), if_neg (by simp; lia)]
  rfl
section
variable {t s : List Int} {a : Int}
theorem rd_active {c : Int} (h : s.getD a.toNat 0 ≤ c ∧ c < s.getD a.toNat 0 + 128) : Reads (lst t s a false) [c - s.getD a.toNat 0 + 128] (lst (t ++ [c]) s a false) := by
  generalize hx : s.getD a.toNat 0 = x at *
  have ho : Oct [c - x + 128] := by walk_at "oct"
  refine .one ho ?_ ?_
  · unfold lawLong; rw [lw]; walk_at "ifs"; rfl
  · unfold LwV.step
    rw [o0 ho, lw]
    walk_at "ifs"
    rw [lss, lta, hx, show x + (c - x + 128) - 128 = c from by lia, told_plain]; rfl
theorem rd_plain {c : Int} (h0 : 0 ≤ c ∧ c < 128) (h : 32 ≤ c ∨ c = 0 ∨ c = 9 ∨ c = 10 ∨ c = 13) : Reads (lst t s a false) [c] (lst (t ++ [c]) s a false) := by
  have ho : Oct [c] := by walk_at "oct"
  refine .one ho ?_ ?_
  · unfold lawLong; rw [lw]; walk_at "ifs"; rfl
  · unfold LwV.step
    rw [o0 ho, lw]
    walk_at "ifs"
    exact congrArg some1 (told_plain (t := t) (s := s) (a := a) (w := false) c)
theorem rd_ctl {c : Int} (h0 : 0 ≤ c ∧ c < 128) : Reads (lst t s a false) [1, c] (lst (t ++ [c]) s a false) := by
  have ho : Oct [1, c] := by walk_at "oct"
  refine .one ho ?_ ?_
  · unfold lawLong; rw [lw]; walk_at "ifs"; rfl
  · unfold LwV.step
    rw [o0 ho, o1 ho, lw]
    walk_at "ifs"
    have := congrArg some1 (told_plain (t := t) (s := s) (a := a) (w := false) c)
    rw [show statics.getD (1 - 1 : Int).toNat 0 + c = c from by simp [statics]]
    exact this
theorem rd_change {n : Int} (h : 0 ≤ n ∧ n < 8) : Reads (lst t s a false) [16 + n] (lst t s n false) := by
  have ho : Oct [16 + n] := by walk_at "oct"
  refine .one ho ?_ ?_
  · unfold lawLong; rw [lw]; walk_at "ifs"; rfl
  · unfold LwV.step
    rw [o0 ho, lw]
    walk_at "ifs"
    rw [show 16 + n - 16 = n from by lia]; rfl
theorem rd_quoteW {n c : Int} (h : 0 ≤ n ∧ n < 8) (hc : s.getD n.toNat 0 ≤ c ∧ c < s.getD n.toNat 0 + 128) : Reads (lst t s a false) [1 + n, c - s.getD n.toNat 0 + 128] (lst (t ++ [c]) s a false) := by
  generalize hx : s.getD n.toNat 0 = x at *
  have ho : Oct [1 + n, c - x + 128] := by walk_at "oct"
  refine .one ho ?_ ?_
  · unfold lawLong; rw [lw]; walk_at "ifs"; rfl
  · unfold LwV.step
    rw [o0 ho, o1 ho, lw]
    walk_at "ifs"
    rw [show 1 + n - 1 = n from by lia]; try rw [lss]
    rw [hx, show x + (c - x + 128) - 128 = c from by lia]
    exact congrArg some1 (told_plain (t := t) (s := s) (a := a) (w := false) c)
theorem rd_quoteS {n c : Int} (h : 0 ≤ n ∧ n < 8) (hc : statics.getD n.toNat 0 ≤ c ∧ c < statics.getD n.toNat 0 + 128) : Reads (lst t s a false) [1 + n, c - statics.getD n.toNat 0] (lst (t ++ [c]) s a false) := by
  generalize hx : statics.getD n.toNat 0 = x at *
  have ho : Oct [1 + n, c - x] := by walk_at "oct"
  refine .one ho ?_ ?_
  · unfold lawLong; rw [lw]; walk_at "ifs"; rfl
  · unfold LwV.step
    rw [o0 ho, o1 ho, lw]
    walk_at "ifs"
    rw [show 1 + n - 1 = n from by lia]; try rw [lss]
    rw [hx, show x + (c - x) = c from by lia]
    exact congrArg some1 (told_plain (t := t) (s := s) (a := a) (w := false) c)
theorem rd_unitN {c : Int} (h : 0 ≤ c ∧ c < 65536) (hs : NoSur c) : Reads (lst t s a false) [14, c / 256, c % 256] (lst (t ++ [c]) s a false) := by
  have ho : Oct [14, c / 256, c % 256] := by walk_at "oct"
  refine .one ho ?_ ?_
  · unfold lawLong; rw [lw]; walk_at "ifs"; rfl
  · unfold LwV.step
    rw [o0 ho, o1 ho, o2 ho, lw]
    walk_at "ifs"
    rw [show c / 256 * 256 + c % 256 = c from by lia]
    exact congrArg some1 (told_unit hs)
theorem rd_unitW {c : Int} (h : 0 ≤ c ∧ c < 65536) (h2 : c / 256 < 224 ∨ 242 < c / 256) (hs : NoSur c) : Reads (lst t s a true) [c / 256, c % 256] (lst (t ++ [c]) s a true) := by
  have ho : Oct [c / 256, c % 256] := by walk_at "oct"
  refine .one ho ?_ ?_
  · unfold lawLong; rw [lw]; walk_at "ifs"; rfl
  · unfold LwV.step
    rw [o0 ho, o1 ho, lw]
    walk_at "ifs"
    rw [show c / 256 * 256 + c % 256 = c from by lia]
    exact congrArg some1 (told_unit hs)
theorem rd_unitQ {c : Int} (h : 0 ≤ c ∧ c < 65536) (hs : NoSur c) : Reads (lst t s a true) [240, c / 256, c % 256] (lst (t ++ [c]) s a true) := by
  have ho : Oct [240, c / 256, c % 256] := by walk_at "oct"
  refine .one ho ?_ ?_
  · unfold lawLong; rw [lw]; walk_at "ifs"; rfl
  · unfold LwV.step
    rw [o0 ho, o1 ho, o2 ho, lw]
    walk_at "ifs"
    rw [show c / 256 * 256 + c % 256 = c from by lia]
    exact congrArg some1 (told_unit hs)
theorem rd_go : Reads (lst t s a false) [15] (lst t s a true) := by
  have ho : Oct [15] := by walk_at "oct"
  refine .one ho rfl ?_
  unfold LwV.step
  rw [o0 ho, lw]; rfl
theorem rd_goUnit {c : Int} (h : 0 ≤ c ∧ c < 65536) (h2 : c / 256 < 224 ∨ 242 < c / 256) (hs : NoSur c) : Reads (lst t s a false) [15, c / 256, c % 256] (lst (t ++ [c]) s a true) := rd_go.trans (rd_unitW h h2 hs)
theorem far_back {n p : Int} (h : 0 ≤ n ∧ n < 8) (hp : 0 ≤ p ∧ p < 8192) : (n * 32 + p / 256) / 32 = n ∧ (n * 32 + p / 256) % 32 * 256 + p % 256 = p := by
  have a := Int.ediv_nonneg hp.1 (show (0 : Int) ≤ 256 by decide)
  have b : p / 256 < 32 := Int.ediv_lt_of_lt_mul (by decide) hp.2
  have e := Int.mul_ediv_add_emod p 256
  rw [Int.add_comm (n * 32), Int.add_mul_ediv_right _ _ (by decide), Int.ediv_eq_zero_of_lt a b, Int.zero_add, Int.add_mul_emod_self_right, Int.emod_eq_of_lt a b, Int.mul_comm (p / 256)]
  exact ⟨rfl, e⟩
theorem hi_bd {c : Int} (h : 65536 ≤ c ∧ c ≤ 1114111) : 0 ≤ (c - 65536) / 1024 ∧ (c - 65536) / 1024 < 1024 :=
  ⟨Int.ediv_nonneg (Int.sub_nonneg.mpr h.1) (show (0 : Int) ≤ 1024 by decide), Int.ediv_lt_of_lt_mul (by decide) (by lia)⟩
theorem lo_bd (c : Int) : 0 ≤ (c - 65536) % 1024 ∧ (c - 65536) % 1024 < 1024 :=
  ⟨Int.emod_nonneg _ (by decide), Int.emod_lt_of_pos _ (by decide)⟩
theorem rd_farN {n p : Int} (h : 0 ≤ n ∧ n < 8) (hp : 0 ≤ p ∧ p < 8192) : Reads (lst t s a false) [11, n * 32 + p / 256, p % 256] (lst t (s.set n.toNat (65536 + p * 128)) n false) := by
  have ho : Oct [11, n * 32 + p / 256, p % 256] := by walk_at "oct"
  obtain ⟨e1, e2⟩ := far_back h hp
  refine .one ho ?_ ?_
  · unfold lawLong; rw [lw]; walk_at "ifs"; rfl
  · unfold LwV.step
    rw [o0 ho, o1 ho, o2 ho, lw]
    walk_at "ifs"
    rw [e1, e2]; rfl
theorem rd_farW {n p : Int} (h : 0 ≤ n ∧ n < 8) (hp : 0 ≤ p ∧ p < 8192) : Reads (lst t s a true) [241, n * 32 + p / 256, p % 256] (lst t (s.set n.toNat (65536 + p * 128)) n false) := by
  have ho : Oct [241, n * 32 + p / 256, p % 256] := by walk_at "oct"
  obtain ⟨e1, e2⟩ := far_back h hp
  refine .one ho ?_ ?_
  · unfold lawLong; rw [lw]; walk_at "ifs"; rfl
  · unfold LwV.step
    rw [o0 ho, o1 ho, o2 ho, lw]
    walk_at "ifs"
    rw [e1, e2]; rfl
theorem rd_defN {n i st : Int} (h : 0 ≤ n ∧ n < 8) (hi : 0 ≤ i ∧ i < 256) (hs : lawStart i = some st) : Reads (lst t s a false) [24 + n, i] (lst t (s.set n.toNat st) n false) := by
  have ho : Oct [24 + n, i] := by walk_at "oct"
  refine .one ho ?_ ?_
  · unfold lawLong; rw [lw]; walk_at "ifs"; rfl
  · unfold LwV.step
    rw [o0 ho, o1 ho, lw]
    walk_at "ifs"
    rw [hs, show 24 + n - 24 = n from by lia]; rfl
theorem rd_defW {n i st : Int} (h : 0 ≤ n ∧ n < 8) (hi : 0 ≤ i ∧ i < 256) (hs : lawStart i = some st) : Reads (lst t s a true) [232 + n, i] (lst t (s.set n.toNat st) n false) := by
  have ho : Oct [232 + n, i] := by walk_at "oct"
  refine .one ho ?_ ?_
  · unfold lawLong; rw [lw]; walk_at "ifs"; rfl
  · unfold LwV.step
    rw [o0 ho, o1 ho, lw]
    walk_at "ifs"
    rw [hs, show 232 + n - 232 = n from by lia]; rfl
theorem rd_changeW {n : Int} (h : 0 ≤ n ∧ n < 8) : Reads (lst t s a true) [224 + n] (lst t s n false) := by
  have ho : Oct [224 + n] := by walk_at "oct"
  refine .one ho ?_ ?_
  · unfold lawLong; rw [lw]; walk_at "ifs"; rfl
  · unfold LwV.step
    rw [o0 ho, lw]
    walk_at "ifs"
    rw [show 224 + n - 224 = n from by lia]; rfl
theorem rd_pair {c : Int} (h : 65536 ≤ c ∧ c ≤ 1114111) : Reads (lst t s a true) ([(55296 + (c - 65536) / 1024) / 256, (55296 + (c - 65536) / 1024) % 256] ++ [(56320 + (c - 65536) % 1024) / 256, (56320 + (c - 65536) % 1024) % 256]) (lst (t ++ [c]) s a true) := by
  have q1 := hi_bd h
  have q2 := lo_bd c
  have q3 := Int.mul_ediv_add_emod (c - 65536) 1024
  generalize (c - 65536) / 1024 = x at *
  generalize (c - 65536) % 1024 = y at *
  generalize hu : 55296 + x = u
  generalize hw : 56320 + y = w
  have hc : 65536 + (u - 55296) * 1024 + w - 56320 = c := by clear h q1 q2; lia
  have hu' : 55296 ≤ u ∧ u ≤ 56319 := by clear q3 hc h q2 hw; lia
  have hw' : 56320 ≤ w ∧ w ≤ 57343 := by clear q3 hc h q1 hu hu'; lia
  clear hu hw h q1 q2 q3
  revert hc
  have ho : Oct [u / 256, u % 256] := by walk_at "oct"
  have ho2 : Oct [w / 256, w % 256] := by walk_at "oct"
  intro hc
  refine .cmd (v' := { text := t, half := some u, starts := s, taken := a, wide := true }) _ _ ho ?_ ?_ (.one ho2 ?_ ?_)
  · clear hc ho2 hw'; unfold lawLong; rw [lw]; walk_at "ifs"; rfl
  · clear hc ho2 hw'
    unfold LwV.step
    rw [o0 ho, o1 ho, lw]
    walk_at "ifs"
    rw [show u / 256 * 256 + u % 256 = u from by lia]
    unfold LwV.told
    rw [if_neg (by simp; lia), lh, if_neg (by simp), if_pos (by simp; lia)]
    rfl
  · clear hc ho hu'; unfold lawLong; simp only; walk_at "ifs"; rfl
  · revert hc; clear ho hu'
    unfold LwV.step
    rw [o0 ho2, o1 ho2]; dsimp only [List.getD_cons_zero, List.getD_cons_succ, lst]
    walk_at "ifs"
    rw [show w / 256 * 256 + w % 256 = w from by lia]
    unfold LwV.told
    rw [if_pos (by simp; lia), if_neg (by simp)]
    dsimp only [Option.getD]
    intro hc
    rw [hc]; rfl
end
theorem lread_of {l : List Int} {t s a w} (h : Reads (lst [] firsts 0 false) l (lst t s a w)) : lread (octs l) = .text t := by
  have := h.run rfl l.length 0 (Nat.le_refl _)
  unfold lread
  rw [octs_len]; exact this
end Mine
end
section
open PySem PySem.W PyProof.Rows
set_option Elab.async false
set_option maxRecDepth 100000
set_option maxHeartbeats 8000000
namespace Mine
section
local macro_rules | `(tactic| o_head $_) => `(tactic| assumption)
theorem kd (_ : PySem.Challenge.rw_nt0041_01.row.Holds) : PySem.Challenge.rw_nt0041_01.row.Holds := by
  k_head
end
end Mine
end
section
set_option Elab.async false
set_option linter.all false
set_option maxRecDepth 100000
set_option genSizeOf false
set_option genInjectivity false
namespace Mine
open PySem PySem.W PySem.Calls PyProof.Rows

structure Gp where
  w : World
  p : Program
  tl : Frag
  loose : List Str
  mean : ExcName → Option Value
  mg : Str → Option Value
  mb : Str → Option Value
noncomputable def Gd (g : Gp) : Gl := { prog := PySem.Challenge.rw_nt0041_01.row.prog, w := g.w, K := kd.heap_1 g.w.params ++ g.tl, p := g.p, loose := g.loose, mean := g.mean, mg := g.mg, mb := g.mb }
inductive NsI0 : Str → Option (Option Value) → Prop
  | c0 : NsI0 "MAX_CODE" (some (some (.int 1114111 189)))
  | c1 : NsI0 "HIGH_FIRST" (some (some (.int 55296 191)))
  | c2 : NsI0 "HIGH_LAST" (some (some (.int 56319 193)))
  | c3 : NsI0 "LOW_FIRST" (some (some (.int 56320 195)))
  | c4 : NsI0 "LOW_LAST" (some (some (.int 57343 197)))
  | c5 : NsI0 "UniError" (some (some (.ref 32)))
  | c6 : NsI0 "BadEncoding" (some (some (.ref 45)))
  | c7 : NsI0 "BadCode" (some (some (.ref 57)))
  | c8 : NsI0 "is_code" (some (some (.ref 66)))
  | c9 : NsI0 "is_high" (some (some (.ref 73)))
  | c10 : NsI0 "is_low" (some (some (.ref 80)))
  | c11 : NsI0 "is_surrogate" (some (some (.ref 87)))
  | c12 : NsI0 "is_scalar" (some (some (.ref 94)))
  | c13 : NsI0 "check_scalars" (some (some (.ref 101)))
  | c14 : NsI0 "WINDOW_SIZE" (some (some (.int 128 305)))
  | c15 : NsI0 "WINDOWS" (some (some (.int 8 307)))
  | c16 : NsI0 "FAR_START" (some (some (.int 65536 309)))
  | c17 : NsI0 "GAP_START" (some (some (.int 13312 311)))
  | c18 : NsI0 "GAP_END" (some (some (.int 57344 313)))
  | c19 : NsI0 "GAP_SHIFT" (some (some (.int 44032 315)))
theorem NsI0_ok (g : Gp) {x v} (h : NsI0 x v) : nsIn (Gd g).K mainGlobals x = v :=
  NsI0.rec (motive := fun x v _ => nsIn (Gd g).K mainGlobals x = v) (by kernel_rfl) (by kernel_rfl) (by kernel_rfl) (by kernel_rfl) (by kernel_rfl) (by kernel_rfl) (by kernel_rfl) (by kernel_rfl) (by kernel_rfl) (by kernel_rfl) (by kernel_rfl) (by kernel_rfl) (by kernel_rfl) (by kernel_rfl) (by kernel_rfl) (by kernel_rfl) (by kernel_rfl) (by kernel_rfl) (by kernel_rfl) (by kernel_rfl) h
theorem k_BadEncoding (g : Gp) : nsIn (Gd g).K mainGlobals "BadEncoding" = some (some (.ref 45)) := NsI0_ok g NsI0.c6
theorem k_BadCode (g : Gp) : nsIn (Gd g).K mainGlobals "BadCode" = some (some (.ref 57)) := NsI0_ok g NsI0.c7
inductive NsI1 : Str → Option (Option Value) → Prop
  | c0 : NsI1 "FIRST_GAP_INDEX" (some (some (.int 104 317)))
  | c1 : NsI1 "LAST_INDEX" (some (some (.int 167 319)))
  | c2 : NsI1 "FIRST_SPECIAL_INDEX" (some (some (.int 249 321)))
  | c3 : NsI1 "QUOTE" (some (some (.int 1 323)))
  | c4 : NsI1 "DEFINE_FAR" (some (some (.int 11 325)))
  | c5 : NsI1 "QUOTE_UNIT" (some (some (.int 14 327)))
  | c6 : NsI1 "GO_WIDE" (some (some (.int 15 329)))
  | c7 : NsI1 "CHANGE" (some (some (.int 16 331)))
  | c8 : NsI1 "DEFINE" (some (some (.int 24 333)))
  | c9 : NsI1 "WIDE_CHANGE" (some (some (.int 224 335)))
  | c10 : NsI1 "WIDE_DEFINE" (some (some (.int 232 337)))
  | c11 : NsI1 "WIDE_QUOTE_UNIT" (some (some (.int 240 339)))
  | c12 : NsI1 "WIDE_DEFINE_FAR" (some (some (.int 241 341)))
  | c13 : NsI1 "WIDE_RESERVED" (some (some (.int 242 343)))
  | c14 : NsI1 "NARROW_RESERVED" (some (some (.int 12 345)))
  | c15 : NsI1 "PLAIN_CONTROLS" (some (some (.ref 102)))
  | c16 : NsI1 "SIGNATURE" (some (some (.int 65279 352)))
  | c17 : NsI1 "scsu_static_windows" (some (some (.ref 109)))
  | c18 : NsI1 "scsu_first_windows" (some (some (.ref 116)))
  | c19 : NsI1 "scsu_special_starts" (some (some (.ref 123)))
theorem NsI1_ok (g : Gp) {x v} (h : NsI1 x v) : nsIn (Gd g).K mainGlobals x = v :=
  NsI1.rec (motive := fun x v _ => nsIn (Gd g).K mainGlobals x = v) (by kernel_rfl) (by kernel_rfl) (by kernel_rfl) (by kernel_rfl) (by kernel_rfl) (by kernel_rfl) (by kernel_rfl) (by kernel_rfl) (by kernel_rfl) (by kernel_rfl) (by kernel_rfl) (by kernel_rfl) (by kernel_rfl) (by kernel_rfl) (by kernel_rfl) (by kernel_rfl) (by kernel_rfl) (by kernel_rfl) (by kernel_rfl) (by kernel_rfl) h
inductive NsI2 : Str → Option (Option Value) → Prop
  | c0 : NsI2 "scsu_window_start" (some (some (.ref 130)))
  | c1 : NsI2 "scsu_window_indexes" (some (some (.ref 137)))
  | c2 : NsI2 "scsu_far_window" (some (some (.ref 144)))
  | c3 : NsI2 "scsu_narrow_length" (some (some (.ref 151)))
  | c4 : NsI2 "scsu_wide_length" (some (some (.ref 158)))
  | c5 : NsI2 "ScsuReader" (some (some (.ref 245)))
  | c6 : NsI2 "decode_scsu" (some (some (.ref 256)))
  | c7 : NsI2 "ScsuWindows" (some (some (.ref 306)))
  | c8 : NsI2 "scsu_is_wide_alone" (some (some (.ref 317)))
  | c9 : NsI2 "ScsuWriter" (some (some (.ref 432)))
  | c10 : NsI2 "encode_scsu" (some (some (.ref 444)))
  | c11 : NsI2 "_law_still" (some (some (.ref 451)))
  | c12 : NsI2 "_law_first" (some (some (.ref 458)))
  | c13 : NsI2 "_law_special" (some (some (.ref 465)))
  | c14 : NsI2 "_law_indexes" (some (some (.ref 472)))
  | c15 : NsI2 "_law_units" (some (some (.ref 479)))
  | c16 : NsI2 "_law_codes" (some (some (.ref 480)))
  | c17 : NsI2 "_law_deck" (some (some (.ref 485)))
  | c18 : NsI2 "_law_draw" (some (some (.ref 492)))
  | c19 : NsI2 "_law_wide" (some (some (.ref 499)))
theorem NsI2_ok (g : Gp) {x v} (h : NsI2 x v) : nsIn (Gd g).K mainGlobals x = v :=
  NsI2.rec (motive := fun x v _ => nsIn (Gd g).K mainGlobals x = v) (by kernel_rfl) (by kernel_rfl) (by kernel_rfl) (by kernel_rfl) (by kernel_rfl) (by kernel_rfl) (by kernel_rfl) (by kernel_rfl) (by kernel_rfl) (by kernel_rfl) (by kernel_rfl) (by kernel_rfl) (by kernel_rfl) (by kernel_rfl) (by kernel_rfl) (by kernel_rfl) (by kernel_rfl) (by kernel_rfl) (by kernel_rfl) (by kernel_rfl) h
theorem k__law_codes (g : Gp) : nsIn (Gd g).K mainGlobals "_law_codes" = some (some (.ref 480)) := NsI2_ok g NsI2.c16
theorem k__law_draw (g : Gp) : nsIn (Gd g).K mainGlobals "_law_draw" = some (some (.ref 492)) := NsI2_ok g NsI2.c18
inductive NsI3 : Str → Option (Option Value) → Prop
  | c0 : NsI3 "_law_narrow" (some (some (.ref 506)))
  | c1 : NsI3 "_law_start" (some (some (.ref 513)))
  | c2 : NsI3 "_law_long" (some (some (.ref 520)))
  | c3 : NsI3 "_law_told" (some (some (.ref 527)))
  | c4 : NsI3 "_law_laid" (some (some (.ref 534)))
  | c5 : NsI3 "_law_step" (some (some (.ref 541)))
  | c6 : NsI3 "_law_read" (some (some (.ref 548)))
  | c7 : NsI3 "_law_decoded" (some (some (.ref 555)))
  | c8 : NsI3 "_law_written" (some (some (.ref 562)))
  | c9 : NsI3 "law" (some (some (.ref 567)))
  | c10 : NsI3 "len" (some none)
  | c11 : NsI3 "bytes" (some none)
  | c12 : NsI3 "range" (some none)
  | c13 : NsI3 "enumerate" (some none)
  | c14 : NsI3 "int" (some none)
  | c15 : NsI3 "list" (some none)
  | c16 : NsI3 "isinstance" (some none)
  | c17 : NsI3 "tuple" (some none)
theorem NsI3_ok (g : Gp) {x v} (h : NsI3 x v) : nsIn (Gd g).K mainGlobals x = v :=
  NsI3.rec (motive := fun x v _ => nsIn (Gd g).K mainGlobals x = v) (by kernel_rfl) (by kernel_rfl) (by kernel_rfl) (by kernel_rfl) (by kernel_rfl) (by kernel_rfl) (by kernel_rfl) (by kernel_rfl) (by kernel_rfl) (by kernel_rfl) (by kernel_rfl) (by kernel_rfl) (by kernel_rfl) (by kernel_rfl) (by kernel_rfl) (by kernel_rfl) (by kernel_rfl) (by kernel_rfl) h
theorem k_int (g : Gp) : nsIn (Gd g).K mainGlobals "int" = some none := NsI3_ok g NsI3.c14
inductive BootI : Str → Option Value → Prop
  | c0 : BootI "len" (some (.builtin "len"))
  | c1 : BootI "bytes" (some (.type "bytes"))
  | c2 : BootI "range" (some (.type "range"))
  | c3 : BootI "enumerate" (some (.type "enumerate"))
  | c4 : BootI "int" (some (.type "int"))
  | c5 : BootI "list" (some (.type "list"))
  | c6 : BootI "isinstance" (some (.builtin "isinstance"))
  | c7 : BootI "tuple" (some (.type "tuple"))
theorem BootI_ok {x v} (h : BootI x v) : bootBuiltins x = v :=
  BootI.rec (motive := fun x v _ => bootBuiltins x = v) (by kernel_rfl) (by kernel_rfl) (by kernel_rfl) (by kernel_rfl) (by kernel_rfl) (by kernel_rfl) (by kernel_rfl) (by kernel_rfl) h
theorem b_int : bootBuiltins "int" = some (.type "int") := BootI_ok BootI.c4
inductive KeepI0 : Addr → Prop
  | c0 : KeepI0 45
  | c1 : KeepI0 57
  | c2 : KeepI0 66
  | c3 : KeepI0 73
  | c4 : KeepI0 80
  | c5 : KeepI0 87
  | c6 : KeepI0 94
  | c7 : KeepI0 101
  | c8 : KeepI0 109
  | c9 : KeepI0 116
  | c10 : KeepI0 123
  | c11 : KeepI0 130
  | c12 : KeepI0 137
  | c13 : KeepI0 144
  | c14 : KeepI0 151
  | c15 : KeepI0 158
  | c16 : KeepI0 245
  | c17 : KeepI0 256
  | c18 : KeepI0 306
  | c19 : KeepI0 317
theorem KeepI0_ok (g : Gp) {a} (h : KeepI0 a) : keepsG (Gd g).K (.ref a) = true :=
  KeepI0.rec (motive := fun a _ => keepsG (Gd g).K (.ref a) = true) (by kernel_rfl) (by kernel_rfl) (by kernel_rfl) (by kernel_rfl) (by kernel_rfl) (by kernel_rfl) (by kernel_rfl) (by kernel_rfl) (by kernel_rfl) (by kernel_rfl) (by kernel_rfl) (by kernel_rfl) (by kernel_rfl) (by kernel_rfl) (by kernel_rfl) (by kernel_rfl) (by kernel_rfl) (by kernel_rfl) (by kernel_rfl) (by kernel_rfl) h
theorem kk_45 (g : Gp) : keepsG (Gd g).K (.ref 45) = true := KeepI0_ok g KeepI0.c0
theorem kk_57 (g : Gp) : keepsG (Gd g).K (.ref 57) = true := KeepI0_ok g KeepI0.c1
inductive KeepI1 : Addr → Prop
  | c0 : KeepI1 432
  | c1 : KeepI1 444
  | c2 : KeepI1 451
  | c3 : KeepI1 458
  | c4 : KeepI1 465
  | c5 : KeepI1 472
  | c6 : KeepI1 479
  | c7 : KeepI1 485
  | c8 : KeepI1 492
  | c9 : KeepI1 499
  | c10 : KeepI1 506
  | c11 : KeepI1 513
  | c12 : KeepI1 520
  | c13 : KeepI1 527
  | c14 : KeepI1 534
  | c15 : KeepI1 541
  | c16 : KeepI1 548
  | c17 : KeepI1 555
  | c18 : KeepI1 562
  | c19 : KeepI1 567
theorem KeepI1_ok (g : Gp) {a} (h : KeepI1 a) : keepsG (Gd g).K (.ref a) = true :=
  KeepI1.rec (motive := fun a _ => keepsG (Gd g).K (.ref a) = true) (by kernel_rfl) (by kernel_rfl) (by kernel_rfl) (by kernel_rfl) (by kernel_rfl) (by kernel_rfl) (by kernel_rfl) (by kernel_rfl) (by kernel_rfl) (by kernel_rfl) (by kernel_rfl) (by kernel_rfl) (by kernel_rfl) (by kernel_rfl) (by kernel_rfl) (by kernel_rfl) (by kernel_rfl) (by kernel_rfl) (by kernel_rfl) (by kernel_rfl) h
theorem kk_492 (g : Gp) : keepsG (Gd g).K (.ref 492) = true := KeepI1_ok g KeepI1.c8
inductive AttrI : Addr → Str → Prop
  | c0 : AttrI 245 "starts"
  | c1 : AttrI 245 "statics"
  | c2 : AttrI 245 "active"
  | c3 : AttrI 245 "is_wide"
  | c4 : AttrI 245 "rest"
  | c5 : AttrI 245 "gone"
  | c6 : AttrI 245 "high"
  | c7 : AttrI 245 "high_at"
  | c8 : AttrI 245 "found"
  | c9 : AttrI 306 "starts"
  | c10 : AttrI 306 "active"
  | c11 : AttrI 306 "used"
  | c12 : AttrI 306 "count"
  | c13 : AttrI 432 "text"
  | c14 : AttrI 432 "ahead"
  | c15 : AttrI 432 "windows"
  | c16 : AttrI 432 "statics"
  | c17 : AttrI 432 "is_wide"
  | c18 : AttrI 432 "octets"
theorem AttrI_ok (g : Gp) {a x} (h : AttrI a x) : attrOk (Gd g).K a x = true :=
  AttrI.rec (motive := fun a x _ => attrOk (Gd g).K a x = true) (by kernel_rfl) (by kernel_rfl) (by kernel_rfl) (by kernel_rfl) (by kernel_rfl) (by kernel_rfl) (by kernel_rfl) (by kernel_rfl) (by kernel_rfl) (by kernel_rfl) (by kernel_rfl) (by kernel_rfl) (by kernel_rfl) (by kernel_rfl) (by kernel_rfl) (by kernel_rfl) (by kernel_rfl) (by kernel_rfl) (by kernel_rfl) h
inductive SetI : Addr → Str → Prop
  | c0 : SetI 245 "starts"
  | c1 : SetI 245 "statics"
  | c2 : SetI 245 "active"
  | c3 : SetI 245 "is_wide"
  | c4 : SetI 245 "rest"
  | c5 : SetI 245 "gone"
  | c6 : SetI 245 "high"
  | c7 : SetI 245 "high_at"
  | c8 : SetI 245 "found"
  | c9 : SetI 306 "starts"
  | c10 : SetI 306 "active"
  | c11 : SetI 306 "used"
  | c12 : SetI 306 "count"
  | c13 : SetI 432 "text"
  | c14 : SetI 432 "ahead"
  | c15 : SetI 432 "windows"
  | c16 : SetI 432 "statics"
  | c17 : SetI 432 "is_wide"
  | c18 : SetI 432 "octets"
theorem SetI_ok (g : Gp) {a x} (h : SetI a x) : setOk (Gd g).K a x = true :=
  SetI.rec (motive := fun a x _ => setOk (Gd g).K a x = true) (by kernel_rfl) (by kernel_rfl) (by kernel_rfl) (by kernel_rfl) (by kernel_rfl) (by kernel_rfl) (by kernel_rfl) (by kernel_rfl) (by kernel_rfl) (by kernel_rfl) (by kernel_rfl) (by kernel_rfl) (by kernel_rfl) (by kernel_rfl) (by kernel_rfl) (by kernel_rfl) (by kernel_rfl) (by kernel_rfl) (by kernel_rfl) h
theorem s_245_starts (g : Gp) : setOk (Gd g).K 245 "starts" = true := SetI_ok g SetI.c0
theorem s_245_statics (g : Gp) : setOk (Gd g).K 245 "statics" = true := SetI_ok g SetI.c1
theorem s_245_rest (g : Gp) : setOk (Gd g).K 245 "rest" = true := SetI_ok g SetI.c4
theorem s_245_found (g : Gp) : setOk (Gd g).K 245 "found" = true := SetI_ok g SetI.c8
theorem s_306_starts (g : Gp) : setOk (Gd g).K 306 "starts" = true := SetI_ok g SetI.c9
theorem s_306_used (g : Gp) : setOk (Gd g).K 306 "used" = true := SetI_ok g SetI.c11
theorem s_432_windows (g : Gp) : setOk (Gd g).K 432 "windows" = true := SetI_ok g SetI.c15
theorem s_432_statics (g : Gp) : setOk (Gd g).K 432 "statics" = true := SetI_ok g SetI.c16
theorem s_432_octets (g : Gp) : setOk (Gd g).K 432 "octets" = true := SetI_ok g SetI.c18
inductive MethI : Addr → Str → Addr → Prop
  | c0 : MethI 245 "feed" 179
  | c1 : MethI 245 "finish" 186
  | c2 : MethI 245 "put_code" 193
  | c3 : MethI 245 "put_unit" 200
  | c4 : MethI 245 "move" 207
  | c5 : MethI 245 "move_far" 214
  | c6 : MethI 245 "change" 221
  | c7 : MethI 245 "quoted" 228
  | c8 : MethI 245 "take_narrow" 235
  | c9 : MethI 245 "take_wide" 242
  | c10 : MethI 306 "number_of" 275
  | c11 : MethI 306 "holds" 282
  | c12 : MethI 306 "use" 289
  | c13 : MethI 306 "oldest" 296
  | c14 : MethI 306 "lay" 303
  | c15 : MethI 432 "written" 338
  | c16 : MethI 432 "run" 345
  | c17 : MethI 432 "best_window" 352
  | c18 : MethI 432 "static_with" 359
  | c19 : MethI 432 "put_in_active" 366
  | c20 : MethI 432 "put_narrow" 373
  | c21 : MethI 432 "put_unit_or_go" 380
  | c22 : MethI 432 "put_far_or_new" 387
  | c23 : MethI 432 "lay" 394
  | c24 : MethI 432 "lay_far" 401
  | c25 : MethI 432 "does_leave" 408
  | c26 : MethI 432 "put_unit" 415
  | c27 : MethI 432 "put_wide" 422
  | c28 : MethI 432 "leave" 429
theorem MethI_ok (g : Gp) {a x f} (h : MethI a x f) : methOk (Gd g).K a x f = true :=
  MethI.rec (motive := fun a x f _ => methOk (Gd g).K a x f = true) (by kernel_rfl) (by kernel_rfl) (by kernel_rfl) (by kernel_rfl) (by kernel_rfl) (by kernel_rfl) (by kernel_rfl) (by kernel_rfl) (by kernel_rfl) (by kernel_rfl) (by kernel_rfl) (by kernel_rfl) (by kernel_rfl) (by kernel_rfl) (by kernel_rfl) (by kernel_rfl) (by kernel_rfl) (by kernel_rfl) (by kernel_rfl) (by kernel_rfl) (by kernel_rfl) (by kernel_rfl) (by kernel_rfl) (by kernel_rfl) (by kernel_rfl) (by kernel_rfl) (by kernel_rfl) (by kernel_rfl) (by kernel_rfl) h
theorem m_245_feed (g : Gp) : methOk (Gd g).K 245 "feed" 179 = true := MethI_ok g MethI.c0
theorem m_245_move (g : Gp) : methOk (Gd g).K 245 "move" 207 = true := MethI_ok g MethI.c4
theorem m_306_number_of (g : Gp) : methOk (Gd g).K 306 "number_of" 275 = true := MethI_ok g MethI.c10
theorem m_432_written (g : Gp) : methOk (Gd g).K 432 "written" 338 = true := MethI_ok g MethI.c15
theorem m_432_run (g : Gp) : methOk (Gd g).K 432 "run" 345 = true := MethI_ok g MethI.c16
theorem m_432_best_window (g : Gp) : methOk (Gd g).K 432 "best_window" 352 = true := MethI_ok g MethI.c17
theorem m_432_does_leave (g : Gp) : methOk (Gd g).K 432 "does_leave" 408 = true := MethI_ok g MethI.c25
theorem mk_245 (g : Gp) : makesIn (Gd g).K 245 = true := by kernel_rfl
theorem in_245 (g : Gp) : findIn (Gd g).K (.ref 245) "__init__" = some (some (.ref 172)) := by kernel_rfl
theorem if_245 (g : Gp) : isFn (Gd g).K (.ref 172) = true := by kernel_rfl
theorem mk_306 (g : Gp) : makesIn (Gd g).K 306 = true := by kernel_rfl
theorem in_306 (g : Gp) : findIn (Gd g).K (.ref 306) "__init__" = some (some (.ref 268)) := by kernel_rfl
theorem if_306 (g : Gp) : isFn (Gd g).K (.ref 268) = true := by kernel_rfl
theorem mk_432 (g : Gp) : makesIn (Gd g).K 432 = true := by kernel_rfl
theorem in_432 (g : Gp) : findIn (Gd g).K (.ref 432) "__init__" = some (some (.ref 331)) := by kernel_rfl
theorem if_432 (g : Gp) : isFn (Gd g).K (.ref 331) = true := by kernel_rfl
theorem xo_45 (g : Gp) : XCls (Gd g).K 45 29 := ⟨⟨_, _, _, _, _, _, _, _, _, _, _, _, _, _, _, rfl, by rfl, by rfl, by rfl, by rfl, by rfl, fun self => by rw [refuseLoop_ref, refuseLoop_ref]; exact PySem.F.store_Exception.passes self⟩, by kernel_rfl, by kernel_rfl, by kernel_rfl, by kernel_rfl⟩
theorem xg_45 (g : Gp) : XGet (Gd g).K 45 := ⟨by kernel_rfl, by kernel_rfl, by kernel_rfl, by kernel_rfl⟩
theorem xo_57 (g : Gp) : XCls (Gd g).K 57 29 := ⟨⟨_, _, _, _, _, _, _, _, _, _, _, _, _, _, _, rfl, by rfl, by rfl, by rfl, by rfl, by rfl, fun self => by rw [refuseLoop_ref, refuseLoop_ref]; exact PySem.F.store_Exception.passes self⟩, by kernel_rfl, by kernel_rfl, by kernel_rfl, by kernel_rfl⟩
theorem xg_57 (g : Gp) : XGet (Gd g).K 57 := ⟨by kernel_rfl, by kernel_rfl, by kernel_rfl, by kernel_rfl⟩
theorem xi_29 (g : Gp) : XInit (Gd g) 29 := ⟨⟨_, _, _, _, _, _, _, _, _, _, _, _, _, _, _, _, _, _, rfl, by kernel_rfl, fun s e v XK => BindsTo.of_defaults rfl (XK 22 _ rfl) rfl rfl rfl, by rfl, by rfl, by rfl, by rfl, by rfl, by decide⟩⟩
end Mine
end
section
set_option Elab.async false
set_option compiler.extract_closed false
set_option linter.all false
set_option maxRecDepth 100000
set_option maxHeartbeats 1000000
set_option genSizeOf false
set_option genInjectivity false
namespace Mine
open PySem PySem.W PySem.Calls PyProof.Rows

set_option hygiene false in
local macro_rules | `(tactic| walk_at "mem") => `(tactic| focus ((repeat (with_reducible first | exact List.mem_cons_self | apply List.mem_cons_of_mem)); done))
set_option hygiene false in
local macro_rules | `(tactic| walk_at "lput") => `(tactic| focus ((repeat (with_reducible first | exact LPut.here | apply LPut.there)); done))
set_option hygiene false in
local macro_rules | `(tactic| walk_at "put") => `(tactic| focus ((repeat (with_reducible first | exact Put.here | apply Put.there)); done))
set_option hygiene false in
local macro_rules | `(tactic| walk_at "nputs") => `(tactic| focus ((repeat (with_reducible first | exact NPuts.nil | (apply NPuts.cons; walk_at "lput"))); done))
set_option hygiene false in
local macro_rules | `(tactic| walk_at "glob") => `(tactic| with_reducible first | exact NsI0_ok _ (by constructor) | exact NsI1_ok _ (by constructor) | exact NsI2_ok _ (by constructor) | exact NsI3_ok _ (by constructor))
set_option hygiene false in
local macro_rules | `(tactic| walk_at "boot") => `(tactic| with_reducible exact BootI_ok (by constructor))
set_option hygiene false in
local macro_rules | `(tactic| walk_at "keeps") => `(tactic| first | with_reducible rfl | with_reducible exact KeepI0_ok _ (by constructor) | with_reducible exact KeepI1_ok _ (by constructor) | rfl)
set_option hygiene false in
local macro_rules | `(tactic| walk_at "attr") => `(tactic| with_reducible exact AttrI_ok _ (by constructor))
set_option hygiene false in
local macro_rules | `(tactic| walk_at "meth") => `(tactic| with_reducible exact MethI_ok _ (by constructor))

set_option hygiene false in
local macro_rules | `(tactic| walk_at "ne") => `(tactic| first | assumption | exact Ne.symm (by assumption) | exact ne_fresh (by assumption) (by walk_at "hp") | exact Ne.symm (ne_fresh (by assumption) (by walk_at "hp")))
set_option hygiene false in
local macro_rules | `(tactic| walk_at "hp") => `(tactic| first | assumption | with_reducible exact upd_same | ((with_reducible apply upd_get); (walk_at "ne"); (walk_at "hp")))
local macro_rules | `(tactic| walk_at "inst") => `(tactic| first | assumption | ((refine' IsInst.mk ?k1 ?k2); (case k1 => walk_at "hp"); (case k2 => walk_at "hp")) | fail "no")
set_option hygiene false in
local macro_rules | `(tactic| walk_at "bin") => `(tactic| first | with_reducible exact Bin.add _ _ | with_reducible exact Bin.sub _ _ | exact Bin.mul ⟨by decide, by decide⟩ | exact Bin.mul ⟨by lia, by lia⟩ | exact Bin.mod (by decide) | exact Bin.mod (by assumption) | exact Bin.mod (by lia) | exact Bin.div ⟨by decide, by decide, by lia, by lia⟩ | exact Bin.div ⟨by lia, by lia, by lia, by lia⟩ | exact Bin.bytes (by lia))
set_option hygiene false in
local macro_rules | `(tactic| walk_at "cmp") => `(tactic| with_reducible first | exact Cmp.lt _ _ | exact Cmp.le _ _ | exact Cmp.gt _ _ | exact Cmp.ge _ _ | exact Cmp.eq _ _ | exact Cmp.ne _ _ | exact cmp_in2 _ _ _ | exact cmp_isNo _ | exact cmp_notNo _ | exact cmp_isN 0 | exact cmp_isI _ | exact cmp_notI _ | exact cmp_notNone | exact Cmp.eqb _ _ | exact Cmp.neb _ _)
local macro_rules | `(tactic| walk_at "sub") => `(tactic| first
  | ((with_reducible refine' sub_ints ?k1 ?k2 ?k3); (case k1 => walk_at "hp"); (case k2 => (first | assumption | lia)); (case k3 => (first | assumption | lia)))
  | ((refine' Sub.dict ?k1 ?k2); (case k1 => walk_at "hp"); (case k2 => walk_at "mem"))
  | ((refine' sub_bytes ?k1 ?k2 ?k3); (case k1 => (first | assumption | decide | lia)); (case k2 => (first | assumption | lia)); (case k3 => (first | assumption | lia)))
  | ((refine' Sub.tup ?k1 ?k2 ?k3); (case k1 => (first | decide | lia)); (case k2 => (first | decide | lia)); (case k3 => rfl))
  | ((refine' Sub.list ?k1 ?k2 ?k3); (case k1 => walk_at "hp"); (case k2 => (first | decide | lia)); (case k3 => rfl)) | fail "no")
set_option hygiene false in
local macro_rules | `(tactic| walk_at "pc") => `(tactic| fail "no contract")
local macro_rules | `(tactic| walk_at "pa") => `(tactic| first | with_reducible exact PA.nil | ((with_reducible refine' PA.cons ?k1 ?k2 ?k3); (case k1 => walk_at "pv"); (case k2 => rfl); (case k3 => walk_at "pa")) | fail "no")
local macro_rules | `(tactic| walk_at "pv") => `(tactic| first
  | with_reducible exact pv_int
  | with_reducible exact pv_none
  | with_reducible exact pv_bool
  | with_reducible exact pv_str
  | with_reducible exact pv_bytes
  | ((with_reducible refine' pv_loc ?k1); (case k1 => walk_at "mem"))
  | ((with_reducible refine' pv_globi ?k1 ?k2 ?k3); (case k1 => walk_at "glob"); (case k2 => rfl); (case k3 => rfl))
  | ((with_reducible refine' pv_globr ?k1 ?k2 ?k3); (case k1 => walk_at "glob"); (case k2 => rfl); (case k3 => rfl))
  | ((with_reducible refine' pv_built ?k1 ?k2 ?k3 ?k4 ?k5); (case k1 => walk_at "glob"); (case k2 => walk_at "boot"); (case k3 => decide +kernel); (case k4 => rfl); (case k5 => rfl))
  | ((with_reducible refine' pv_cell ?k1 ?k2 ?k3); (case k1 => walk_at "mem"); (case k2 => rfl); (case k3 => rfl))
  | ((with_reducible refine' pv_bin ?k1 ?k2 ?k3); (case k1 => walk_at "pv"); (case k2 => walk_at "pv"); (case k3 => walk_at "bin"))
  | ((with_reducible refine' pv_chain ?k1 ?k2 ?k3 ?k4 ?k5 ?k6); (case k1 => walk_at "pv"); (case k2 => walk_at "pv"); (case k3 => walk_at "pv"); (case k4 => walk_at "cmp"); (case k5 => walk_at "cmp"); (case k6 => rfl))
  | ((with_reducible refine' pv_cmp ?k1 ?k2 ?k3 ?k4); (case k1 => walk_at "pv"); (case k2 => walk_at "pv"); (case k3 => walk_at "cmp"); (case k4 => rfl))
  | ((with_reducible refine' pv_attr ?k1 ?k2 ?k3 ?k4 ?k5 ?k6); (case k1 => walk_at "pv"); (case k2 => walk_at "inst"); (case k3 => walk_at "attr"); (case k4 => walk_at "mem"); (case k5 => first | rfl | exact noRaw_mvo _); (case k6 => (intro; rfl)))
  | ((with_reducible refine' pv_sub ?k1 ?k2 ?k3 ?k4); (case k1 => walk_at "pv"); (case k2 => walk_at "pv"); (case k3 => walk_at "sub"); (case k4 => (intros; rfl)))
  | ((with_reducible refine' pv_usub ?k1); (case k1 => walk_at "pv"))
  | ((with_reducible refine' pv_tuple ?k1 ?k2); (case k1 => walk_at "pa"); (case k2 => exact Nat.le_of_ble_eq_true rfl))
  | ((with_reducible refine' pv_call ?k1 ?k2 ?k3 ?k4 ?k5 ?k6); (case k1 => walk_at "pv"); (case k2 => walk_at "pa"); (case k3 => walk_at "pc"); (case k4 => walk_at "keeps"); (case k5 => rfl); (case k6 => rfl))
  | ((with_reducible refine' pv_ifexp ?k1 ?k2 ?k3); (case k1 => walk_at "pb"); (first | ((case k2 => intro hh; exact absurd hh (by decide)); (case k3 => intro _; walk_at "pv")) | ((case k2 => intro _; walk_at "pv"); (case k3 => intro hh; exact absurd hh (by decide)))))
  | ((with_reducible refine' pv_one ?k1); (case k1 => walk_at "pv"))
  | ((with_reducible refine' pv_andv ?k1 ?k2); (case k1 => walk_at "pv"); (case k2 => intro _; walk_at "pv"))
  | ((with_reducible refine' pv_notv ?k1 ?k2); (case k1 => walk_at "pv"); (case k2 => exact Tru.bool _)) | fail "no")
local macro_rules | `(tactic| walk_at "pb") => `(tactic| first
  | ((with_reducible refine' pb_not ?k1); (case k1 => walk_at "pb"))
  | ((with_reducible refine' pb_and1 ?k1); (case k1 => walk_at "pb"))
  | ((with_reducible refine' pb_or1 ?k1); (case k1 => walk_at "pb"))
  | ((with_reducible refine' pb_and2 ?k1 ?k2); (case k1 => walk_at "pb"); (case k2 => intro _; walk_at "pb"))
  | ((with_reducible refine' pb_or2 ?k1 ?k2); (case k1 => walk_at "pb"); (case k2 => intro _; walk_at "pb"))
  | ((with_reducible refine' pb_chain ?k1 ?k2 ?k3 ?k4 ?k5 ?k6); (case k1 => walk_at "pv"); (case k2 => walk_at "pv"); (case k3 => walk_at "pv"); (case k4 => walk_at "cmp"); (case k5 => walk_at "cmp"); (case k6 => rfl))
  | ((with_reducible refine' pb_cmp ?k1 ?k2 ?k3 ?k4); (case k1 => walk_at "pv"); (case k2 => walk_at "pv"); (case k3 => walk_at "cmp"); (case k4 => rfl))
  | ((with_reducible refine' pb_val ?k1 ?k2 ?k3); (case k1 => walk_at "pv"); (case k2 => first | exact Tru.bool _ | exact Tru.none | exact Tru.int _); (case k3 => (intros; rfl))) | fail "no")

local macro_rules | `(tactic| walk_at "pai") => `(tactic| first | with_reducible exact PAI.nil | ((with_reducible refine' PAI.cons ?k1 ?k2 ?k3); (case k1 => walk_at "pv"); (case k2 => rfl); (case k3 => walk_at "pai")) | fail "no")

section
theorem c_is_code (g : Gp) {n : Nat} {σ i} : PC (Gd g) (n + 1) (.ref 66) [.int i] σ (.bool (isCode i)) := by
  refine PC.of fun Q X q => ?_
  apply fn_at 25 [("number", .int i)] [] rfl; kernel_rfl; ((kernel_rfl; (((intro W s av XK h; first | (have e := vreps0 h; subst e; exact ⟨_, BindsTo.of_eq rfl, .nil⟩) | (obtain ⟨v1, e, h1⟩ := vreps1 h; subst e; exact ⟨_, BindsTo.of_eq rfl, .cons h1 .nil⟩) | (obtain ⟨v1, v2, e, h1, h2⟩ := vreps2 h; subst e; exact ⟨_, BindsTo.of_eq rfl, .cons h1 (.cons h2 .nil)⟩) | (obtain ⟨v1, v2, v3, e, h1, h2, h3⟩ := vreps3 h; subst e; exact ⟨_, BindsTo.of_eq rfl, .cons h1 (.cons h2 (.cons h3 .nil))⟩) | (obtain ⟨v1, v2, v3, v4, e, h1, h2, h3, h4⟩ := vreps4 h; subst e; exact ⟨_, BindsTo.of_eq rfl, .cons h1 (.cons h2 (.cons h3 (.cons h4 .nil)))⟩) | (obtain ⟨v1, v2, v3, v4, v5, e, h1, h2, h3, h4, h5⟩ := vreps5 h; subst e; exact ⟨_, BindsTo.of_eq rfl, .cons h1 (.cons h2 (.cons h3 (.cons h4 (.cons h5 .nil))))⟩)))); ((focus ((repeat (with_reducible first | exact L0.nil | apply L0.oth | apply L0.bind)); done))); ((focus ((repeat (with_reducible first | exact Nm.nil | apply Nm.cons)); done))); decide +kernel; decide +kernel; rfl; rfl; rfl; rfl))
  (first | ((with_reducible refine' hs_retp ?z2_1 ?z2_2); (case z2_1 => walk_at "pv")) | fail "no")
  exact q
theorem c_is_high (g : Gp) {n : Nat} {σ i} : PC (Gd g) (n + 1) (.ref 73) [.int i] σ (.bool (isHigh i)) := by
  refine PC.of fun Q X q => ?_
  apply fn_at 30 [("code", .int i)] [] rfl; kernel_rfl; ((kernel_rfl; (((intro W s av XK h; first | (have e := vreps0 h; subst e; exact ⟨_, BindsTo.of_eq rfl, .nil⟩) | (obtain ⟨v1, e, h1⟩ := vreps1 h; subst e; exact ⟨_, BindsTo.of_eq rfl, .cons h1 .nil⟩) | (obtain ⟨v1, v2, e, h1, h2⟩ := vreps2 h; subst e; exact ⟨_, BindsTo.of_eq rfl, .cons h1 (.cons h2 .nil)⟩) | (obtain ⟨v1, v2, v3, e, h1, h2, h3⟩ := vreps3 h; subst e; exact ⟨_, BindsTo.of_eq rfl, .cons h1 (.cons h2 (.cons h3 .nil))⟩) | (obtain ⟨v1, v2, v3, v4, e, h1, h2, h3, h4⟩ := vreps4 h; subst e; exact ⟨_, BindsTo.of_eq rfl, .cons h1 (.cons h2 (.cons h3 (.cons h4 .nil)))⟩) | (obtain ⟨v1, v2, v3, v4, v5, e, h1, h2, h3, h4, h5⟩ := vreps5 h; subst e; exact ⟨_, BindsTo.of_eq rfl, .cons h1 (.cons h2 (.cons h3 (.cons h4 (.cons h5 .nil))))⟩)))); ((focus ((repeat (with_reducible first | exact L0.nil | apply L0.oth | apply L0.bind)); done))); ((focus ((repeat (with_reducible first | exact Nm.nil | apply Nm.cons)); done))); decide +kernel; decide +kernel; rfl; rfl; rfl; rfl))
  (first | ((with_reducible refine' hs_retp ?z4_1 ?z4_2); (case z4_1 => walk_at "pv")) | fail "no")
  exact q
theorem c_is_low (g : Gp) {n : Nat} {σ i} : PC (Gd g) (n + 1) (.ref 80) [.int i] σ (.bool (isLow i)) := by
  refine PC.of fun Q X q => ?_
  apply fn_at 35 [("code", .int i)] [] rfl; kernel_rfl; ((kernel_rfl; (((intro W s av XK h; first | (have e := vreps0 h; subst e; exact ⟨_, BindsTo.of_eq rfl, .nil⟩) | (obtain ⟨v1, e, h1⟩ := vreps1 h; subst e; exact ⟨_, BindsTo.of_eq rfl, .cons h1 .nil⟩) | (obtain ⟨v1, v2, e, h1, h2⟩ := vreps2 h; subst e; exact ⟨_, BindsTo.of_eq rfl, .cons h1 (.cons h2 .nil)⟩) | (obtain ⟨v1, v2, v3, e, h1, h2, h3⟩ := vreps3 h; subst e; exact ⟨_, BindsTo.of_eq rfl, .cons h1 (.cons h2 (.cons h3 .nil))⟩) | (obtain ⟨v1, v2, v3, v4, e, h1, h2, h3, h4⟩ := vreps4 h; subst e; exact ⟨_, BindsTo.of_eq rfl, .cons h1 (.cons h2 (.cons h3 (.cons h4 .nil)))⟩) | (obtain ⟨v1, v2, v3, v4, v5, e, h1, h2, h3, h4, h5⟩ := vreps5 h; subst e; exact ⟨_, BindsTo.of_eq rfl, .cons h1 (.cons h2 (.cons h3 (.cons h4 (.cons h5 .nil))))⟩)))); ((focus ((repeat (with_reducible first | exact L0.nil | apply L0.oth | apply L0.bind)); done))); ((focus ((repeat (with_reducible first | exact Nm.nil | apply Nm.cons)); done))); decide +kernel; decide +kernel; rfl; rfl; rfl; rfl))
  (first | ((with_reducible refine' hs_retp ?z6_1 ?z6_2); (case z6_1 => walk_at "pv")) | fail "no")
  exact q
theorem c_is_surrogate (g : Gp) {n : Nat} {σ i} : PC (Gd g) (n + 1) (.ref 87) [.int i] σ (.bool (isSurr i)) := by
  refine PC.of fun Q X q => ?_
  apply fn_at 40 [("code", .int i)] [] rfl; kernel_rfl; ((kernel_rfl; (((intro W s av XK h; first | (have e := vreps0 h; subst e; exact ⟨_, BindsTo.of_eq rfl, .nil⟩) | (obtain ⟨v1, e, h1⟩ := vreps1 h; subst e; exact ⟨_, BindsTo.of_eq rfl, .cons h1 .nil⟩) | (obtain ⟨v1, v2, e, h1, h2⟩ := vreps2 h; subst e; exact ⟨_, BindsTo.of_eq rfl, .cons h1 (.cons h2 .nil)⟩) | (obtain ⟨v1, v2, v3, e, h1, h2, h3⟩ := vreps3 h; subst e; exact ⟨_, BindsTo.of_eq rfl, .cons h1 (.cons h2 (.cons h3 .nil))⟩) | (obtain ⟨v1, v2, v3, v4, e, h1, h2, h3, h4⟩ := vreps4 h; subst e; exact ⟨_, BindsTo.of_eq rfl, .cons h1 (.cons h2 (.cons h3 (.cons h4 .nil)))⟩) | (obtain ⟨v1, v2, v3, v4, v5, e, h1, h2, h3, h4, h5⟩ := vreps5 h; subst e; exact ⟨_, BindsTo.of_eq rfl, .cons h1 (.cons h2 (.cons h3 (.cons h4 (.cons h5 .nil))))⟩)))); ((focus ((repeat (with_reducible first | exact L0.nil | apply L0.oth | apply L0.bind)); done))); ((focus ((repeat (with_reducible first | exact Nm.nil | apply Nm.cons)); done))); decide +kernel; decide +kernel; rfl; rfl; rfl; rfl))
  (first | ((with_reducible refine' hs_retp ?z8_1 ?z8_2); (case z8_1 => walk_at "pv")) | fail "no")
  exact q
set_option hygiene false in
local macro_rules | `(tactic| walk_at "pc") => `(tactic| with_reducible first | exact c_is_code _ | exact c_is_high _ | exact c_is_low _ | exact c_is_surrogate _)
theorem c_is_scalar (g : Gp) {n : Nat} {σ i} : PC (Gd g) (n + 2) (.ref 94) [.int i] σ (.bool (isScalar i)) := by
  refine PC.of fun Q X q => ?_
  apply fn_at 45 [("number", .int i)] [] rfl; kernel_rfl; ((kernel_rfl; (((intro W s av XK h; first | (have e := vreps0 h; subst e; exact ⟨_, BindsTo.of_eq rfl, .nil⟩) | (obtain ⟨v1, e, h1⟩ := vreps1 h; subst e; exact ⟨_, BindsTo.of_eq rfl, .cons h1 .nil⟩) | (obtain ⟨v1, v2, e, h1, h2⟩ := vreps2 h; subst e; exact ⟨_, BindsTo.of_eq rfl, .cons h1 (.cons h2 .nil)⟩) | (obtain ⟨v1, v2, v3, e, h1, h2, h3⟩ := vreps3 h; subst e; exact ⟨_, BindsTo.of_eq rfl, .cons h1 (.cons h2 (.cons h3 .nil))⟩) | (obtain ⟨v1, v2, v3, v4, e, h1, h2, h3, h4⟩ := vreps4 h; subst e; exact ⟨_, BindsTo.of_eq rfl, .cons h1 (.cons h2 (.cons h3 (.cons h4 .nil)))⟩) | (obtain ⟨v1, v2, v3, v4, v5, e, h1, h2, h3, h4, h5⟩ := vreps5 h; subst e; exact ⟨_, BindsTo.of_eq rfl, .cons h1 (.cons h2 (.cons h3 (.cons h4 (.cons h5 .nil))))⟩)))); ((focus ((repeat (with_reducible first | exact L0.nil | apply L0.oth | apply L0.bind)); done))); ((focus ((repeat (with_reducible first | exact Nm.nil | apply Nm.cons)); done))); decide +kernel; decide +kernel; rfl; rfl; rfl; rfl))
  (first | ((with_reducible refine' hs_retp ?z10_1 ?z10_2); (case z10_1 => walk_at "pv")) | fail "no")
  exact q
set_option hygiene false in
local macro_rules | `(tactic| walk_at "pc") => `(tactic| with_reducible exact c_is_scalar _)
theorem c_is_wide_alone (g : Gp) {n : Nat} {σ i} : PC (Gd g) (n + 1) (.ref 317) [.int i] σ (.bool (decide (13312 ≤ i) && decide (i < 57344))) := by
  refine PC.of fun Q X q => ?_
  apply fn_at 194 [("code", .int i)] [] rfl; kernel_rfl; ((kernel_rfl; (((intro W s av XK h; first | (have e := vreps0 h; subst e; exact ⟨_, BindsTo.of_eq rfl, .nil⟩) | (obtain ⟨v1, e, h1⟩ := vreps1 h; subst e; exact ⟨_, BindsTo.of_eq rfl, .cons h1 .nil⟩) | (obtain ⟨v1, v2, e, h1, h2⟩ := vreps2 h; subst e; exact ⟨_, BindsTo.of_eq rfl, .cons h1 (.cons h2 .nil)⟩) | (obtain ⟨v1, v2, v3, e, h1, h2, h3⟩ := vreps3 h; subst e; exact ⟨_, BindsTo.of_eq rfl, .cons h1 (.cons h2 (.cons h3 .nil))⟩) | (obtain ⟨v1, v2, v3, v4, e, h1, h2, h3, h4⟩ := vreps4 h; subst e; exact ⟨_, BindsTo.of_eq rfl, .cons h1 (.cons h2 (.cons h3 (.cons h4 .nil)))⟩) | (obtain ⟨v1, v2, v3, v4, v5, e, h1, h2, h3, h4, h5⟩ := vreps5 h; subst e; exact ⟨_, BindsTo.of_eq rfl, .cons h1 (.cons h2 (.cons h3 (.cons h4 (.cons h5 .nil))))⟩)))); ((focus ((repeat (with_reducible first | exact L0.nil | apply L0.oth | apply L0.bind)); done))); ((focus ((repeat (with_reducible first | exact Nm.nil | apply Nm.cons)); done))); decide +kernel; decide +kernel; rfl; rfl; rfl; rfl))
  (first | ((with_reducible refine' hs_retp ?z12_1 ?z12_2); (case z12_1 => walk_at "pv")) | fail "no")
  exact q
theorem c_narrow_length (g : Gp) {n : Nat} {σ o} : PC (Gd g) (n + 1) (.ref 151) [.int o] σ (.int (narrowLen o)) := by
  refine PC.of fun Q X q => ?_
  apply fn_at 86 [("octet", .int o)] [] rfl; kernel_rfl; ((kernel_rfl; (((intro W s av XK h; first | (have e := vreps0 h; subst e; exact ⟨_, BindsTo.of_eq rfl, .nil⟩) | (obtain ⟨v1, e, h1⟩ := vreps1 h; subst e; exact ⟨_, BindsTo.of_eq rfl, .cons h1 .nil⟩) | (obtain ⟨v1, v2, e, h1, h2⟩ := vreps2 h; subst e; exact ⟨_, BindsTo.of_eq rfl, .cons h1 (.cons h2 .nil)⟩) | (obtain ⟨v1, v2, v3, e, h1, h2, h3⟩ := vreps3 h; subst e; exact ⟨_, BindsTo.of_eq rfl, .cons h1 (.cons h2 (.cons h3 .nil))⟩) | (obtain ⟨v1, v2, v3, v4, e, h1, h2, h3, h4⟩ := vreps4 h; subst e; exact ⟨_, BindsTo.of_eq rfl, .cons h1 (.cons h2 (.cons h3 (.cons h4 .nil)))⟩) | (obtain ⟨v1, v2, v3, v4, v5, e, h1, h2, h3, h4, h5⟩ := vreps5 h; subst e; exact ⟨_, BindsTo.of_eq rfl, .cons h1 (.cons h2 (.cons h3 (.cons h4 (.cons h5 .nil))))⟩)))); ((focus ((repeat (with_reducible first | exact L0.nil | apply L0.oth | apply L0.bind)); done))); ((focus ((repeat (with_reducible first | exact Nm.nil | apply Nm.cons)); done))); decide +kernel; decide +kernel; rfl; rfl; rfl; rfl))
  unfold narrowLen at q
  (first | ((with_reducible refine' hs_ifp ?z14_1 ?z14_2 ?z14_3); (case z14_1 => walk_at "pb")) | fail "no")
  · intro hc; rw [if_pos hc] at q; (first | ((with_reducible refine' hs_retp ?z15_1 ?z15_2); (case z15_1 => walk_at "pv")) | fail "no"); exact q
  · intro hc; rw [if_neg (by rw [hc]; decide)] at q; refine hs_endN ?_
    (first | ((with_reducible refine' hs_ifp ?z16_1 ?z16_2 ?z16_3); (case z16_1 => walk_at "pb")) | fail "no")
    · intro hc2; rw [if_pos hc2] at q; (first | ((with_reducible refine' hs_retp ?z17_1 ?z17_2); (case z17_1 => walk_at "pv")) | fail "no"); exact q
    · intro hc2; rw [if_neg (by rw [hc2]; decide)] at q; refine hs_endN ?_
      (first | ((with_reducible refine' hs_retp ?z18_1 ?z18_2); (case z18_1 => walk_at "pv")) | fail "no"); exact q
theorem c_wide_length (g : Gp) {n : Nat} {σ o} : PC (Gd g) (n + 1) (.ref 158) [.int o] σ (.int (wideLen o)) := by
  refine PC.of fun Q X q => ?_
  apply fn_at 91 [("octet", .int o)] [] rfl; kernel_rfl; ((kernel_rfl; (((intro W s av XK h; first | (have e := vreps0 h; subst e; exact ⟨_, BindsTo.of_eq rfl, .nil⟩) | (obtain ⟨v1, e, h1⟩ := vreps1 h; subst e; exact ⟨_, BindsTo.of_eq rfl, .cons h1 .nil⟩) | (obtain ⟨v1, v2, e, h1, h2⟩ := vreps2 h; subst e; exact ⟨_, BindsTo.of_eq rfl, .cons h1 (.cons h2 .nil)⟩) | (obtain ⟨v1, v2, v3, e, h1, h2, h3⟩ := vreps3 h; subst e; exact ⟨_, BindsTo.of_eq rfl, .cons h1 (.cons h2 (.cons h3 .nil))⟩) | (obtain ⟨v1, v2, v3, v4, e, h1, h2, h3, h4⟩ := vreps4 h; subst e; exact ⟨_, BindsTo.of_eq rfl, .cons h1 (.cons h2 (.cons h3 (.cons h4 .nil)))⟩) | (obtain ⟨v1, v2, v3, v4, v5, e, h1, h2, h3, h4, h5⟩ := vreps5 h; subst e; exact ⟨_, BindsTo.of_eq rfl, .cons h1 (.cons h2 (.cons h3 (.cons h4 (.cons h5 .nil))))⟩)))); ((focus ((repeat (with_reducible first | exact L0.nil | apply L0.oth | apply L0.bind)); done))); ((focus ((repeat (with_reducible first | exact Nm.nil | apply Nm.cons)); done))); decide +kernel; decide +kernel; rfl; rfl; rfl; rfl))
  unfold wideLen at q
  (first | ((with_reducible refine' hs_ifp ?z20_1 ?z20_2 ?z20_3); (case z20_1 => walk_at "pb")) | fail "no")
  · intro hc; rw [if_pos hc] at q; (first | ((with_reducible refine' hs_retp ?z21_1 ?z21_2); (case z21_1 => walk_at "pv")) | fail "no"); exact q
  · intro hc; rw [if_neg (by rw [hc]; decide)] at q; refine hs_endN ?_
    (first | ((with_reducible refine' hs_ifp ?z22_1 ?z22_2 ?z22_3); (case z22_1 => walk_at "pb")) | fail "no")
    · intro hc2; rw [if_pos hc2] at q; (first | ((with_reducible refine' hs_retp ?z23_1 ?z23_2); (case z23_1 => walk_at "pv")) | fail "no"); exact q
    · intro hc2; rw [if_neg (by rw [hc2]; decide)] at q; refine hs_endN ?_
      (first | ((with_reducible refine' hs_retp ?z24_1 ?z24_2); (case z24_1 => walk_at "pv")) | fail "no"); exact q
theorem c_statics (g : Gp) {n : Nat} {σ} {Q : MV → MH → Prop} {X : MX → MH → Prop} (q : ∀ l, σ l = none → Q (.loc l) (upd σ l (.list (statics.map MV.int)))) : HCc (Gd g) (n + 1) (.ref 109) [] σ Q X := by
  apply fn_at 56 [] [] rfl; kernel_rfl; ((kernel_rfl; (((intro W s av XK h; first | (have e := vreps0 h; subst e; exact ⟨_, BindsTo.of_eq rfl, .nil⟩) | (obtain ⟨v1, e, h1⟩ := vreps1 h; subst e; exact ⟨_, BindsTo.of_eq rfl, .cons h1 .nil⟩) | (obtain ⟨v1, v2, e, h1, h2⟩ := vreps2 h; subst e; exact ⟨_, BindsTo.of_eq rfl, .cons h1 (.cons h2 .nil)⟩) | (obtain ⟨v1, v2, v3, e, h1, h2, h3⟩ := vreps3 h; subst e; exact ⟨_, BindsTo.of_eq rfl, .cons h1 (.cons h2 (.cons h3 .nil))⟩) | (obtain ⟨v1, v2, v3, v4, e, h1, h2, h3, h4⟩ := vreps4 h; subst e; exact ⟨_, BindsTo.of_eq rfl, .cons h1 (.cons h2 (.cons h3 (.cons h4 .nil)))⟩) | (obtain ⟨v1, v2, v3, v4, v5, e, h1, h2, h3, h4, h5⟩ := vreps5 h; subst e; exact ⟨_, BindsTo.of_eq rfl, .cons h1 (.cons h2 (.cons h3 (.cons h4 (.cons h5 .nil))))⟩)))); ((focus ((repeat (with_reducible first | exact L0.nil | apply L0.oth | apply L0.bind)); done))); ((focus ((repeat (with_reducible first | exact Nm.nil | apply Nm.cons)); done))); decide +kernel; decide +kernel; rfl; rfl; rfl; rfl))
  refine hs_ret ?_
  refine' he_list_int ?k1 ?k2 ?k3
  case k1 => walk_at "pai"
  case k2 => exact Nat.le_of_ble_eq_true rfl
  case k3 => exact q
theorem c_firsts (g : Gp) {n : Nat} {σ} {Q : MV → MH → Prop} {X : MX → MH → Prop} (q : ∀ l, σ l = none → Q (.loc l) (upd σ l (.list (firsts.map MV.int)))) : HCc (Gd g) (n + 1) (.ref 116) [] σ Q X := by
  apply fn_at 61 [] [] rfl; kernel_rfl; ((kernel_rfl; (((intro W s av XK h; first | (have e := vreps0 h; subst e; exact ⟨_, BindsTo.of_eq rfl, .nil⟩) | (obtain ⟨v1, e, h1⟩ := vreps1 h; subst e; exact ⟨_, BindsTo.of_eq rfl, .cons h1 .nil⟩) | (obtain ⟨v1, v2, e, h1, h2⟩ := vreps2 h; subst e; exact ⟨_, BindsTo.of_eq rfl, .cons h1 (.cons h2 .nil)⟩) | (obtain ⟨v1, v2, v3, e, h1, h2, h3⟩ := vreps3 h; subst e; exact ⟨_, BindsTo.of_eq rfl, .cons h1 (.cons h2 (.cons h3 .nil))⟩) | (obtain ⟨v1, v2, v3, v4, e, h1, h2, h3, h4⟩ := vreps4 h; subst e; exact ⟨_, BindsTo.of_eq rfl, .cons h1 (.cons h2 (.cons h3 (.cons h4 .nil)))⟩) | (obtain ⟨v1, v2, v3, v4, v5, e, h1, h2, h3, h4, h5⟩ := vreps5 h; subst e; exact ⟨_, BindsTo.of_eq rfl, .cons h1 (.cons h2 (.cons h3 (.cons h4 (.cons h5 .nil))))⟩)))); ((focus ((repeat (with_reducible first | exact L0.nil | apply L0.oth | apply L0.bind)); done))); ((focus ((repeat (with_reducible first | exact Nm.nil | apply Nm.cons)); done))); decide +kernel; decide +kernel; rfl; rfl; rfl; rfl))
  refine hs_ret ?_
  refine' he_list_int ?k1 ?k2 ?k3
  case k1 => walk_at "pai"
  case k2 => exact Nat.le_of_ble_eq_true rfl
  case k3 => exact q
theorem c_specials (g : Gp) {n : Nat} {σ} {Q : MV → MH → Prop} {X : MX → MH → Prop} (q : ∀ l, σ l = none → Q (.loc l) (upd σ l (.list (specials.map MV.int)))) : HCc (Gd g) (n + 1) (.ref 123) [] σ Q X := by
  apply fn_at 66 [] [] rfl; kernel_rfl; ((kernel_rfl; (((intro W s av XK h; first | (have e := vreps0 h; subst e; exact ⟨_, BindsTo.of_eq rfl, .nil⟩) | (obtain ⟨v1, e, h1⟩ := vreps1 h; subst e; exact ⟨_, BindsTo.of_eq rfl, .cons h1 .nil⟩) | (obtain ⟨v1, v2, e, h1, h2⟩ := vreps2 h; subst e; exact ⟨_, BindsTo.of_eq rfl, .cons h1 (.cons h2 .nil)⟩) | (obtain ⟨v1, v2, v3, e, h1, h2, h3⟩ := vreps3 h; subst e; exact ⟨_, BindsTo.of_eq rfl, .cons h1 (.cons h2 (.cons h3 .nil))⟩) | (obtain ⟨v1, v2, v3, v4, e, h1, h2, h3, h4⟩ := vreps4 h; subst e; exact ⟨_, BindsTo.of_eq rfl, .cons h1 (.cons h2 (.cons h3 (.cons h4 .nil)))⟩) | (obtain ⟨v1, v2, v3, v4, v5, e, h1, h2, h3, h4, h5⟩ := vreps5 h; subst e; exact ⟨_, BindsTo.of_eq rfl, .cons h1 (.cons h2 (.cons h3 (.cons h4 (.cons h5 .nil))))⟩)))); ((focus ((repeat (with_reducible first | exact L0.nil | apply L0.oth | apply L0.bind)); done))); ((focus ((repeat (with_reducible first | exact Nm.nil | apply Nm.cons)); done))); decide +kernel; decide +kernel; rfl; rfl; rfl; rfl))
  refine hs_ret ?_
  refine' he_list_int ?k1 ?k2 ?k3
  case k1 => walk_at "pai"
  case k2 => exact Nat.le_of_ble_eq_true rfl
  case k3 => exact q
end
set_option hygiene false in
local macro_rules | `(tactic| walk_at "pc") => `(tactic| with_reducible first | exact c_is_code _ | exact c_is_high _ | exact c_is_low _ | exact c_is_surrogate _ | exact c_is_scalar _ | exact c_is_wide_alone _ | exact c_narrow_length _ | exact c_wide_length _)

section
structure RdL where
  r : Nat
  j : Nat
  a : Nat
  b : Nat
  f : Nat
structure Rd (σ : MH) (l : RdL) (v : RdV) : Prop where
  i : σ l.r = some (.inst 245 l.j)
  j : σ l.j = some (.ns [("starts", .loc l.a), ("statics", .loc l.b), ("active", .int v.active), ("is_wide", .bool v.wide), ("rest", .bytes v.rest), ("gone", .int v.gone), ("high", mvo v.high), ("high_at", .int v.highAt), ("found", .loc l.f)])
  a : σ l.a = some (.list (v.starts.map MV.int))
  b : σ l.b = some (.list (statics.map MV.int))
  f : σ l.f = some (.list (v.found.map MV.int))
  ab : l.a ≠ l.b
  af : l.a ≠ l.f
  bf : l.b ≠ l.f
theorem ne_of {σ : MH} {a b : Nat} {o o' : MObj} (h : σ a = some o) (h' : σ b = some o') (e : o ≠ o') : a ≠ b := fun z => e (by subst z; rw [h] at h'; cases h'; rfl)
structure RdN (l : RdL) : Prop where
  rj : l.r ≠ l.j
  ra : l.r ≠ l.a
  rb : l.r ≠ l.b
  rf : l.r ≠ l.f
  ja : l.j ≠ l.a
  jb : l.j ≠ l.b
  jf : l.j ≠ l.f
theorem Rd.ne {σ l v} (h : Rd σ l v) : RdN l := ⟨ne_of h.i h.j (by intro z; cases z), ne_of h.i h.a (by intro z; cases z), ne_of h.i h.b (by intro z; cases z), ne_of h.i h.f (by intro z; cases z), ne_of h.j h.a (by intro z; cases z), ne_of h.j h.b (by intro z; cases z), ne_of h.j h.f (by intro z; cases z)⟩
noncomputable def foot (l : RdL) : List Nat := [l.j, l.a, l.f]
noncomputable def RPost (σ : MH) (l : RdL) (res : RRes) (Q : MV → MH → Prop) (X : MX → MH → Prop) : Prop := match res with
  | .ok v' => ∀ σ', Rd σ' l v' → Kp (foot l) σ σ' → Q .none σ'
  | .error n => ∀ σ' m, Kp (foot l) σ σ' → X ⟨45, .tup [.int n, .str m]⟩ σ'
theorem kj {l : RdL} : l.j ∈ foot l := .head _
theorem ka {l : RdL} : l.a ∈ foot l := .tail _ (.head _)
theorem kf {l : RdL} : l.f ∈ foot l := .tail _ (.tail _ (.head _))

theorem c_put_code (g : Gp) {n : Nat} {σ l v c} {Q : MV → MH → Prop} {X : MX → MH → Prop} (h : Rd σ l v) (hz : v.found.length < 65000) (p : RPost σ l (v.putCode c) Q X) : HC (Gd g) (n + 4) (.ref 193) [.loc l.r, .int c] σ Q X := by
  obtain ⟨n1, n2, n3, n4, n5, n6, n7⟩ := h.ne
  obtain ⟨hi, hj, ha, hb, hf, ab, af, bf⟩ := h
  unfold RdV.putCode at p
  refine HCc.hc ?_
  apply fn_at 111 [("self", .loc l.r), ("code", .int c)] [] rfl; kernel_rfl; ((kernel_rfl; (((intro W s av XK h; first | (have e := vreps0 h; subst e; exact ⟨_, BindsTo.of_eq rfl, .nil⟩) | (obtain ⟨v1, e, h1⟩ := vreps1 h; subst e; exact ⟨_, BindsTo.of_eq rfl, .cons h1 .nil⟩) | (obtain ⟨v1, v2, e, h1, h2⟩ := vreps2 h; subst e; exact ⟨_, BindsTo.of_eq rfl, .cons h1 (.cons h2 .nil)⟩) | (obtain ⟨v1, v2, v3, e, h1, h2, h3⟩ := vreps3 h; subst e; exact ⟨_, BindsTo.of_eq rfl, .cons h1 (.cons h2 (.cons h3 .nil))⟩) | (obtain ⟨v1, v2, v3, v4, e, h1, h2, h3, h4⟩ := vreps4 h; subst e; exact ⟨_, BindsTo.of_eq rfl, .cons h1 (.cons h2 (.cons h3 (.cons h4 .nil)))⟩) | (obtain ⟨v1, v2, v3, v4, v5, e, h1, h2, h3, h4, h5⟩ := vreps5 h; subst e; exact ⟨_, BindsTo.of_eq rfl, .cons h1 (.cons h2 (.cons h3 (.cons h4 (.cons h5 .nil))))⟩)))); ((focus ((repeat (with_reducible first | exact L0.nil | apply L0.oth | apply L0.bind)); done))); ((focus ((repeat (with_reducible first | exact Nm.nil | apply Nm.cons)); done))); decide +kernel; decide +kernel; rfl; rfl; rfl; rfl))
  (first | ((with_reducible refine' hs_ifp ?z62_1 ?z62_2 ?z62_3); (case z62_1 => walk_at "pb")) | fail "no")
  · intro hc; rw [if_pos hc] at p; (first | (((with_reducible refine' hs_raise ?z63_1 ?z63_2 ?z63_3 ?z63_4 ?z63_5 ?z63_6 ?z63_7 ?z63_8 ?z63_9); (case z63_1 => walk_at "pv"); (case z63_2 => exact xo_45 _); (case z63_3 => exact xi_29 _); (case z63_4 => exact kk_45 _); (case z63_6 => rfl); (case z63_7 => rfl); (case z63_8 => rfl); (case z63_9 => exact Nat.le_add_left _ _)); ((with_reducible refine' he_pv ?z63_1 ?z63_2); (case z63_1 => walk_at "pv"))) | fail "no"); exact p σ _ (.refl _ _)
  · intro hc; rw [if_neg (by rw [hc]; decide)] at p; (try (with_reducible refine' hs_endN ?_))
    (first | ((with_reducible refine' hs_append_int ?z65_1 ?z65_2 ?z65_3 ?z65_4 ?z65_5 ?z65_6 ?z65_7 ?z65_8 ?z65_9); (case z65_1 => walk_at "pv"); (case z65_2 => walk_at "pv"); (case z65_3 => walk_at "hp"); (case z65_4 => first | assumption | lia | (simp only [List.length_append, List.length_cons, List.length_nil]; lia)); (case z65_6 => exact ⟨_, fun _ => rfl⟩); (case z65_7 => rfl); (case z65_8 => exact interactive_no); (case z65_9 => (intro; rfl))) | fail "no")
    refine hs_nil ?_
    refine p _ ⟨?_, ?_, ?_, ?_, ?_, ab, af, bf⟩ (.upd kf)
    all_goals walk_at "hp"
theorem RPost.mono {σ l res} {Q Q' : MV → MH → Prop} {X : MX → MH → Prop} (p : RPost σ l res Q X) (h : ∀ σ', Q .none σ' → Q' .none σ') : RPost σ l res Q' X := by
  cases res with
  | ok v => exact fun σ' a b => h _ (p σ' a b)
  | error e => exact p
theorem RPost.from {σ σ0 l res} {Q : MV → MH → Prop} {X : MX → MH → Prop} (p : RPost σ0 l res Q X) (k : Kp (foot l) σ0 σ) : RPost σ l res Q X := by
  cases res with
  | ok v => exact fun σ' a b => p σ' a (k.trans b)
  | error e => exact fun σ' m b => p σ' m (k.trans b)
theorem c_change (g : Gp) {n : Nat} {σ l v c} {Q : MV → MH → Prop} {X : MX → MH → Prop} (h : Rd σ l v) (p : RPost σ l (.ok (v.change c)) Q X) : HC (Gd g) (n + 1) (.ref 221) [.loc l.r, .int c] σ Q X := by
  obtain ⟨n1, n2, n3, n4, n5, n6, n7⟩ := h.ne
  obtain ⟨hi, hj, ha, hb, hf, ab, af, bf⟩ := h
  refine HCc.hc ?_
  apply fn_at 131 [("self", .loc l.r), ("number", .int c)] [] rfl; kernel_rfl; ((kernel_rfl; (((intro W s av XK h; first | (have e := vreps0 h; subst e; exact ⟨_, BindsTo.of_eq rfl, .nil⟩) | (obtain ⟨v1, e, h1⟩ := vreps1 h; subst e; exact ⟨_, BindsTo.of_eq rfl, .cons h1 .nil⟩) | (obtain ⟨v1, v2, e, h1, h2⟩ := vreps2 h; subst e; exact ⟨_, BindsTo.of_eq rfl, .cons h1 (.cons h2 .nil)⟩) | (obtain ⟨v1, v2, v3, e, h1, h2, h3⟩ := vreps3 h; subst e; exact ⟨_, BindsTo.of_eq rfl, .cons h1 (.cons h2 (.cons h3 .nil))⟩) | (obtain ⟨v1, v2, v3, v4, e, h1, h2, h3, h4⟩ := vreps4 h; subst e; exact ⟨_, BindsTo.of_eq rfl, .cons h1 (.cons h2 (.cons h3 (.cons h4 .nil)))⟩) | (obtain ⟨v1, v2, v3, v4, v5, e, h1, h2, h3, h4, h5⟩ := vreps5 h; subst e; exact ⟨_, BindsTo.of_eq rfl, .cons h1 (.cons h2 (.cons h3 (.cons h4 (.cons h5 .nil))))⟩)))); ((focus ((repeat (with_reducible first | exact L0.nil | apply L0.oth | apply L0.bind)); done))); ((focus ((repeat (with_reducible first | exact Nm.nil | apply Nm.cons)); done))); decide +kernel; decide +kernel; rfl; rfl; rfl; rfl))
  (first | ((with_reducible refine' hs_setattrp ?z67_1 ?z67_2 ?z67_3 ?z67_4 ?z67_5 ?z67_6 ?z67_7); (case z67_1 => walk_at "pv"); (case z67_2 => walk_at "pv"); (case z67_3 => walk_at "inst"); (case z67_4 => (with_reducible exact SetI_ok _ (by constructor))); (case z67_5 => (first | (apply APut.old; walk_at "put") | (apply aput_new; kernel_rfl; exact Nat.le_of_ble_eq_true rfl))); (case z67_7 => (intro; rfl))) | fail "no")
  (first | ((with_reducible refine' hs_setattrp ?z68_1 ?z68_2 ?z68_3 ?z68_4 ?z68_5 ?z68_6 ?z68_7); (case z68_1 => walk_at "pv"); (case z68_2 => walk_at "pv"); (case z68_3 => walk_at "inst"); (case z68_4 => (with_reducible exact SetI_ok _ (by constructor))); (case z68_5 => (first | (apply APut.old; walk_at "put") | (apply aput_new; kernel_rfl; exact Nat.le_of_ble_eq_true rfl))); (case z68_7 => (intro; rfl))) | fail "no")
  refine hs_nil ?_
  refine p _ ?_ ((Kp.upd kj).trans (.upd kj))
  unfold RdV.change
  ((refine ⟨?_, ?_, ?_, ?_, ?_, by assumption, by assumption, by assumption⟩ <;> ((try dsimp only); walk_at "hp")))
theorem c_put_unit (g : Gp) {n : Nat} {σ l v u} {Q : MV → MH → Prop} {X : MX → MH → Prop} (h : Rd σ l v) (hz : v.found.length < 65000) (hh : ∀ x, v.high = some x → 55296 ≤ x ∧ x ≤ 56319) (p : RPost σ l (v.putUnit u) Q X) : HC (Gd g) (n + 5) (.ref 200) [.loc l.r, .int u] σ Q X := by
  have h' := h
  obtain ⟨n1, n2, n3, n4, n5, n6, n7⟩ := h.ne
  obtain ⟨hi, hj, ha, hb, hf, ab, af, bf⟩ := h
  unfold RdV.putUnit at p
  refine HCc.hc ?_
  apply fn_at 116 [("self", .loc l.r), ("unit", .int u)] ["code"] rfl; kernel_rfl; ((kernel_rfl; (((intro W s av XK h; first | (have e := vreps0 h; subst e; exact ⟨_, BindsTo.of_eq rfl, .nil⟩) | (obtain ⟨v1, e, h1⟩ := vreps1 h; subst e; exact ⟨_, BindsTo.of_eq rfl, .cons h1 .nil⟩) | (obtain ⟨v1, v2, e, h1, h2⟩ := vreps2 h; subst e; exact ⟨_, BindsTo.of_eq rfl, .cons h1 (.cons h2 .nil)⟩) | (obtain ⟨v1, v2, v3, e, h1, h2, h3⟩ := vreps3 h; subst e; exact ⟨_, BindsTo.of_eq rfl, .cons h1 (.cons h2 (.cons h3 .nil))⟩) | (obtain ⟨v1, v2, v3, v4, e, h1, h2, h3, h4⟩ := vreps4 h; subst e; exact ⟨_, BindsTo.of_eq rfl, .cons h1 (.cons h2 (.cons h3 (.cons h4 .nil)))⟩) | (obtain ⟨v1, v2, v3, v4, v5, e, h1, h2, h3, h4, h5⟩ := vreps5 h; subst e; exact ⟨_, BindsTo.of_eq rfl, .cons h1 (.cons h2 (.cons h3 (.cons h4 (.cons h5 .nil))))⟩)))); ((focus ((repeat (with_reducible first | exact L0.nil | apply L0.oth | apply L0.bind)); done))); ((focus ((repeat (with_reducible first | exact Nm.nil | apply Nm.cons)); done))); decide +kernel; decide +kernel; rfl; rfl; rfl; rfl))
  (first | ((with_reducible refine' hs_ifp ?z71_1 ?z71_2 ?z71_3); (case z71_1 => walk_at "pb")) | fail "no")
  · intro hc; rw [if_pos hc] at p
    obtain ⟨x, hx⟩ : ∃ x, v.high = some x := by
      cases q : v.high with
      | none => rw [q] at hc; simp at hc
      | some x => exact ⟨x, rfl⟩
    rw [hx] at hj p
    dsimp only [mvo, Option.getD] at hj p
    (first | ((with_reducible refine' hs_assignp ?z72_1 ?z72_2 ?z72_3 ?z72_4); (case z72_1 => walk_at "pv"); (case z72_2 => walk_at "lput"); (case z72_4 => (intro; rfl))) | fail "no")
    (first | ((with_reducible refine' hs_setattrp ?z73_1 ?z73_2 ?z73_3 ?z73_4 ?z73_5 ?z73_6 ?z73_7); (case z73_1 => walk_at "pv"); (case z73_2 => walk_at "pv"); (case z73_3 => walk_at "inst"); (case z73_4 => (with_reducible exact SetI_ok _ (by constructor))); (case z73_5 => (first | (apply APut.old; walk_at "put") | (apply aput_new; kernel_rfl; exact Nat.le_of_ble_eq_true rfl))); (case z73_7 => (intro; rfl))) | fail "no")
    (first | ((with_reducible refine' hs_append_int ?z74_1 ?z74_2 ?z74_3 ?z74_4 ?z74_5 ?z74_6 ?z74_7 ?z74_8 ?z74_9); (case z74_1 => walk_at "pv"); (case z74_2 => walk_at "pv"); (case z74_3 => walk_at "hp"); (case z74_4 => first | assumption | lia | (simp only [List.length_append, List.length_cons, List.length_nil]; lia)); (case z74_6 => exact ⟨_, fun _ => rfl⟩); (case z74_7 => rfl); (case z74_8 => exact interactive_no); (case z74_9 => (intro; rfl))) | fail "no")
    (((repeat (with_reducible first | refine' hs_endN ?_ | refine' hs_nil ?_)); first | assumption | skip))
    refine p _ ?_ ((Kp.upd kj).trans (.upd kf))
    ((refine ⟨?_, ?_, ?_, ?_, ?_, by assumption, by assumption, by assumption⟩ <;> ((try dsimp only); walk_at "hp")))
  · intro hc; rw [if_neg (by rw [hc]; decide)] at p; (try (with_reducible refine' hs_endN ?_))
    (first | ((with_reducible refine' hs_ifp ?z78_1 ?z78_2 ?z78_3); (case z78_1 => walk_at "pb")) | fail "no")
    · intro hc; rw [if_pos hc] at p
      (first | ((with_reducible refine' hs_setattrp ?z79_1 ?z79_2 ?z79_3 ?z79_4 ?z79_5 ?z79_6 ?z79_7); (case z79_1 => walk_at "pv"); (case z79_2 => walk_at "pv"); (case z79_3 => walk_at "inst"); (case z79_4 => (with_reducible exact SetI_ok _ (by constructor))); (case z79_5 => (first | (apply APut.old; walk_at "put") | (apply aput_new; kernel_rfl; exact Nat.le_of_ble_eq_true rfl))); (case z79_7 => (intro; rfl))) | fail "no")
      (first | ((with_reducible refine' hs_setattrp ?z80_1 ?z80_2 ?z80_3 ?z80_4 ?z80_5 ?z80_6 ?z80_7); (case z80_1 => walk_at "pv"); (case z80_2 => walk_at "pv"); (case z80_3 => walk_at "inst"); (case z80_4 => (with_reducible exact SetI_ok _ (by constructor))); (case z80_5 => (first | (apply APut.old; walk_at "put") | (apply aput_new; kernel_rfl; exact Nat.le_of_ble_eq_true rfl))); (case z80_7 => (intro; rfl))) | fail "no")
      (((repeat (with_reducible first | refine' hs_endN ?_ | refine' hs_nil ?_)); first | assumption | skip))
      refine p _ ?_ ((Kp.upd kj).trans (.upd kj))
      ((refine ⟨?_, ?_, ?_, ?_, ?_, by assumption, by assumption, by assumption⟩ <;> ((try dsimp only); walk_at "hp")))
    · intro hc; rw [if_neg (by rw [hc]; decide)] at p; (try (with_reducible refine' hs_endN ?_))
      (first | ((with_reducible refine' hs_ifp ?z84_1 ?z84_2 ?z84_3); (case z84_1 => walk_at "pb")) | fail "no")
      · intro hc; rw [if_pos hc] at p
        cases q : v.high with
        | none => rw [q] at hj p; dsimp only [mvo] at hj; (first | (((with_reducible refine' hs_raise ?z85_1 ?z85_2 ?z85_3 ?z85_4 ?z85_5 ?z85_6 ?z85_7 ?z85_8 ?z85_9); (case z85_1 => walk_at "pv"); (case z85_2 => exact xo_45 _); (case z85_3 => exact xi_29 _); (case z85_4 => exact kk_45 _); (case z85_6 => rfl); (case z85_7 => rfl); (case z85_8 => rfl); (case z85_9 => exact Nat.le_add_left _ _)); ((with_reducible refine' he_pv ?z85_1 ?z85_2); (case z85_1 => walk_at "pv"))) | fail "no"); exact p σ _ (.refl _ _)
        | some x => rw [q] at hj p; dsimp only [mvo] at hj; (first | (((with_reducible refine' hs_raise ?z86_1 ?z86_2 ?z86_3 ?z86_4 ?z86_5 ?z86_6 ?z86_7 ?z86_8 ?z86_9); (case z86_1 => walk_at "pv"); (case z86_2 => exact xo_45 _); (case z86_3 => exact xi_29 _); (case z86_4 => exact kk_45 _); (case z86_6 => rfl); (case z86_7 => rfl); (case z86_8 => rfl); (case z86_9 => exact Nat.le_add_left _ _)); ((with_reducible refine' he_pv ?z86_1 ?z86_2); (case z86_1 => walk_at "pv"))) | fail "no"); exact p σ _ (.refl _ _)
      · intro hc; rw [if_neg (by rw [hc]; decide)] at p; (try (with_reducible refine' hs_endN ?_))
        (first | ((with_reducible refine' hs_methp ?z88_1 ?z88_2 ?z88_3 ?z88_4 ?z88_5 ?z88_6 ?z88_7 ?z88_8 ?z88_9 ?z88_10 ?z88_11); (case z88_1 => walk_at "pv"); (case z88_2 => walk_at "inst"); (case z88_3 => walk_at "meth"); (case z88_4 => kernel_rfl); (case z88_5 => walk_at "pa"); (case z88_7 => exact ⟨_, fun _ => rfl⟩); (case z88_8 => rfl); (case z88_9 => rfl); (case z88_10 => exact interactive_no); (case z88_11 => (intro; rfl))) | fail "no")
        apply c_put_code g h' hz
        refine p.mono fun σ' q => ⟨rfl, ?_⟩
        (((repeat (with_reducible first | refine' hs_endN ?_ | refine' hs_nil ?_)); first | assumption | skip))
theorem c_move (g : Gp) {n : Nat} {σ l v} {c : Int} {st : Option Int} {Q : MV → MH → Prop} {X : MX → MH → Prop} (h : Rd σ l v) (h0 : 0 ≤ c) (h8 : c < v.starts.length) (p : RPost σ l (v.move c st) Q X) : HC (Gd g) (n + 4) (.ref 207) [.loc l.r, .int c, mvo st] σ Q X := by
  have h' := h
  obtain ⟨n1, n2, n3, n4, n5, n6, n7⟩ := h.ne
  obtain ⟨hi, hj, ha, hb, hf, ab, af, bf⟩ := h
  unfold RdV.move at p
  refine HCc.hc ?_
  apply fn_at 121 [("self", .loc l.r), ("number", .int c), ("start", mvo st)] [] rfl; kernel_rfl; ((kernel_rfl; (((intro W s av XK h; first | (have e := vreps0 h; subst e; exact ⟨_, BindsTo.of_eq rfl, .nil⟩) | (obtain ⟨v1, e, h1⟩ := vreps1 h; subst e; exact ⟨_, BindsTo.of_eq rfl, .cons h1 .nil⟩) | (obtain ⟨v1, v2, e, h1, h2⟩ := vreps2 h; subst e; exact ⟨_, BindsTo.of_eq rfl, .cons h1 (.cons h2 .nil)⟩) | (obtain ⟨v1, v2, v3, e, h1, h2, h3⟩ := vreps3 h; subst e; exact ⟨_, BindsTo.of_eq rfl, .cons h1 (.cons h2 (.cons h3 .nil))⟩) | (obtain ⟨v1, v2, v3, v4, e, h1, h2, h3, h4⟩ := vreps4 h; subst e; exact ⟨_, BindsTo.of_eq rfl, .cons h1 (.cons h2 (.cons h3 (.cons h4 .nil)))⟩) | (obtain ⟨v1, v2, v3, v4, v5, e, h1, h2, h3, h4, h5⟩ := vreps5 h; subst e; exact ⟨_, BindsTo.of_eq rfl, .cons h1 (.cons h2 (.cons h3 (.cons h4 (.cons h5 .nil))))⟩)))); ((focus ((repeat (with_reducible first | exact L0.nil | apply L0.oth | apply L0.bind)); done))); ((focus ((repeat (with_reducible first | exact Nm.nil | apply Nm.cons)); done))); decide +kernel; decide +kernel; rfl; rfl; rfl; rfl))
  cases st with
  | none =>
    (first | ((with_reducible refine' hs_ifp ?z91_1 ?z91_2 ?z91_3); (case z91_1 => walk_at "pb")) | fail "no")
    · intro hc; (first | (((with_reducible refine' hs_raise ?z92_1 ?z92_2 ?z92_3 ?z92_4 ?z92_5 ?z92_6 ?z92_7 ?z92_8 ?z92_9); (case z92_1 => walk_at "pv"); (case z92_2 => exact xo_45 _); (case z92_3 => exact xi_29 _); (case z92_4 => exact kk_45 _); (case z92_6 => rfl); (case z92_7 => rfl); (case z92_8 => rfl); (case z92_9 => exact Nat.le_add_left _ _)); ((with_reducible refine' he_pv ?z92_1 ?z92_2); (case z92_1 => walk_at "pv"))) | fail "no"); exact p σ _ (.refl _ _)
    · intro hc; cases hc
  | some x =>
    dsimp only [mvo]
    (first | ((with_reducible refine' hs_ifp ?z93_1 ?z93_2 ?z93_3); (case z93_1 => walk_at "pb")) | fail "no")
    · intro hc; cases hc
    · intro hc; (try (with_reducible refine' hs_endN ?_))
      (first | ((with_reducible refine' hs_setitemp ?z95_1 ?z95_2 ?z95_3 ?z95_4 ?z95_5 ?z95_6); (case z95_1 => walk_at "pv"); (case z95_2 => walk_at "pv"); (case z95_3 => walk_at "pv"); (case z95_4 => first | ((with_reducible refine' iset_ints ?z95_1 ?z95_2 ?z95_3); (case z95_1 => walk_at "hp"); (case z95_2 => (first | assumption | lia)); (case z95_3 => (first | assumption | lia))) | ((refine' ISet.dict ?z95_1 ?z95_2); (case z95_1 => walk_at "hp"); (case z95_2 => walk_at "put"))); (case z95_6 => (intro; rfl))) | fail "no")
      (first | ((with_reducible refine' hs_methp ?z96_1 ?z96_2 ?z96_3 ?z96_4 ?z96_5 ?z96_6 ?z96_7 ?z96_8 ?z96_9 ?z96_10 ?z96_11); (case z96_1 => walk_at "pv"); (case z96_2 => walk_at "inst"); (case z96_3 => walk_at "meth"); (case z96_4 => kernel_rfl); (case z96_5 => walk_at "pa"); (case z96_7 => exact ⟨_, fun _ => rfl⟩); (case z96_8 => rfl); (case z96_9 => rfl); (case z96_10 => exact interactive_no); (case z96_11 => (intro; rfl))) | fail "no")
      apply c_change (v := { v with starts := v.starts.set c.toNat x }) g
      · ((refine ⟨?_, ?_, ?_, ?_, ?_, by assumption, by assumption, by assumption⟩ <;> ((try dsimp only); walk_at "hp")))
      · refine (p.from (.upd ka)).mono fun σ' q => ⟨rfl, ?_⟩
        (((repeat (with_reducible first | refine' hs_endN ?_ | refine' hs_nil ?_)); first | assumption | skip))
end

section
theorem Rd.keep {σ σ' l v} (h : Rd σ l v) (k : Kp [] σ σ') : Rd σ' l v := ⟨k _ _ (fun z => absurd z List.not_mem_nil) h.i, k _ _ (fun z => absurd z List.not_mem_nil) h.j, k _ _ (fun z => absurd z List.not_mem_nil) h.a, k _ _ (fun z => absurd z List.not_mem_nil) h.b, k _ _ (fun z => absurd z List.not_mem_nil) h.f, h.ab, h.af, h.bf⟩
theorem c_window_start (g : Gp) {n : Nat} {σ i} {Q : MV → MH → Prop} {X : MX → MH → Prop} (h0 : 0 ≤ i) (h1 : i < 256) (q : ∀ σ', Kp [] σ σ' → Q (mvo (winStart i)) σ') : HCc (Gd g) (n + 2) (.ref 130) [.int i] σ Q X := by
  apply fn_at 71 [("index", .int i)] [] rfl; kernel_rfl; ((kernel_rfl; (((intro W s av XK h; first | (have e := vreps0 h; subst e; exact ⟨_, BindsTo.of_eq rfl, .nil⟩) | (obtain ⟨v1, e, h1⟩ := vreps1 h; subst e; exact ⟨_, BindsTo.of_eq rfl, .cons h1 .nil⟩) | (obtain ⟨v1, v2, e, h1, h2⟩ := vreps2 h; subst e; exact ⟨_, BindsTo.of_eq rfl, .cons h1 (.cons h2 .nil)⟩) | (obtain ⟨v1, v2, v3, e, h1, h2, h3⟩ := vreps3 h; subst e; exact ⟨_, BindsTo.of_eq rfl, .cons h1 (.cons h2 (.cons h3 .nil))⟩) | (obtain ⟨v1, v2, v3, v4, e, h1, h2, h3, h4⟩ := vreps4 h; subst e; exact ⟨_, BindsTo.of_eq rfl, .cons h1 (.cons h2 (.cons h3 (.cons h4 .nil)))⟩) | (obtain ⟨v1, v2, v3, v4, v5, e, h1, h2, h3, h4, h5⟩ := vreps5 h; subst e; exact ⟨_, BindsTo.of_eq rfl, .cons h1 (.cons h2 (.cons h3 (.cons h4 (.cons h5 .nil))))⟩)))); ((focus ((repeat (with_reducible first | exact L0.nil | apply L0.oth | apply L0.bind)); done))); ((focus ((repeat (with_reducible first | exact Nm.nil | apply Nm.cons)); done))); decide +kernel; decide +kernel; rfl; rfl; rfl; rfl))
  unfold winStart at q
  (first | ((with_reducible refine' hs_ifp ?z117_1 ?z117_2 ?z117_3); (case z117_1 => walk_at "pb")) | fail "no")
  · intro hc; rw [if_pos hc] at q; (first | ((with_reducible refine' hs_retp ?z118_1 ?z118_2); (case z118_1 => walk_at "pv")) | fail "no"); exact q _ (.refl _ _)
  · intro hc; rw [if_neg (by rw [hc]; decide)] at q; (try (with_reducible refine' hs_endN ?_))
    (first | ((with_reducible refine' hs_ifp ?z120_1 ?z120_2 ?z120_3); (case z120_1 => walk_at "pb")) | fail "no")
    · intro hc; rw [if_pos hc] at q; (first | ((with_reducible refine' hs_retp ?z121_1 ?z121_2); (case z121_1 => walk_at "pv")) | fail "no"); exact q _ (.refl _ _)
    · intro hc; rw [if_neg (by rw [hc]; decide)] at q; (try (with_reducible refine' hs_endN ?_))
      (first | ((with_reducible refine' hs_ifp ?z123_1 ?z123_2 ?z123_3); (case z123_1 => walk_at "pb")) | fail "no")
      · intro hc; rw [if_pos hc] at q
        have hc' : 249 ≤ i := by simpa using hc
        refine hs_ret ?_
        refine he_sub ?_ (fun _ _ => rfl)
        refine he_callp (by walk_at "pv") (by walk_at "pa") ?_ ?_ ?_ ?_
        · refine HCc.hc (c_specials g fun l hl => ?_)
          refine he_pv (by walk_at "pv") ?_
          refine ⟨_, ?_, q _ (.new hl)⟩
          apply sub_ints upd_same
          · lia
          · show i - 249 < 7; lia
        · walk_at "keeps"
        · rfl
        · rfl
      · intro hc; rw [if_neg (by rw [hc]; decide)] at q; (try (with_reducible refine' hs_endN ?_))
        (first | ((with_reducible refine' hs_retp ?z125_1 ?z125_2); (case z125_1 => walk_at "pv")) | fail "no"); exact q _ (.refl _ _)

theorem c_move_far (g : Gp) {n : Nat} {σ l v a b} {Q : MV → MH → Prop} {X : MX → MH → Prop} (h : Rd σ l v) (hv : RdOk v) (ha : 0 ≤ a ∧ a < 256) (hb : 0 ≤ b ∧ b < 256) (p : RPost σ l (v.moveFar a b) Q X) : HC (Gd g) (n + 5) (.ref 214) [.loc l.r, .int a, .int b] σ Q X := by
  have h' := h
  obtain ⟨hi, hj, -, -, -, ab, af, bf⟩ := h
  have hlen := hv.len
  unfold RdV.moveFar at p
  refine HCc.hc ?_
  apply fn_at 126 [("self", .loc l.r), ("high", .int a), ("low", .int b)] ["place"] rfl; kernel_rfl; ((kernel_rfl; (((intro W s av XK h; first | (have e := vreps0 h; subst e; exact ⟨_, BindsTo.of_eq rfl, .nil⟩) | (obtain ⟨v1, e, h1⟩ := vreps1 h; subst e; exact ⟨_, BindsTo.of_eq rfl, .cons h1 .nil⟩) | (obtain ⟨v1, v2, e, h1, h2⟩ := vreps2 h; subst e; exact ⟨_, BindsTo.of_eq rfl, .cons h1 (.cons h2 .nil)⟩) | (obtain ⟨v1, v2, v3, e, h1, h2, h3⟩ := vreps3 h; subst e; exact ⟨_, BindsTo.of_eq rfl, .cons h1 (.cons h2 (.cons h3 .nil))⟩) | (obtain ⟨v1, v2, v3, v4, e, h1, h2, h3, h4⟩ := vreps4 h; subst e; exact ⟨_, BindsTo.of_eq rfl, .cons h1 (.cons h2 (.cons h3 (.cons h4 .nil)))⟩) | (obtain ⟨v1, v2, v3, v4, v5, e, h1, h2, h3, h4, h5⟩ := vreps5 h; subst e; exact ⟨_, BindsTo.of_eq rfl, .cons h1 (.cons h2 (.cons h3 (.cons h4 (.cons h5 .nil))))⟩)))); ((focus ((repeat (with_reducible first | exact L0.nil | apply L0.oth | apply L0.bind)); done))); ((focus ((repeat (with_reducible first | exact Nm.nil | apply Nm.cons)); done))); decide +kernel; decide +kernel; rfl; rfl; rfl; rfl))
  (first | ((with_reducible refine' hs_assignp ?z127_1 ?z127_2 ?z127_3 ?z127_4); (case z127_1 => walk_at "pv"); (case z127_2 => walk_at "lput"); (case z127_4 => (intro; rfl))) | fail "no")
  (first | ((with_reducible refine' hs_methp ?z128_1 ?z128_2 ?z128_3 ?z128_4 ?z128_5 ?z128_6 ?z128_7 ?z128_8 ?z128_9 ?z128_10 ?z128_11); (case z128_1 => walk_at "pv"); (case z128_2 => walk_at "inst"); (case z128_3 => walk_at "meth"); (case z128_4 => kernel_rfl); (case z128_5 => walk_at "pa"); (case z128_7 => exact ⟨_, fun _ => rfl⟩); (case z128_8 => rfl); (case z128_9 => rfl); (case z128_10 => exact interactive_no); (case z128_11 => (intro; rfl))) | fail "no")
  apply c_move (st := some (65536 + (a % 32 * 256 + b) * 128)) g h'
  · lia
  · lia
  · refine p.mono fun σ' q => ⟨rfl, ?_⟩
    (((repeat (with_reducible first | refine' hs_endN ?_ | refine' hs_nil ?_)); first | assumption | skip))
theorem c_quoted (g : Gp) {n : Nat} {σ l v k o} (h : Rd σ l v) (hv : RdOk v) (h0 : 0 ≤ k) (h8 : k < 8) : PC (Gd g) (n + 1) (.ref 228) [.loc l.r, .int k, .int o] σ (.int (v.quoted k o)) := by
  refine PC.of fun Q X q => ?_
  obtain ⟨hi, hj, ha, hb, hf, ab, af, bf⟩ := h
  have hlen := hv.len
  have hst : statics.length = 8 := rfl
  apply fn_at 136 [("self", .loc l.r), ("number", .int k), ("octet", .int o)] [] rfl; kernel_rfl; ((kernel_rfl; (((intro W s av XK h; first | (have e := vreps0 h; subst e; exact ⟨_, BindsTo.of_eq rfl, .nil⟩) | (obtain ⟨v1, e, h1⟩ := vreps1 h; subst e; exact ⟨_, BindsTo.of_eq rfl, .cons h1 .nil⟩) | (obtain ⟨v1, v2, e, h1, h2⟩ := vreps2 h; subst e; exact ⟨_, BindsTo.of_eq rfl, .cons h1 (.cons h2 .nil)⟩) | (obtain ⟨v1, v2, v3, e, h1, h2, h3⟩ := vreps3 h; subst e; exact ⟨_, BindsTo.of_eq rfl, .cons h1 (.cons h2 (.cons h3 .nil))⟩) | (obtain ⟨v1, v2, v3, v4, e, h1, h2, h3, h4⟩ := vreps4 h; subst e; exact ⟨_, BindsTo.of_eq rfl, .cons h1 (.cons h2 (.cons h3 (.cons h4 .nil)))⟩) | (obtain ⟨v1, v2, v3, v4, v5, e, h1, h2, h3, h4, h5⟩ := vreps5 h; subst e; exact ⟨_, BindsTo.of_eq rfl, .cons h1 (.cons h2 (.cons h3 (.cons h4 (.cons h5 .nil))))⟩)))); ((focus ((repeat (with_reducible first | exact L0.nil | apply L0.oth | apply L0.bind)); done))); ((focus ((repeat (with_reducible first | exact Nm.nil | apply Nm.cons)); done))); decide +kernel; decide +kernel; rfl; rfl; rfl; rfl))
  unfold RdV.quoted at q
  (first | ((with_reducible refine' hs_ifp ?z131_1 ?z131_2 ?z131_3); (case z131_1 => walk_at "pb")) | fail "no")
  · intro hc; rw [if_pos hc] at q; (first | ((with_reducible refine' hs_retp ?z132_1 ?z132_2); (case z132_1 => walk_at "pv")) | fail "no"); exact q
  · intro hc; rw [if_neg (by rw [hc]; decide)] at q; (try (with_reducible refine' hs_endN ?_))
    (first | ((with_reducible refine' hs_retp ?z134_1 ?z134_2); (case z134_1 => walk_at "pv")) | fail "no"); exact q
theorem k_102 (g : Gp) : ∃ d its n sl, (Gd g).K.lookup 102 = some ⟨.type "tuple", d, .seq (its : List Value).toArray n, sl⟩ ∧ IntsAre its [0, 9, 10, 13] := ⟨none, [.int 0 347, .int 9 348, .int 10 349, .int 13 350], _, _, rfl, .cons _ _ (.cons _ _ (.cons _ _ (.cons _ _ .nil)))⟩
theorem pb_plain (g : Gp) {F ρ σ l r pos a} (hl : PV (Gd g) F ρ σ l (.int a)) (hr : PV (Gd g) F ρ σ r (.raw (.ref 102))) (hm : behindInMarks .In r = false) : PB (Gd g) F ρ σ (.Compare l [.In] [r] pos) ([0, 9, 10, 13].contains a) := by
  obtain ⟨d, its, n, sl, hK, hi⟩ := k_102 g
  exact hb_inK hl hr hK rfl rfl hi hm
end
set_option hygiene false in
local macro_rules | `(tactic| walk_at "pc") => `(tactic| exact c_quoted _ (by assumption) (by assumption) (by lia) (by lia))
local macro_rules | `(tactic| walk_at "pv") => `(tactic| first | ((with_reducible refine' pv_methp ?k1 ?k2 ?k3 ?k4 ?k5 ?k6 ?k7 ?k8 ?k9); (case k1 => walk_at "pv"); (case k2 => walk_at "inst"); (case k3 => walk_at "meth"); (case k4 => kernel_rfl); (case k5 => walk_at "pa"); (case k6 => walk_at "pc"); (case k7 => exact ⟨_, fun _ => rfl⟩); (case k8 => rfl); (case k9 => rfl)) | fail "no")
local macro_rules | `(tactic| walk_at "pb") => `(tactic| first | ((with_reducible refine' pb_plain _ ?k1 ?k2 ?k3); (case k1 => walk_at "pv"); (case k2 => walk_at "pv"); (case k3 => rfl)) | fail "no")

section
theorem c_take_narrow (g : Gp) {n : Nat} {σ l v} {c : List UInt8} {Q : MV → MH → Prop} {X : MX → MH → Prop} (h : Rd σ l v) (hv : RdOk v) (hz : v.found.length < 65000) (hc : c.length = (narrowLen (u8 c 0)).toNat) (p : RPost σ l (v.takeNarrow c) Q X) : HC (Gd g) (n + 7) (.ref 235) [.loc l.r, .bytes c] σ Q X := by
  have h' := h
  obtain ⟨hi, hj, ha, hb, hf, ab, af, bf⟩ := h
  have hlen := hv.len
  have ha0 := hv.a0
  have ha8 := hv.a8
  obtain ⟨q1, q2, q3, q4, q5, q6⟩ := narrow_facts hc
  have b0 := u8_lo c 0
  have b0' := u8_hi c 0
  have b1 := u8_lo c 1
  have b1' := u8_hi c 1
  have b2 := u8_lo c 2
  have b2' := u8_hi c 2
  unfold RdV.takeNarrow at p
  dsimp only at p
  refine HCc.hc ?_
  apply fn_at 141 [("self", .loc l.r), ("command", .bytes c)] ["octet"] rfl; kernel_rfl; ((kernel_rfl; (((intro W s av XK h; first | (have e := vreps0 h; subst e; exact ⟨_, BindsTo.of_eq rfl, .nil⟩) | (obtain ⟨v1, e, h1⟩ := vreps1 h; subst e; exact ⟨_, BindsTo.of_eq rfl, .cons h1 .nil⟩) | (obtain ⟨v1, v2, e, h1, h2⟩ := vreps2 h; subst e; exact ⟨_, BindsTo.of_eq rfl, .cons h1 (.cons h2 .nil)⟩) | (obtain ⟨v1, v2, v3, e, h1, h2, h3⟩ := vreps3 h; subst e; exact ⟨_, BindsTo.of_eq rfl, .cons h1 (.cons h2 (.cons h3 .nil))⟩) | (obtain ⟨v1, v2, v3, v4, e, h1, h2, h3, h4⟩ := vreps4 h; subst e; exact ⟨_, BindsTo.of_eq rfl, .cons h1 (.cons h2 (.cons h3 (.cons h4 .nil)))⟩) | (obtain ⟨v1, v2, v3, v4, v5, e, h1, h2, h3, h4, h5⟩ := vreps5 h; subst e; exact ⟨_, BindsTo.of_eq rfl, .cons h1 (.cons h2 (.cons h3 (.cons h4 (.cons h5 .nil))))⟩)))); ((focus ((repeat (with_reducible first | exact L0.nil | apply L0.oth | apply L0.bind)); done))); ((focus ((repeat (with_reducible first | exact Nm.nil | apply Nm.cons)); done))); decide +kernel; decide +kernel; rfl; rfl; rfl; rfl))
  (first | ((with_reducible refine' hs_assignp ?z145_1 ?z145_2 ?z145_3 ?z145_4); (case z145_1 => walk_at "pv"); (case z145_2 => walk_at "lput"); (case z145_4 => (intro; rfl))) | fail "no")
  change HS _ _ [("self", _), ("command", _), ("octet", some (.int (u8 c 0)))] _ _ _ _
  generalize ho : u8 c 0 = o at *
  (first | ((with_reducible refine' hs_ifp ?z146_1 ?z146_2 ?z146_3); (case z146_1 => walk_at "pb")) | fail "no")
  · intro h1; rw [if_pos h1] at p
    (first | ((with_reducible refine' hs_methp ?z147_1 ?z147_2 ?z147_3 ?z147_4 ?z147_5 ?z147_6 ?z147_7 ?z147_8 ?z147_9 ?z147_10 ?z147_11); (case z147_1 => walk_at "pv"); (case z147_2 => walk_at "inst"); (case z147_3 => walk_at "meth"); (case z147_4 => kernel_rfl); (case z147_5 => walk_at "pa"); (case z147_7 => exact ⟨_, fun _ => rfl⟩); (case z147_8 => rfl); (case z147_9 => rfl); (case z147_10 => exact interactive_no); (case z147_11 => (intro; rfl))) | fail "no")
    apply c_put_code g h' hz
    refine p.mono fun σ' q => ⟨rfl, ?_⟩
    (((repeat (with_reducible first | refine' hs_endN ?_ | refine' hs_nil ?_)); first | assumption | skip))
  · intro h1; rw [if_neg (by rw [h1]; decide)] at p; (try (with_reducible refine' hs_endN ?_))
    (first | ((with_reducible refine' hs_ifp ?z150_1 ?z150_2 ?z150_3); (case z150_1 => walk_at "pb")) | fail "no")
    · intro h2; rw [if_pos h2] at p
      (first | ((with_reducible refine' hs_methp ?z151_1 ?z151_2 ?z151_3 ?z151_4 ?z151_5 ?z151_6 ?z151_7 ?z151_8 ?z151_9 ?z151_10 ?z151_11); (case z151_1 => walk_at "pv"); (case z151_2 => walk_at "inst"); (case z151_3 => walk_at "meth"); (case z151_4 => kernel_rfl); (case z151_5 => walk_at "pa"); (case z151_7 => exact ⟨_, fun _ => rfl⟩); (case z151_8 => rfl); (case z151_9 => rfl); (case z151_10 => exact interactive_no); (case z151_11 => (intro; rfl))) | fail "no")
      apply c_put_code g h' hz
      refine p.mono fun σ' q => ⟨rfl, ?_⟩
      (((repeat (with_reducible first | refine' hs_endN ?_ | refine' hs_nil ?_)); first | assumption | skip))
    · intro h2; rw [if_neg (by rw [h2]; decide)] at p; (try (with_reducible refine' hs_endN ?_))
      have h2' := h2
      simp at h2'
      (first | ((with_reducible refine' hs_ifp ?z154_1 ?z154_2 ?z154_3); (case z154_1 => walk_at "pb")) | fail "no")
      · intro h3; rw [if_pos h3] at p
        have h3' : 24 ≤ o := by simpa using h3
        refine hs_expr ?_ interactive_no (by intro; rfl)
        refine he_meth (pv_loc (mv := .loc l.r) (by walk_at "mem") _ _ ⟨l.r, 245, l.j, _, 207, rfl, ⟨hi, hj⟩, m_245_move _, notKey_mem (by kernel_rfl), ?_⟩) ⟨_, fun _ => rfl⟩ rfl rfl
        with_reducible refine ha_cons ?_ ?h2
        case h2 => rfl
        refine he_pv (by walk_at "pv") ?_
        with_reducible refine ha_cons ?_ ?h2
        case h2 => rfl
        refine he_callp (by walk_at "pv") (by walk_at "pa") ?_ ?_ ?_ ?_
        · refine HCc.hc (c_window_start g b1 b1' fun σ' k => ?_)
          refine ha_nil ?_
          apply c_move g (h'.keep k)
          · lia
          · lia
          · refine (p.from (k.sub fun _ z => absurd z List.not_mem_nil)).mono fun σ' q => ⟨rfl, ?_⟩
            (((repeat (with_reducible first | refine' hs_endN ?_ | refine' hs_nil ?_)); first | assumption | skip))
        · walk_at "keeps"
        · rfl
        · rfl
      · intro h3; rw [if_neg (by rw [h3]; decide)] at p; (try (with_reducible refine' hs_endN ?_))
        (first | ((with_reducible refine' hs_ifp ?z157_1 ?z157_2 ?z157_3); (case z157_1 => walk_at "pb")) | fail "no")
        · intro h4; rw [if_pos h4] at p
          (first | ((with_reducible refine' hs_methp ?z158_1 ?z158_2 ?z158_3 ?z158_4 ?z158_5 ?z158_6 ?z158_7 ?z158_8 ?z158_9 ?z158_10 ?z158_11); (case z158_1 => walk_at "pv"); (case z158_2 => walk_at "inst"); (case z158_3 => walk_at "meth"); (case z158_4 => kernel_rfl); (case z158_5 => walk_at "pa"); (case z158_7 => exact ⟨_, fun _ => rfl⟩); (case z158_8 => rfl); (case z158_9 => rfl); (case z158_10 => exact interactive_no); (case z158_11 => (intro; rfl))) | fail "no")
          apply c_change g h'
          refine RPost.mono p fun σ' q => ⟨rfl, ?_⟩
          (((repeat (with_reducible first | refine' hs_endN ?_ | refine' hs_nil ?_)); first | assumption | skip))
        · intro h4; rw [if_neg (by rw [h4]; decide)] at p; (try (with_reducible refine' hs_endN ?_))
          (first | ((with_reducible refine' hs_ifp ?z161_1 ?z161_2 ?z161_3); (case z161_1 => walk_at "pb")) | fail "no")
          · intro h5; rw [if_pos h5] at p
            obtain ⟨n1, n2, n3, n4, n5, n6, n7⟩ := h'.ne
            (first | ((with_reducible refine' hs_setattrp ?z162_1 ?z162_2 ?z162_3 ?z162_4 ?z162_5 ?z162_6 ?z162_7); (case z162_1 => walk_at "pv"); (case z162_2 => walk_at "pv"); (case z162_3 => walk_at "inst"); (case z162_4 => (with_reducible exact SetI_ok _ (by constructor))); (case z162_5 => (first | (apply APut.old; walk_at "put") | (apply aput_new; kernel_rfl; exact Nat.le_of_ble_eq_true rfl))); (case z162_7 => (intro; rfl))) | fail "no")
            (((repeat (with_reducible first | refine' hs_endN ?_ | refine' hs_nil ?_)); first | assumption | skip))
            refine p _ ?_ (.upd kj)
            ((refine ⟨?_, ?_, ?_, ?_, ?_, by assumption, by assumption, by assumption⟩ <;> ((try dsimp only); walk_at "hp")))
          · intro h5; rw [if_neg (by rw [h5]; decide)] at p; (try (with_reducible refine' hs_endN ?_))
            (first | ((with_reducible refine' hs_ifp ?z166_1 ?z166_2 ?z166_3); (case z166_1 => walk_at "pb")) | fail "no")
            · intro h6; rw [if_pos h6] at p
              have h6' : o = 14 := by simpa using h6
              (first | ((with_reducible refine' hs_methp ?z167_1 ?z167_2 ?z167_3 ?z167_4 ?z167_5 ?z167_6 ?z167_7 ?z167_8 ?z167_9 ?z167_10 ?z167_11); (case z167_1 => walk_at "pv"); (case z167_2 => walk_at "inst"); (case z167_3 => walk_at "meth"); (case z167_4 => kernel_rfl); (case z167_5 => walk_at "pa"); (case z167_7 => exact ⟨_, fun _ => rfl⟩); (case z167_8 => rfl); (case z167_9 => rfl); (case z167_10 => exact interactive_no); (case z167_11 => (intro; rfl))) | fail "no")
              apply c_put_unit g h' hz hv.hi
              refine p.mono fun σ' q => ⟨rfl, ?_⟩
              (((repeat (with_reducible first | refine' hs_endN ?_ | refine' hs_nil ?_)); first | assumption | skip))
            · intro h6; rw [if_neg (by rw [h6]; decide)] at p; (try (with_reducible refine' hs_endN ?_))
              (first | ((with_reducible refine' hs_ifp ?z170_1 ?z170_2 ?z170_3); (case z170_1 => walk_at "pb")) | fail "no")
              · intro h7; rw [if_pos h7] at p
                have h7' : o = 11 := by simpa using h7
                (first | ((with_reducible refine' hs_methp ?z171_1 ?z171_2 ?z171_3 ?z171_4 ?z171_5 ?z171_6 ?z171_7 ?z171_8 ?z171_9 ?z171_10 ?z171_11); (case z171_1 => walk_at "pv"); (case z171_2 => walk_at "inst"); (case z171_3 => walk_at "meth"); (case z171_4 => kernel_rfl); (case z171_5 => walk_at "pa"); (case z171_7 => exact ⟨_, fun _ => rfl⟩); (case z171_8 => rfl); (case z171_9 => rfl); (case z171_10 => exact interactive_no); (case z171_11 => (intro; rfl))) | fail "no")
                apply c_move_far g h' hv ⟨b1, b1'⟩ ⟨b2, b2'⟩
                refine p.mono fun σ' q => ⟨rfl, ?_⟩
                (((repeat (with_reducible first | refine' hs_endN ?_ | refine' hs_nil ?_)); first | assumption | skip))
              · intro h7; rw [if_neg (by rw [h7]; decide)] at p; (try (with_reducible refine' hs_endN ?_))
                (first | ((with_reducible refine' hs_ifp ?z174_1 ?z174_2 ?z174_3); (case z174_1 => walk_at "pb")) | fail "no")
                · intro h8; rw [if_pos h8] at p
                  (first | (((with_reducible refine' hs_raise ?z175_1 ?z175_2 ?z175_3 ?z175_4 ?z175_5 ?z175_6 ?z175_7 ?z175_8 ?z175_9); (case z175_1 => walk_at "pv"); (case z175_2 => exact xo_45 _); (case z175_3 => exact xi_29 _); (case z175_4 => exact kk_45 _); (case z175_6 => rfl); (case z175_7 => rfl); (case z175_8 => rfl); (case z175_9 => exact Nat.le_add_left _ _)); ((with_reducible refine' he_pv ?z175_1 ?z175_2); (case z175_1 => walk_at "pv"))) | fail "no")
                  exact p _ _ (.refl _ _)
                · intro h8; rw [if_neg (by rw [h8]; decide)] at p; (try (with_reducible refine' hs_endN ?_))
                  simp at h3 h4 h5 h6 h7 h8
                  have r1 : 1 ≤ o := by lia
                  have r2 : o < 9 := by lia
                  have r3 := q4 r1 r2
                  (first | ((with_reducible refine' hs_methp ?z177_1 ?z177_2 ?z177_3 ?z177_4 ?z177_5 ?z177_6 ?z177_7 ?z177_8 ?z177_9 ?z177_10 ?z177_11); (case z177_1 => walk_at "pv"); (case z177_2 => walk_at "inst"); (case z177_3 => walk_at "meth"); (case z177_4 => kernel_rfl); (case z177_5 => walk_at "pa"); (case z177_7 => exact ⟨_, fun _ => rfl⟩); (case z177_8 => rfl); (case z177_9 => rfl); (case z177_10 => exact interactive_no); (case z177_11 => (intro; rfl))) | fail "no")
                  apply c_put_code g h' hz
                  refine p.mono fun σ' q => ⟨rfl, ?_⟩
                  (((repeat (with_reducible first | refine' hs_endN ?_ | refine' hs_nil ?_)); first | assumption | skip))
end

section
theorem c_take_wide (g : Gp) {n : Nat} {σ l v} {c : List UInt8} {Q : MV → MH → Prop} {X : MX → MH → Prop} (h : Rd σ l v) (hv : RdOk v) (hz : v.found.length < 65000) (hc : c.length = (wideLen (u8 c 0)).toNat) (p : RPost σ l (v.takeWide c) Q X) : HC (Gd g) (n + 7) (.ref 242) [.loc l.r, .bytes c] σ Q X := by
  have h' := h
  obtain ⟨hi, hj, ha, hb, hf, ab, af, bf⟩ := h
  have hlen := hv.len
  obtain ⟨q1, q2, q3, q4, q5, q6⟩ := wide_facts hc
  have b0 := u8_lo c 0
  have b0' := u8_hi c 0
  have b1 := u8_lo c 1
  have b1' := u8_hi c 1
  have b2 := u8_lo c 2
  have b2' := u8_hi c 2
  unfold RdV.takeWide at p
  dsimp only at p
  refine HCc.hc ?_
  apply fn_at 146 [("self", .loc l.r), ("command", .bytes c)] ["octet"] rfl; kernel_rfl; ((kernel_rfl; (((intro W s av XK h; first | (have e := vreps0 h; subst e; exact ⟨_, BindsTo.of_eq rfl, .nil⟩) | (obtain ⟨v1, e, h1⟩ := vreps1 h; subst e; exact ⟨_, BindsTo.of_eq rfl, .cons h1 .nil⟩) | (obtain ⟨v1, v2, e, h1, h2⟩ := vreps2 h; subst e; exact ⟨_, BindsTo.of_eq rfl, .cons h1 (.cons h2 .nil)⟩) | (obtain ⟨v1, v2, v3, e, h1, h2, h3⟩ := vreps3 h; subst e; exact ⟨_, BindsTo.of_eq rfl, .cons h1 (.cons h2 (.cons h3 .nil))⟩) | (obtain ⟨v1, v2, v3, v4, e, h1, h2, h3, h4⟩ := vreps4 h; subst e; exact ⟨_, BindsTo.of_eq rfl, .cons h1 (.cons h2 (.cons h3 (.cons h4 .nil)))⟩) | (obtain ⟨v1, v2, v3, v4, v5, e, h1, h2, h3, h4, h5⟩ := vreps5 h; subst e; exact ⟨_, BindsTo.of_eq rfl, .cons h1 (.cons h2 (.cons h3 (.cons h4 (.cons h5 .nil))))⟩)))); ((focus ((repeat (with_reducible first | exact L0.nil | apply L0.oth | apply L0.bind)); done))); ((focus ((repeat (with_reducible first | exact Nm.nil | apply Nm.cons)); done))); decide +kernel; decide +kernel; rfl; rfl; rfl; rfl))
  (first | ((with_reducible refine' hs_assignp ?z184_1 ?z184_2 ?z184_3 ?z184_4); (case z184_1 => walk_at "pv"); (case z184_2 => walk_at "lput"); (case z184_4 => (intro; rfl))) | fail "no")
  change HS _ _ [("self", _), ("command", _), ("octet", some (.int (u8 c 0)))] _ _ _ _
  generalize ho : u8 c 0 = o at *
  (first | ((with_reducible refine' hs_ifp ?z185_1 ?z185_2 ?z185_3); (case z185_1 => walk_at "pb")) | fail "no")
  · intro h1; rw [if_pos h1] at p
    (first | (((with_reducible refine' hs_raise ?z186_1 ?z186_2 ?z186_3 ?z186_4 ?z186_5 ?z186_6 ?z186_7 ?z186_8 ?z186_9); (case z186_1 => walk_at "pv"); (case z186_2 => exact xo_45 _); (case z186_3 => exact xi_29 _); (case z186_4 => exact kk_45 _); (case z186_6 => rfl); (case z186_7 => rfl); (case z186_8 => rfl); (case z186_9 => exact Nat.le_add_left _ _)); ((with_reducible refine' he_pv ?z186_1 ?z186_2); (case z186_1 => walk_at "pv"))) | fail "no")
    exact p _ _ (.refl _ _)
  · intro h1; rw [if_neg (by rw [h1]; decide)] at p; (try (with_reducible refine' hs_endN ?_))
    (first | ((with_reducible refine' hs_ifp ?z188_1 ?z188_2 ?z188_3); (case z188_1 => walk_at "pb")) | fail "no")
    · intro h2; rw [if_pos h2] at p
      have h2' : o = 240 := by simpa using h2
      (first | ((with_reducible refine' hs_methp ?z189_1 ?z189_2 ?z189_3 ?z189_4 ?z189_5 ?z189_6 ?z189_7 ?z189_8 ?z189_9 ?z189_10 ?z189_11); (case z189_1 => walk_at "pv"); (case z189_2 => walk_at "inst"); (case z189_3 => walk_at "meth"); (case z189_4 => kernel_rfl); (case z189_5 => walk_at "pa"); (case z189_7 => exact ⟨_, fun _ => rfl⟩); (case z189_8 => rfl); (case z189_9 => rfl); (case z189_10 => exact interactive_no); (case z189_11 => (intro; rfl))) | fail "no")
      apply c_put_unit g h' hz hv.hi
      refine p.mono fun σ' q => ⟨rfl, ?_⟩
      (((repeat (with_reducible first | refine' hs_endN ?_ | refine' hs_nil ?_)); first | assumption | skip))
    · intro h2; rw [if_neg (by rw [h2]; decide)] at p; (try (with_reducible refine' hs_endN ?_))
      (first | ((with_reducible refine' hs_ifp ?z192_1 ?z192_2 ?z192_3); (case z192_1 => walk_at "pb")) | fail "no")
      · intro h7; rw [if_pos h7] at p
        have h7' : o = 241 := by simpa using h7
        (first | ((with_reducible refine' hs_methp ?z193_1 ?z193_2 ?z193_3 ?z193_4 ?z193_5 ?z193_6 ?z193_7 ?z193_8 ?z193_9 ?z193_10 ?z193_11); (case z193_1 => walk_at "pv"); (case z193_2 => walk_at "inst"); (case z193_3 => walk_at "meth"); (case z193_4 => kernel_rfl); (case z193_5 => walk_at "pa"); (case z193_7 => exact ⟨_, fun _ => rfl⟩); (case z193_8 => rfl); (case z193_9 => rfl); (case z193_10 => exact interactive_no); (case z193_11 => (intro; rfl))) | fail "no")
        apply c_move_far g h' hv ⟨b1, b1'⟩ ⟨b2, b2'⟩
        refine p.mono fun σ' q => ⟨rfl, ?_⟩
        (((repeat (with_reducible first | refine' hs_endN ?_ | refine' hs_nil ?_)); first | assumption | skip))
      · intro h7; rw [if_neg (by rw [h7]; decide)] at p; (try (with_reducible refine' hs_endN ?_))
        (first | ((with_reducible refine' hs_ifp ?z196_1 ?z196_2 ?z196_3); (case z196_1 => walk_at "pb")) | fail "no")
        · intro h4; rw [if_pos h4] at p
          (first | ((with_reducible refine' hs_methp ?z197_1 ?z197_2 ?z197_3 ?z197_4 ?z197_5 ?z197_6 ?z197_7 ?z197_8 ?z197_9 ?z197_10 ?z197_11); (case z197_1 => walk_at "pv"); (case z197_2 => walk_at "inst"); (case z197_3 => walk_at "meth"); (case z197_4 => kernel_rfl); (case z197_5 => walk_at "pa"); (case z197_7 => exact ⟨_, fun _ => rfl⟩); (case z197_8 => rfl); (case z197_9 => rfl); (case z197_10 => exact interactive_no); (case z197_11 => (intro; rfl))) | fail "no")
          apply c_change g h'
          refine RPost.mono p fun σ' q => ⟨rfl, ?_⟩
          (((repeat (with_reducible first | refine' hs_endN ?_ | refine' hs_nil ?_)); first | assumption | skip))
        · intro h4; rw [if_neg (by rw [h4]; decide)] at p; (try (with_reducible refine' hs_endN ?_))
          (first | ((with_reducible refine' hs_ifp ?z200_1 ?z200_2 ?z200_3); (case z200_1 => walk_at "pb")) | fail "no")
          · intro h3; rw [if_pos h3] at p
            have h3' : 232 ≤ o ∧ o < 240 := by simpa using h3
            have h3'' := q6 h3'.1 (by lia)
            refine hs_expr ?_ interactive_no (by intro; rfl)
            refine he_meth (pv_loc (mv := .loc l.r) (by walk_at "mem") _ _ ⟨l.r, 245, l.j, _, 207, rfl, ⟨hi, hj⟩, m_245_move _, notKey_mem (by kernel_rfl), ?_⟩) ⟨_, fun _ => rfl⟩ rfl rfl
            with_reducible refine ha_cons ?_ ?h2
            case h2 => rfl
            refine he_pv (by walk_at "pv") ?_
            with_reducible refine ha_cons ?_ ?h2
            case h2 => rfl
            refine he_callp (by walk_at "pv") (by walk_at "pa") ?_ ?_ ?_ ?_
            · refine HCc.hc (c_window_start g b1 b1' fun σ' k => ?_)
              refine ha_nil ?_
              apply c_move g (h'.keep k)
              · lia
              · lia
              · refine (p.from (k.sub fun _ z => absurd z List.not_mem_nil)).mono fun σ' q => ⟨rfl, ?_⟩
                (((repeat (with_reducible first | refine' hs_endN ?_ | refine' hs_nil ?_)); first | assumption | skip))
            · walk_at "keeps"
            · rfl
            · rfl
          · intro h3; rw [if_neg (by rw [h3]; decide)] at p; (try (with_reducible refine' hs_endN ?_))
            have r : 2 ≤ c.length := by
              simp at h1 h2 h3 h4 h7
              by_cases z : o < 224
              · exact q5 z
              · exact q6 (by lia) (by lia)
            (first | ((with_reducible refine' hs_methp ?z203_1 ?z203_2 ?z203_3 ?z203_4 ?z203_5 ?z203_6 ?z203_7 ?z203_8 ?z203_9 ?z203_10 ?z203_11); (case z203_1 => walk_at "pv"); (case z203_2 => walk_at "inst"); (case z203_3 => walk_at "meth"); (case z203_4 => kernel_rfl); (case z203_5 => walk_at "pa"); (case z203_7 => exact ⟨_, fun _ => rfl⟩); (case z203_8 => rfl); (case z203_9 => rfl); (case z203_10 => exact interactive_no); (case z203_11 => (intro; rfl))) | fail "no")
            apply c_put_unit g h' hz hv.hi
            refine p.mono fun σ' q => ⟨rfl, ?_⟩
            (((repeat (with_reducible first | refine' hs_endN ?_ | refine' hs_nil ?_)); first | assumption | skip))
theorem c_finish (g : Gp) {n : Nat} {σ l v} {Q : MV → MH → Prop} {X : MX → MH → Prop} (h : Rd σ l v) (p : match v.finish with | none => Q .none σ | some e => ∀ m, X ⟨45, .tup [.int e, .str m]⟩ σ) : HC (Gd g) (n + 4) (.ref 186) [.loc l.r] σ Q X := by
  obtain ⟨hi, hj, ha, hb, hf, ab, af, bf⟩ := h
  unfold RdV.finish at p
  refine HCc.hc ?_
  apply fn_at 106 [("self", .loc l.r)] [] rfl; kernel_rfl; ((kernel_rfl; (((intro W s av XK h; first | (have e := vreps0 h; subst e; exact ⟨_, BindsTo.of_eq rfl, .nil⟩) | (obtain ⟨v1, e, h1⟩ := vreps1 h; subst e; exact ⟨_, BindsTo.of_eq rfl, .cons h1 .nil⟩) | (obtain ⟨v1, v2, e, h1, h2⟩ := vreps2 h; subst e; exact ⟨_, BindsTo.of_eq rfl, .cons h1 (.cons h2 .nil)⟩) | (obtain ⟨v1, v2, v3, e, h1, h2, h3⟩ := vreps3 h; subst e; exact ⟨_, BindsTo.of_eq rfl, .cons h1 (.cons h2 (.cons h3 .nil))⟩) | (obtain ⟨v1, v2, v3, v4, e, h1, h2, h3, h4⟩ := vreps4 h; subst e; exact ⟨_, BindsTo.of_eq rfl, .cons h1 (.cons h2 (.cons h3 (.cons h4 .nil)))⟩) | (obtain ⟨v1, v2, v3, v4, v5, e, h1, h2, h3, h4, h5⟩ := vreps5 h; subst e; exact ⟨_, BindsTo.of_eq rfl, .cons h1 (.cons h2 (.cons h3 (.cons h4 (.cons h5 .nil))))⟩)))); ((focus ((repeat (with_reducible first | exact L0.nil | apply L0.oth | apply L0.bind)); done))); ((focus ((repeat (with_reducible first | exact Nm.nil | apply Nm.cons)); done))); decide +kernel; decide +kernel; rfl; rfl; rfl; rfl))
  (first | ((with_reducible refine' hs_ifp ?z206_1 ?z206_2 ?z206_3); (case z206_1 => walk_at "pb")) | fail "no")
  · intro hc; rw [if_pos hc] at p
    (first | (((with_reducible refine' hs_raise ?z207_1 ?z207_2 ?z207_3 ?z207_4 ?z207_5 ?z207_6 ?z207_7 ?z207_8 ?z207_9); (case z207_1 => walk_at "pv"); (case z207_2 => exact xo_45 _); (case z207_3 => exact xi_29 _); (case z207_4 => exact kk_45 _); (case z207_6 => rfl); (case z207_7 => rfl); (case z207_8 => rfl); (case z207_9 => exact Nat.le_add_left _ _)); ((with_reducible refine' he_pv ?z207_1 ?z207_2); (case z207_1 => walk_at "pv"))) | fail "no")
    exact p _
  · intro hc; rw [if_neg (by rw [hc]; decide)] at p; (try (with_reducible refine' hs_endN ?_))
    (first | ((with_reducible refine' hs_ifp ?z209_1 ?z209_2 ?z209_3); (case z209_1 => walk_at "pb")) | fail "no")
    · intro hc; rw [if_pos hc] at p
      (first | (((with_reducible refine' hs_raise ?z210_1 ?z210_2 ?z210_3 ?z210_4 ?z210_5 ?z210_6 ?z210_7 ?z210_8 ?z210_9); (case z210_1 => walk_at "pv"); (case z210_2 => exact xo_45 _); (case z210_3 => exact xi_29 _); (case z210_4 => exact kk_45 _); (case z210_6 => rfl); (case z210_7 => rfl); (case z210_8 => rfl); (case z210_9 => exact Nat.le_add_left _ _)); ((with_reducible refine' he_pv ?z210_1 ?z210_2); (case z210_1 => walk_at "pv"))) | fail "no")
      exact p _
    · intro hc; rw [if_neg (by rw [hc]; decide)] at p; (try (with_reducible refine' hs_endN ?_))
      (((repeat (with_reducible first | refine' hs_endN ?_ | refine' hs_nil ?_)); first | assumption | skip))
theorem c_reader_init (g : Gp) {n : Nat} {σ i j} {Q : MV → MH → Prop} {X : MX → MH → Prop} (hij : i ≠ j) (hi : σ i = some (.inst 245 j)) (hj : σ j = some (.ns [])) (p : ∀ σ' l, l.r = i → Rd σ' l RdV.new → Kp [j] σ σ' → (∀ o, σ l.a ≠ some o) → (∀ o, σ l.f ≠ some o) → l.j = j → Q .none σ') : HCc (Gd g) (n + 2) (.ref 172) [.loc i] σ Q X := by
  apply fn_at 96 [("self", .loc i)] [] rfl; kernel_rfl; ((kernel_rfl; (((intro W s av XK h; first | (have e := vreps0 h; subst e; exact ⟨_, BindsTo.of_eq rfl, .nil⟩) | (obtain ⟨v1, e, h1⟩ := vreps1 h; subst e; exact ⟨_, BindsTo.of_eq rfl, .cons h1 .nil⟩) | (obtain ⟨v1, v2, e, h1, h2⟩ := vreps2 h; subst e; exact ⟨_, BindsTo.of_eq rfl, .cons h1 (.cons h2 .nil)⟩) | (obtain ⟨v1, v2, v3, e, h1, h2, h3⟩ := vreps3 h; subst e; exact ⟨_, BindsTo.of_eq rfl, .cons h1 (.cons h2 (.cons h3 .nil))⟩) | (obtain ⟨v1, v2, v3, v4, e, h1, h2, h3, h4⟩ := vreps4 h; subst e; exact ⟨_, BindsTo.of_eq rfl, .cons h1 (.cons h2 (.cons h3 (.cons h4 .nil)))⟩) | (obtain ⟨v1, v2, v3, v4, v5, e, h1, h2, h3, h4, h5⟩ := vreps5 h; subst e; exact ⟨_, BindsTo.of_eq rfl, .cons h1 (.cons h2 (.cons h3 (.cons h4 (.cons h5 .nil))))⟩)))); ((focus ((repeat (with_reducible first | exact L0.nil | apply L0.oth | apply L0.bind)); done))); ((focus ((repeat (with_reducible first | exact Nm.nil | apply Nm.cons)); done))); decide +kernel; decide +kernel; rfl; rfl; rfl; rfl))
  refine hs_setattr1 ?_ (by intro; rfl)
  refine he_callp (by walk_at "pv") (by walk_at "pa") ?_ ?_ ?_ ?_
  rotate_left; (walk_at "keeps"); rfl; rfl
  refine HCc.hc (c_firsts g fun a ha => ?_)
  have na : a ≠ i := ne_fresh ha hi
  have na' : a ≠ j := ne_fresh ha hj
  refine ⟨i, 245, j, _, _, pv_loc (by walk_at "mem"), by walk_at "inst", s_245_starts _, aput_new (by kernel_rfl) (Nat.le_of_ble_eq_true rfl), ?_⟩
  refine hs_setattr1 ?_ (by intro; rfl)
  refine he_callp (by walk_at "pv") (by walk_at "pa") ?_ ?_ ?_ ?_
  rotate_left; (walk_at "keeps"); rfl; rfl
  refine HCc.hc (c_statics g fun b hb => ?_)
  have nb : b ≠ i := ne_fresh hb (by walk_at "hp")
  have nb' : b ≠ j := ne_fresh hb (by walk_at "hp")
  have nb'' : b ≠ a := ne_fresh hb (by walk_at "hp")
  refine ⟨i, 245, j, _, _, pv_loc (by walk_at "mem"), by walk_at "inst", s_245_statics _, aput_new (by kernel_rfl) (Nat.le_of_ble_eq_true rfl), ?_⟩
  (first | ((with_reducible refine' hs_setattrp ?z214_1 ?z214_2 ?z214_3 ?z214_4 ?z214_5 ?z214_6 ?z214_7); (case z214_1 => walk_at "pv"); (case z214_2 => walk_at "pv"); (case z214_3 => walk_at "inst"); (case z214_4 => (with_reducible exact SetI_ok _ (by constructor))); (case z214_5 => (first | (apply APut.old; walk_at "put") | (apply aput_new; kernel_rfl; exact Nat.le_of_ble_eq_true rfl))); (case z214_7 => (intro; rfl))) | fail "no")
  (first | ((with_reducible refine' hs_setattrp ?z215_1 ?z215_2 ?z215_3 ?z215_4 ?z215_5 ?z215_6 ?z215_7); (case z215_1 => walk_at "pv"); (case z215_2 => walk_at "pv"); (case z215_3 => walk_at "inst"); (case z215_4 => (with_reducible exact SetI_ok _ (by constructor))); (case z215_5 => (first | (apply APut.old; walk_at "put") | (apply aput_new; kernel_rfl; exact Nat.le_of_ble_eq_true rfl))); (case z215_7 => (intro; rfl))) | fail "no")
  (first | ((with_reducible refine' hs_setattrp ?z216_1 ?z216_2 ?z216_3 ?z216_4 ?z216_5 ?z216_6 ?z216_7); (case z216_1 => walk_at "pv"); (case z216_2 => walk_at "pv"); (case z216_3 => walk_at "inst"); (case z216_4 => (with_reducible exact SetI_ok _ (by constructor))); (case z216_5 => (first | (apply APut.old; walk_at "put") | (apply aput_new; kernel_rfl; exact Nat.le_of_ble_eq_true rfl))); (case z216_7 => (intro; rfl))) | fail "no")
  (first | ((with_reducible refine' hs_setattrp ?z217_1 ?z217_2 ?z217_3 ?z217_4 ?z217_5 ?z217_6 ?z217_7); (case z217_1 => walk_at "pv"); (case z217_2 => walk_at "pv"); (case z217_3 => walk_at "inst"); (case z217_4 => (with_reducible exact SetI_ok _ (by constructor))); (case z217_5 => (first | (apply APut.old; walk_at "put") | (apply aput_new; kernel_rfl; exact Nat.le_of_ble_eq_true rfl))); (case z217_7 => (intro; rfl))) | fail "no")
  (first | ((with_reducible refine' hs_setattrp ?z218_1 ?z218_2 ?z218_3 ?z218_4 ?z218_5 ?z218_6 ?z218_7); (case z218_1 => walk_at "pv"); (case z218_2 => walk_at "pv"); (case z218_3 => walk_at "inst"); (case z218_4 => (with_reducible exact SetI_ok _ (by constructor))); (case z218_5 => (first | (apply APut.old; walk_at "put") | (apply aput_new; kernel_rfl; exact Nat.le_of_ble_eq_true rfl))); (case z218_7 => (intro; rfl))) | fail "no")
  (first | ((with_reducible refine' hs_setattrp ?z219_1 ?z219_2 ?z219_3 ?z219_4 ?z219_5 ?z219_6 ?z219_7); (case z219_1 => walk_at "pv"); (case z219_2 => walk_at "pv"); (case z219_3 => walk_at "inst"); (case z219_4 => (with_reducible exact SetI_ok _ (by constructor))); (case z219_5 => (first | (apply APut.old; walk_at "put") | (apply aput_new; kernel_rfl; exact Nat.le_of_ble_eq_true rfl))); (case z219_7 => (intro; rfl))) | fail "no")
  refine hs_setattr1 ?_ (by intro; rfl)
  refine he_list_int (ns := []) (by walk_at "pai") (Nat.zero_le _) ?_
  intro f hf
  have nf : f ≠ i := ne_fresh hf (by walk_at "hp")
  have nf' : f ≠ j := ne_fresh hf (by walk_at "hp")
  have nf'' : f ≠ a := ne_fresh hf (by walk_at "hp")
  have nf3 : f ≠ b := ne_fresh hf (by walk_at "hp")
  refine ⟨i, 245, j, _, _, pv_loc (by walk_at "mem"), by walk_at "inst", s_245_found _, aput_new (by kernel_rfl) (Nat.le_of_ble_eq_true rfl), ?_⟩
  refine hs_nil ?_
  refine p _ ⟨i, j, a, b, f⟩ rfl ⟨?_, ?_, ?_, ?_, ?_, nb''.symm, nf''.symm, nf3.symm⟩ ?_ ?_ ?_ rfl
  · walk_at "hp"
  · exact upd_same
  · show (upd _ _ _) a = some (.list (firsts.map MV.int)); walk_at "hp"
  · walk_at "hp"
  · show (upd _ _ _) f = some (.list (([] : List Int).map MV.int)); walk_at "hp"
  · intro k o hk e
    have k1 : k ≠ j := fun z => hk (by rw [z]; exact .head _)
    have k2 : k ≠ a := fun z => by rw [z, ha] at e; cases e
    have k3 : k ≠ b := fun z => by rw [z] at e; rw [upd_other nb', upd_other nb''] at hb; rw [hb] at e; cases e
    have k4 : k ≠ f := fun z => by
      rw [z] at e
      repeat rw [upd_other (by assumption)] at hf
      rw [hf] at e; cases e
    walk_at "hp"
  · intro o e; rw [ha] at e; cases e
  · intro o e
    repeat rw [upd_other (by assumption)] at hf
    dsimp only at e
    rw [hf] at e; cases e
end
set_option hygiene false in
local macro_rules | `(tactic| walk_at "pc") => `(tactic| first | exact pc_len_bytes (by lia) | exact pc_len_list (by walk_at "hp") | exact pc_int | exact pc_isBytes)

section
theorem pv_slice {G F ρ σ o lo hi sp pos l u} {b : List UInt8} (h : PV G F ρ σ o (.bytes b)) (hl : PPart G F ρ σ lo l) (hu : PPart G F ρ σ hi u) (hz : b.length ≤ 1000000) : PV G F ρ σ (.Subscript o (.Slice lo hi none sp) pos) (.bytes (cut b l u)) :=
  fun Q X q => he_slice (h _ X ⟨l, u, hl, hu, .inl ⟨b, rfl, hz, q⟩⟩)
theorem cut_mid {α : Type} (b : List α) {i j : Nat} (h : i ≤ j) (h2 : j ≤ b.length) : cut b (some (i : Int)) (some (j : Int)) = (b.drop i).take (j - i) := by
  unfold cut
  simp only [Option.elim, clipAt_nat]
  simp only [Nat.min_eq_left (show i ≤ b.length by lia), Nat.min_eq_left h2]
theorem cut_from {α : Type} (b : List α) {i : Nat} (h : i ≤ b.length) : cut b (some (i : Int)) none = b.drop i := by
  unfold cut
  simp only [Option.elim, clipAt_nat]
  rw [Nat.min_eq_left h]
  exact List.take_of_length_le (by rw [List.length_drop]; exact Nat.le_refl _)

noncomputable def FPost (σ : MH) (l : RdL) (res : RRes) (Q : MV → MH → Prop) (X : MX → MH → Prop) : Prop := match res with
  | .ok v' => ∀ σ' f', σ f' = none → Rd σ' { l with f := f' } v' → Kp [l.j, l.a] σ σ' → Q (.loc f') σ'
  | .error n => ∀ σ' m, Kp [l.j, l.a] σ σ' → X ⟨45, .tup [.int n, .str m]⟩ σ'

theorem kp_foot {σ σ0 σ1 : MH} {l : RdL} {f : Nat} (hf : σ f = none) (a : Kp [l.j, l.a] σ σ0) (b : Kp [l.j, l.a, f] σ0 σ1) : Kp [l.j, l.a] σ σ1 := fun i o hi e => by
  refine b i o (fun z => ?_) (a i o hi e)
  rcases List.mem_cons.mp z with z | z
  · exact hi (z ▸ .head _)
  · rcases List.mem_cons.mp z with z | z
    · exact hi (z ▸ .tail _ (.head _))
    · rw [List.mem_singleton.mp z] at e; rw [hf] at e; cases e
inductive FeedInv (σ : MH) (l : RdL) (f : Nat) (B : List UInt8) (v0 : RdV) (n : Nat) (ρ' : Loc) (σ' : MH) : Prop
  | mk (at' : Nat) (lv cv : Option MV) (v' : RdV) (fu : Nat) (h1 : ρ' = ([("self", some (.loc l.r)), ("octets", some (.bytes B)), ("at", some (.int ((at' : Nat) : Int))), ("length", lv), ("command", cv)] : Loc)) (h2 : at' ≤ B.length) (h3 : n = B.length - at')
    (h4 : Rd σ' { l with f := f } v') (h5 : RdOk v') (h6 : v'.found.length ≤ at') (h7 : Kp [l.j, l.a] σ σ') (h8 : B.length - at' ≤ fu) (h9 : v0.run B.length B = v'.run fu (B.drop at')) : FeedInv σ l f B v0 n ρ' σ'
theorem c_feed (g : Gp) {n : Nat} {σ l v} {b : List UInt8} {Q : MV → MH → Prop} {X : MX → MH → Prop} (h : Rd σ l v) (hv : RdOk v) (hz : v.rest.length + b.length ≤ 60000) (p : FPost σ l (v.feed b) Q X) : HC (Gd g) (n + 8) (.ref 179) [.loc l.r, .bytes b] σ Q X := by
  have h' := h
  obtain ⟨n1, n2, n3, n4, n5, n6, n7⟩ := h.ne
  obtain ⟨hi, hj, ha, hb, hf, ab, af, bf⟩ := h
  refine HCc.hc ?_
  apply fn_at 101 [("self", .loc l.r), ("octets", .bytes b)] ["at", "length", "command"] rfl; kernel_rfl; ((kernel_rfl; (((intro W s av XK h; first | (have e := vreps0 h; subst e; exact ⟨_, BindsTo.of_eq rfl, .nil⟩) | (obtain ⟨v1, e, h1⟩ := vreps1 h; subst e; exact ⟨_, BindsTo.of_eq rfl, .cons h1 .nil⟩) | (obtain ⟨v1, v2, e, h1, h2⟩ := vreps2 h; subst e; exact ⟨_, BindsTo.of_eq rfl, .cons h1 (.cons h2 .nil)⟩) | (obtain ⟨v1, v2, v3, e, h1, h2, h3⟩ := vreps3 h; subst e; exact ⟨_, BindsTo.of_eq rfl, .cons h1 (.cons h2 (.cons h3 .nil))⟩) | (obtain ⟨v1, v2, v3, v4, e, h1, h2, h3, h4⟩ := vreps4 h; subst e; exact ⟨_, BindsTo.of_eq rfl, .cons h1 (.cons h2 (.cons h3 (.cons h4 .nil)))⟩) | (obtain ⟨v1, v2, v3, v4, v5, e, h1, h2, h3, h4, h5⟩ := vreps5 h; subst e; exact ⟨_, BindsTo.of_eq rfl, .cons h1 (.cons h2 (.cons h3 (.cons h4 (.cons h5 .nil))))⟩)))); ((focus ((repeat (with_reducible first | exact L0.nil | apply L0.oth | apply L0.bind)); done))); ((focus ((repeat (with_reducible first | exact Nm.nil | apply Nm.cons)); done))); decide +kernel; decide +kernel; rfl; rfl; rfl; rfl))
  (first | ((with_reducible refine' hs_assignp ?z236_1 ?z236_2 ?z236_3 ?z236_4); (case z236_1 => walk_at "pv"); (case z236_2 => walk_at "lput"); (case z236_4 => (intro; rfl))) | fail "no")
  refine hs_setattr1 ?_ (by intro; rfl)
  refine he_list_int (ns := []) (by walk_at "pai") (Nat.zero_le _) ?_
  intro f hfn
  have m1 : f ≠ l.r := ne_fresh hfn hi
  have m2 : f ≠ l.j := ne_fresh hfn hj
  have m3 : f ≠ l.a := ne_fresh hfn ha
  have m4 : f ≠ l.b := ne_fresh hfn hb
  refine ⟨l.r, 245, l.j, _, _, pv_loc (by walk_at "mem"), by walk_at "inst", s_245_found _, .old (by walk_at "put"), ?_⟩
  (first | ((with_reducible refine' hs_assignp ?z237_1 ?z237_2 ?z237_3 ?z237_4); (case z237_1 => walk_at "pv"); (case z237_2 => walk_at "lput"); (case z237_4 => (intro; rfl))) | fail "no")
  generalize hB : v.rest ++ b = B at *
  have hBl : B.length ≤ 60000 := by rw [← hB, List.length_append]; exact hz
  generalize hv0 : ({ v with found := [] } : RdV) = v0
  have hfd : v.feed b = match v0.run B.length B with | .error e => .error e | .ok (v', r) => .ok { v' with rest := r } := by
    rw [← hv0, ← hB]; rfl
  rw [hfd] at p
  clear hfd
  have hk0 : Kp [l.j, l.a] σ (upd (upd σ f (.list (([] : List Int).map MV.int))) l.j (.ns [("starts", .loc l.a), ("statics", .loc l.b), ("active", .int v.active), ("is_wide", .bool v.wide), ("rest", .bytes v.rest), ("gone", .int v.gone), ("high", mvo v.high), ("high_at", .int v.highAt), ("found", .loc f)])) := (Kp.new hfn).trans (.upd (.head _))
  refine hs_while (FeedInv σ l f B v0) B.length
    ⟨0, none, none, v0, B.length, rfl, Nat.zero_le _, rfl, ?_, ?_, ?_, hk0, Nat.sub_le _ _, rfl⟩ ?_ rfl
  · subst hv0
    refine ⟨?_, ?_, ?_, ?_, ?_, ab, m3.symm, m4.symm⟩ <;> ((try dsimp only); walk_at "hp")
  · subst hv0; exact ⟨hv.len, hv.a0, hv.a8, hv.hi⟩
  · subst hv0; exact Nat.le_refl _
  · rintro n' ρ' σ' ⟨at', lv, cv, v', fu, rfl, hat, rfl, hr, hok, hfl, hk, hfu, hrun⟩
    refine hb_pb (by walk_at "pb") ?_
    refine ⟨fun hc => ?_, fun hc => ?_⟩
    · have hlt : at' < B.length := by simpa using hc
      obtain ⟨w1, w2, w3, w4, w5, w6, w7⟩ := hr.ne
      have hr' := hr
      obtain ⟨zi, zj, za, zb, zf, -, zaf, zbf⟩ := hr'
      dsimp only at zi zj za zb zf zaf zbf w1 w2 w3 w4 w5 w6 w7
      obtain ⟨fu', rfl⟩ := adv_fuel hfu hlt
      have hd : B.drop at' = B.getD at' 0 :: B.drop (at' + 1) := by
        rw [List.drop_eq_getElem_cons hlt]; simp [List.getD, List.getElem?_eq_getElem hlt]
      refine hs_assignp (v := .int (v'.len (u8 B ((at' : Nat) : Int).toNat))) ?_ (by walk_at "lput") ?_ (by intro; rfl)
      · refine pv_ifexp (c := v'.wide) (by walk_at "pb") (fun hw => ?_) (fun hw => ?_)
        · rw [show v'.len (u8 B ((at' : Nat) : Int).toNat) = wideLen (u8 B ((at' : Nat) : Int).toNat) from if_pos hw]
          walk_at "pv"
        · rw [show v'.len (u8 B ((at' : Nat) : Int).toNat) = narrowLen (u8 B ((at' : Nat) : Int).toNat) from if_neg (by rw [hw]; decide)]
          walk_at "pv"
      have hLp := len_pos v' (u8 B ((at' : Nat) : Int).toNat)
      have hL : v'.len (u8 B ((at' : Nat) : Int).toNat) = v'.len ((B.getD at' 0).toNat : Int) := rfl
      generalize v'.len (u8 B ((at' : Nat) : Int).toNat) = L at hL hLp ⊢
      (first | ((with_reducible refine' hs_ifp ?z238_1 ?z238_2 ?z238_3); (case z238_1 => walk_at "pb")) | fail "no")
      · intro hb1
        have hb1' : (B.length : Int) < at' + L := by simpa using hb1
        refine hs_brk ?_
        have hrun2 : v0.run B.length B = .ok (v', B.drop at') := by
          rw [hrun, hd, run_step, if_pos]
          rw [← hL, List.length_cons, List.length_drop]; exact adv_short hLp hlt hb1'
        rw [hrun2] at p
        dsimp only at p
        refine hs_setattrp (v := .bytes (cut B (some ((at' : Nat) : Int)) none)) (pv_slice (by walk_at "pv") (.some (by walk_at "pv")) .none (Nat.le_trans hBl (by decide))) (by walk_at "pv") (by walk_at "inst") (s_245_rest _) (.old (by walk_at "put")) ?_ (by intro; rfl)
        rw [cut_from B hat]
        (first | ((with_reducible refine' hs_retp ?z239_1 ?z239_2); (case z239_1 => walk_at "pv")) | fail "no")
        refine p _ f hfn ?_ (hk.trans (.upd (.head _)))
        refine ⟨?_, ?_, ?_, ?_, ?_, ab, m3.symm, m4.symm⟩ <;> ((try dsimp only); walk_at "hp")
      · intro hb1
        have hb1' : (at' : Int) + L ≤ B.length := by simpa using hb1
        (try (with_reducible refine' hs_endN ?_))
        refine hs_assignp (v := .bytes (cut B (some ((at' : Nat) : Int)) (some (((at' : Nat) : Int) + L)))) (pv_slice (by walk_at "pv") (.some (by walk_at "pv")) (.some (by walk_at "pv")) (Nat.le_trans hBl (by decide))) (by walk_at "lput") ?_ (by intro; rfl)
        rw [← adv_int (a := at') hLp, cut_mid B (Nat.le_add_right _ _) (adv_le hLp hb1'), Nat.add_sub_cancel_left]
        have hc0 : u8 ((B.drop at').take L.toNat) 0 = ((B.getD at' 0).toNat : Int) := by
          obtain ⟨k, hk'⟩ := adv_succ hLp
          rw [hd, hk', List.take_succ_cons]; rfl
        have hcl : ((B.drop at').take L.toNat).length = (v'.len (u8 ((B.drop at').take L.toNat) 0)).toNat := by
          rw [hc0, ← hL, List.length_take, List.length_drop]; exact adv_min hLp hb1'
        have hstep : v0.run B.length B = match v'.take ((B.drop at').take L.toNat) with | .error e => .error e | .ok v2 => ({ v2 with gone := v2.gone + L.toNat } : RdV).run fu' (B.drop (at' + L.toNat)) := by
          rw [hrun]
          conv => lhs; rw [hd]
          rw [run_step, if_neg, ← hL, ← hd, List.drop_drop]
          all_goals first | rfl | (rw [← hL, List.length_cons, List.length_drop]; exact adv_not hLp hlt hb1')
        have hrunE : ∀ e, v'.take ((B.drop at').take L.toNat) = .error e → v0.run B.length B = .error e := fun e he => by rw [hstep, he]
        have hrunO : ∀ v2, v'.take ((B.drop at').take L.toNat) = .ok v2 → v0.run B.length B = ({ v2 with gone := v2.gone + L.toNat } : RdV).run fu' (B.drop (at' + L.toNat)) := fun v2 he => by rw [hstep, he]
        suffices tail : ∀ v2 σ2, v'.take ((B.drop at').take L.toNat) = .ok v2 → Rd σ2 { l with f := f } v2 → Kp [l.j, l.a, f] σ' σ2 →
            HS (Gd g) _ ([("self", some (.loc l.r)), ("octets", some (.bytes B)), ("at", some (.int ((at' : Nat) : Int))), ("length", some (.int L)), ("command", some (.bytes ((B.drop at').take L.toNat)))] : Loc) σ2 _ _ _ by
          (first | ((with_reducible refine' hs_ifp ?z241_1 ?z241_2 ?z241_3); (case z241_1 => walk_at "pb")) | fail "no")
          · intro hw
            have hT : v'.take ((B.drop at').take L.toNat) = v'.takeWide ((B.drop at').take L.toNat) := if_pos hw
            have hT2 : v'.len (u8 ((B.drop at').take L.toNat) 0) = wideLen (u8 ((B.drop at').take L.toNat) 0) := if_pos hw
            (first | ((with_reducible refine' hs_methp ?z242_1 ?z242_2 ?z242_3 ?z242_4 ?z242_5 ?z242_6 ?z242_7 ?z242_8 ?z242_9 ?z242_10 ?z242_11); (case z242_1 => walk_at "pv"); (case z242_2 => walk_at "inst"); (case z242_3 => walk_at "meth"); (case z242_4 => kernel_rfl); (case z242_5 => walk_at "pa"); (case z242_7 => exact ⟨_, fun _ => rfl⟩); (case z242_8 => rfl); (case z242_9 => rfl); (case z242_10 => exact interactive_no); (case z242_11 => (intro; rfl))) | fail "no")
            apply c_take_wide g hr hok (by lia) (by rw [← hT2]; exact hcl)
            rw [← hT]
            cases hres : v'.take ((B.drop at').take L.toNat) with
            | error e =>
              rw [hrunE e hres] at p
              exact fun σ2 m k2 => p σ2 m (kp_foot hfn hk k2)
            | ok v2 =>
              intro σ2 hr2 k2
              refine ⟨rfl, ?_⟩
              (((repeat (with_reducible first | refine' hs_endN ?_ | refine' hs_nil ?_)); first | assumption | skip))
              exact tail v2 σ2 hres hr2 k2
          · intro hw
            have hT : v'.take ((B.drop at').take L.toNat) = v'.takeNarrow ((B.drop at').take L.toNat) := if_neg (by rw [hw]; decide)
            have hT2 : v'.len (u8 ((B.drop at').take L.toNat) 0) = narrowLen (u8 ((B.drop at').take L.toNat) 0) := if_neg (by rw [hw]; decide)
            (first | ((with_reducible refine' hs_methp ?z244_1 ?z244_2 ?z244_3 ?z244_4 ?z244_5 ?z244_6 ?z244_7 ?z244_8 ?z244_9 ?z244_10 ?z244_11); (case z244_1 => walk_at "pv"); (case z244_2 => walk_at "inst"); (case z244_3 => walk_at "meth"); (case z244_4 => kernel_rfl); (case z244_5 => walk_at "pa"); (case z244_7 => exact ⟨_, fun _ => rfl⟩); (case z244_8 => rfl); (case z244_9 => rfl); (case z244_10 => exact interactive_no); (case z244_11 => (intro; rfl))) | fail "no")
            apply c_take_narrow g hr hok (by lia) (by rw [← hT2]; exact hcl)
            rw [← hT]
            cases hres : v'.take ((B.drop at').take L.toNat) with
            | error e =>
              rw [hrunE e hres] at p
              exact fun σ2 m k2 => p σ2 m (kp_foot hfn hk k2)
            | ok v2 =>
              intro σ2 hr2 k2
              refine ⟨rfl, ?_⟩
              (((repeat (with_reducible first | refine' hs_endN ?_ | refine' hs_nil ?_)); first | assumption | skip))
              exact tail v2 σ2 hres hr2 k2
        intro v2 σ2 hres hr2 k2
        have hok2 := ok_take hok hcl hres
        clear hrunE hstep p
        obtain ⟨y1, y2, y3, y4, y5, y6, y7⟩ := hr2.ne
        obtain ⟨xi, xj, xa, xb, xf, -, xaf, xbf⟩ := hr2
        (first | ((with_reducible refine' hs_assignp ?z246_1 ?z246_2 ?z246_3 ?z246_4); (case z246_1 => walk_at "pv"); (case z246_2 => walk_at "lput"); (case z246_4 => (intro; rfl))) | fail "no")
        (first | ((with_reducible refine' hs_setattrp ?z247_1 ?z247_2 ?z247_3 ?z247_4 ?z247_5 ?z247_6 ?z247_7); (case z247_1 => walk_at "pv"); (case z247_2 => walk_at "pv"); (case z247_3 => walk_at "inst"); (case z247_4 => (with_reducible exact SetI_ok _ (by constructor))); (case z247_5 => (first | (apply APut.old; walk_at "put") | (apply aput_new; kernel_rfl; exact Nat.le_of_ble_eq_true rfl))); (case z247_7 => (intro; rfl))) | fail "no")
        refine hs_nil ?_
        refine ⟨B.length - (at' + L.toNat), adv_lt hLp hlt, at' + L.toNat, some (.int L), some (.bytes ((B.drop at').take L.toNat)), { v2 with gone := v2.gone + L.toNat }, fu', ?_, adv_le hLp hb1', rfl, ?_, ⟨hok2.1.len, hok2.1.a0, hok2.1.a8, hok2.1.hi⟩, ?_, (kp_foot hfn hk k2).trans (.upd (.head _)), adv_fu hLp hfu, hrunO v2 hres⟩
        · rw [adv_int hLp]
        · refine ⟨?_, ?_, ?_, ?_, ?_, ab, m3.symm, m4.symm⟩ <;> (dsimp only at *)
          · walk_at "hp"
          · rw [adv_nat hLp]; walk_at "hp"
          · walk_at "hp"
          · walk_at "hp"
          · walk_at "hp"
        · show v2.found.length ≤ at' + L.toNat
          exact Nat.le_trans hok2.2 (Nat.add_le_add hfl (adv_pos hLp))
    · have hat2 : at' = B.length := by
        have : ¬ ((at' : Int) < B.length) := by simpa using hc
        exact Nat.le_antisymm hat (Nat.le_of_not_lt fun z => this (Int.ofNat_lt.mpr z))
      obtain ⟨w1, w2, w3, w4, w5, w6, w7⟩ := hr.ne
      obtain ⟨zi, zj, za, zb, zf, -, zaf, zbf⟩ := hr
      dsimp only at zi zj za zb zf zaf zbf w1 w2 w3 w4 w5 w6 w7
      have hrun2 : v0.run B.length B = .ok (v', B.drop at') := by
        rw [hrun, hat2, List.drop_length]
        cases fu <;> rfl
      rw [hrun2] at p
      dsimp only at p
      refine hs_setattrp (v := .bytes (cut B (some ((at' : Nat) : Int)) none)) (pv_slice (by walk_at "pv") (.some (by walk_at "pv")) .none (Nat.le_trans hBl (by decide))) (by walk_at "pv") (by walk_at "inst") (s_245_rest _) (.old (by walk_at "put")) ?_ (by intro; rfl)
      rw [cut_from B hat]
      (first | ((with_reducible refine' hs_retp ?z248_1 ?z248_2); (case z248_1 => walk_at "pv")) | fail "no")
      refine p _ f hfn ?_ (hk.trans (.upd (.head _)))
      refine ⟨?_, ?_, ?_, ?_, ?_, ab, m3.symm, m4.symm⟩ <;> ((try dsimp only); walk_at "hp")
end

section
theorem fresh_back {σ σ' : MH} {a : Nat} (k : Kp [] σ σ') (h : ∀ o, σ' a ≠ some o) : σ a = none := by
  cases q : σ a with
  | none => rfl
  | some o => exact absurd (k _ _ (fun z => absurd z List.not_mem_nil) q) (h o)
theorem fresh_back' {σ σ' : MH} {a : Nat} (k : Kp [] σ σ') (h : σ' a = none) : σ a = none := fresh_back k fun o e => by rw [h] at e; cases e
theorem kp_new {S : List Nat} {σ σ' σ'' : MH} (k : Kp [] σ σ') (k2 : Kp S σ' σ'') (hS : ∀ a ∈ S, σ a = none) : Kp [] σ σ'' := fun i o _ e => by
  refine k2 i o (fun z => ?_) (k i o (fun z => absurd z List.not_mem_nil) e)
  rw [hS i z] at e; cases e
structure RdF (σ : MH) (l : RdL) : Prop where
  r : σ l.r = none
  j : σ l.j = none
  a : σ l.a = none
  f : σ l.f = none
theorem c_reader_new (g : Gp) {n : Nat} {σ} {Q : MV → MH → Prop} {X : MX → MH → Prop} (p : ∀ σ' l, Rd σ' l RdV.new → RdF σ l → Kp [] σ σ' → Q (.loc l.r) σ') : HC (Gd g) (n + 5) (.ref 245) [] σ Q X := by
  refine hc_new (n := n + 2) (mk_245 g) (in_245 g) (if_245 g) fun i j hij hi hj => ?_
  have k0 : Kp [] σ (upd (upd σ j (.ns [])) i (.inst 245 j)) := (Kp.new hj).trans (.new ((upd_other hij).trans hi))
  refine c_reader_init g hij upd_same ((upd_other (Ne.symm hij)).trans upd_same) fun σ' l e1 hr k ha hf e2 => ⟨rfl, ?_⟩
  subst e1 e2
  exact p σ' l hr ⟨hi, hj, fresh_back k0 ha, fresh_back k0 hf⟩ (kp_new k0 k fun a z => by rw [List.mem_singleton.mp z]; exact hj)

noncomputable def DPost (σ : MH) (res : Except Int (List Int)) (Q : MV → MH → Prop) (X : MX → MH → Prop) : Prop := match res with
  | .ok cs => ∀ σ' f, σ f = none → σ' f = some (.list (cs.map MV.int)) → Kp [] σ σ' → Q (.loc f) σ'
  | .error n => ∀ σ' m, Kp [] σ σ' → X ⟨45, .tup [.int n, .str m]⟩ σ'
theorem c_decode (g : Gp) {n : Nat} {σ} {b : List UInt8} {Q : MV → MH → Prop} {X : MX → MH → Prop} (hz : b.length ≤ 50000) (p : DPost σ (decode b) Q X) : HC (Gd g) (n + 9) (.ref 256) [.bytes b] σ Q X := by
  refine HCc.hc ?_
  apply fn_at 156 [("octets", .bytes b)] ["reader", "found"] rfl; kernel_rfl; ((kernel_rfl; (((intro W s av XK h; first | (have e := vreps0 h; subst e; exact ⟨_, BindsTo.of_eq rfl, .nil⟩) | (obtain ⟨v1, e, h1⟩ := vreps1 h; subst e; exact ⟨_, BindsTo.of_eq rfl, .cons h1 .nil⟩) | (obtain ⟨v1, v2, e, h1, h2⟩ := vreps2 h; subst e; exact ⟨_, BindsTo.of_eq rfl, .cons h1 (.cons h2 .nil)⟩) | (obtain ⟨v1, v2, v3, e, h1, h2, h3⟩ := vreps3 h; subst e; exact ⟨_, BindsTo.of_eq rfl, .cons h1 (.cons h2 (.cons h3 .nil))⟩) | (obtain ⟨v1, v2, v3, v4, e, h1, h2, h3, h4⟩ := vreps4 h; subst e; exact ⟨_, BindsTo.of_eq rfl, .cons h1 (.cons h2 (.cons h3 (.cons h4 .nil)))⟩) | (obtain ⟨v1, v2, v3, v4, v5, e, h1, h2, h3, h4, h5⟩ := vreps5 h; subst e; exact ⟨_, BindsTo.of_eq rfl, .cons h1 (.cons h2 (.cons h3 (.cons h4 (.cons h5 .nil))))⟩)))); ((focus ((repeat (with_reducible first | exact L0.nil | apply L0.oth | apply L0.bind)); done))); ((focus ((repeat (with_reducible first | exact Nm.nil | apply Nm.cons)); done))); decide +kernel; decide +kernel; rfl; rfl; rfl; rfl))
  (first | ((with_reducible refine' hs_assign_call ?z254_1 ?z254_2 ?z254_3 ?z254_4 ?z254_5 ?z254_6 ?z254_7); (case z254_1 => walk_at "pv"); (case z254_2 => walk_at "pa"); (case z254_4 => walk_at "keeps"); (case z254_5 => rfl); (case z254_6 => rfl); (case z254_7 => (intro; rfl))) | fail "no")
  refine HC.mono (c_reader_new g (n := n) fun σ1 l hr hF k1 => ⟨_, by walk_at "lput", ?_⟩) (show n + 5 ≤ n + 8 from nle rfl)
  have hr' := hr
  obtain ⟨zi, zj, za, zb, zf, zab, zaf, zbf⟩ := hr'
  (first | ((with_reducible refine' hs_assign_meth ?z255_1 ?z255_2 ?z255_3 ?z255_4 ?z255_5 ?z255_6 ?z255_7 ?z255_8 ?z255_9 ?z255_10); (case z255_1 => walk_at "pv"); (case z255_2 => walk_at "inst"); (case z255_3 => walk_at "meth"); (case z255_4 => kernel_rfl); (case z255_5 => walk_at "pa"); (case z255_7 => exact ⟨_, fun _ => rfl⟩); (case z255_8 => rfl); (case z255_9 => rfl); (case z255_10 => (intro; rfl))) | fail "no")
  apply c_feed g hr new_ok (by show 0 + b.length ≤ 60000; lia)
  unfold decode at p
  have kk : ∀ {σ'}, Kp [l.j, l.a] σ1 σ' → Kp [] σ σ' := fun k => kp_new k1 k fun a z => by
    rcases List.mem_cons.mp z with rfl | z
    · exact hF.j
    · rw [List.mem_singleton.mp z]; exact hF.a
  cases hfd : RdV.new.feed b with
  | error e => rw [hfd] at p; exact fun σ2 m k2 => p σ2 m (kk k2)
  | ok v =>
    rw [hfd] at p
    intro σ2 f hfn hr2 k2
    refine ⟨_, by walk_at "lput", ?_⟩
    have hr2' := hr2
    obtain ⟨yi, yj, ya, yb, yf, yab, yaf, ybf⟩ := hr2'
    dsimp only at yi yj ya yb yf yab yaf ybf p
    (first | ((with_reducible refine' hs_methp ?z256_1 ?z256_2 ?z256_3 ?z256_4 ?z256_5 ?z256_6 ?z256_7 ?z256_8 ?z256_9 ?z256_10 ?z256_11); (case z256_1 => walk_at "pv"); (case z256_2 => walk_at "inst"); (case z256_3 => walk_at "meth"); (case z256_4 => kernel_rfl); (case z256_5 => walk_at "pa"); (case z256_7 => exact ⟨_, fun _ => rfl⟩); (case z256_8 => rfl); (case z256_9 => rfl); (case z256_10 => exact interactive_no); (case z256_11 => (intro; rfl))) | fail "no")
    refine HC.mono (c_finish g (l := { l with f := f }) (n := n) hr2 ?_) (show n + 4 ≤ n + 8 from nle rfl)
    cases hfi : v.finish with
    | some e => rw [hfi] at p; exact fun m => p σ2 m (kk k2)
    | none =>
      rw [hfi] at p
      refine ⟨rfl, ?_⟩
      (first | ((with_reducible refine' hs_retp ?z257_1 ?z257_2); (case z257_1 => walk_at "pv")) | fail "no")
      exact p σ2 f (fresh_back' k1 hfn) yf (kk k2)
end

section
structure LwL where
  d : Nat
  t : Nat
  s : Nat
structure Lw (σ : MH) (l : LwL) (v : LwV) : Prop where
  d : σ l.d = some (.dict [("text", .loc l.t), ("half", mvo v.half), ("starts", .loc l.s), ("taken", .int v.taken), ("wide", .bool v.wide)])
  t : σ l.t = some (.list (v.text.map MV.int))
  s : σ l.s = some (.list (v.starts.map MV.int))
  ts : l.t ≠ l.s
structure LwN (l : LwL) : Prop where
  dt : l.d ≠ l.t
  ds : l.d ≠ l.s
theorem Lw.ne {σ l v} (h : Lw σ l v) : LwN l := ⟨ne_of h.d h.t (by intro z; cases z), ne_of h.d h.s (by intro z; cases z)⟩
noncomputable def lfoot (l : LwL) : List Nat := [l.d, l.t, l.s]
theorem ld {l : LwL} : l.d ∈ lfoot l := .head _
theorem lt' {l : LwL} : l.t ∈ lfoot l := .tail _ (.head _)
theorem ls {l : LwL} : l.s ∈ lfoot l := .tail _ (.tail _ (.head _))
theorem Lw.keep {σ σ' l v} (h : Lw σ l v) (k : Kp [] σ σ') : Lw σ' l v := ⟨k _ _ (fun z => absurd z List.not_mem_nil) h.d, k _ _ (fun z => absurd z List.not_mem_nil) h.t, k _ _ (fun z => absurd z List.not_mem_nil) h.s, h.ts⟩
noncomputable def TPost (σ : MH) (l : LwL) (r : Bool × LwV) (Q : MV → MH → Prop) : Prop := ∀ σ', Lw σ' l r.2 → Kp (lfoot l) σ σ' → Q (.bool r.1) σ'

theorem c_law_told (g : Gp) {n : Nat} {σ l v} {c : Int} {u : Bool} {Q : MV → MH → Prop} {X : MX → MH → Prop} (h : Lw σ l v) (hz : v.text.length < 65000) (hh : ∀ x, v.half = some x → 55296 ≤ x ∧ x ≤ 56319) (p : TPost σ l (v.told c u) Q) : HCc (Gd g) (n + 1) (.ref 527) [.loc l.d, .int c, .bool u] σ Q X := by
  obtain ⟨n1, n2⟩ := h.ne
  have h' := h
  obtain ⟨hd, ht, hs, ts⟩ := h
  unfold LwV.told at p
  apply fn_at 339 [("w", .loc l.d), ("code", .int c), ("is_unit", .bool u)] [] rfl; kernel_rfl; ((kernel_rfl; (((intro W s av XK h; first | (have e := vreps0 h; subst e; exact ⟨_, BindsTo.of_eq rfl, .nil⟩) | (obtain ⟨v1, e, h1⟩ := vreps1 h; subst e; exact ⟨_, BindsTo.of_eq rfl, .cons h1 .nil⟩) | (obtain ⟨v1, v2, e, h1, h2⟩ := vreps2 h; subst e; exact ⟨_, BindsTo.of_eq rfl, .cons h1 (.cons h2 .nil)⟩) | (obtain ⟨v1, v2, v3, e, h1, h2, h3⟩ := vreps3 h; subst e; exact ⟨_, BindsTo.of_eq rfl, .cons h1 (.cons h2 (.cons h3 .nil))⟩) | (obtain ⟨v1, v2, v3, v4, e, h1, h2, h3, h4⟩ := vreps4 h; subst e; exact ⟨_, BindsTo.of_eq rfl, .cons h1 (.cons h2 (.cons h3 (.cons h4 .nil)))⟩) | (obtain ⟨v1, v2, v3, v4, v5, e, h1, h2, h3, h4, h5⟩ := vreps5 h; subst e; exact ⟨_, BindsTo.of_eq rfl, .cons h1 (.cons h2 (.cons h3 (.cons h4 (.cons h5 .nil))))⟩)))); ((focus ((repeat (with_reducible first | exact L0.nil | apply L0.oth | apply L0.bind)); done))); ((focus ((repeat (with_reducible first | exact Nm.nil | apply Nm.cons)); done))); decide +kernel; decide +kernel; rfl; rfl; rfl; rfl))
  (first | ((with_reducible refine' hs_ifp ?z262_1 ?z262_2 ?z262_3); (case z262_1 => walk_at "pb")) | fail "no")
  · intro h1; rw [if_pos h1] at p
    cases hx : v.half with
    | none =>
      rw [hx] at hd p
      (first | ((with_reducible refine' hs_ifp ?z263_1 ?z263_2 ?z263_3); (case z263_1 => walk_at "pb")) | fail "no")
      · intro h2; (first | ((with_reducible refine' hs_retp ?z264_1 ?z264_2); (case z264_1 => walk_at "pv")) | fail "no"); exact p _ h' (.refl _ _)
      · intro h2; cases h2
    | some x =>
      have hb := hh x hx
      rw [hx] at hd p
      dsimp only [mvo, Option.getD] at hd p
      (first | ((with_reducible refine' hs_ifp ?z265_1 ?z265_2 ?z265_3); (case z265_1 => walk_at "pb")) | fail "no")
      · intro h2; cases h2
      · intro h2; (try (with_reducible refine' hs_endN ?_))
        rw [if_neg (by simp)] at p
        (first | ((with_reducible refine' hs_append_int ?z267_1 ?z267_2 ?z267_3 ?z267_4 ?z267_5 ?z267_6 ?z267_7 ?z267_8 ?z267_9); (case z267_1 => walk_at "pv"); (case z267_2 => walk_at "pv"); (case z267_3 => walk_at "hp"); (case z267_4 => first | assumption | lia | (simp only [List.length_append, List.length_cons, List.length_nil]; lia)); (case z267_6 => exact ⟨_, fun _ => rfl⟩); (case z267_7 => rfl); (case z267_8 => exact interactive_no); (case z267_9 => (intro; rfl))) | fail "no")
        (first | ((with_reducible refine' hs_setitemp ?z268_1 ?z268_2 ?z268_3 ?z268_4 ?z268_5 ?z268_6); (case z268_1 => walk_at "pv"); (case z268_2 => walk_at "pv"); (case z268_3 => walk_at "pv"); (case z268_4 => first | ((with_reducible refine' iset_ints ?z268_1 ?z268_2 ?z268_3); (case z268_1 => walk_at "hp"); (case z268_2 => (first | assumption | lia)); (case z268_3 => (first | assumption | lia))) | ((refine' ISet.dict ?z268_1 ?z268_2); (case z268_1 => walk_at "hp"); (case z268_2 => walk_at "put"))); (case z268_6 => (intro; rfl))) | fail "no")
        (first | ((with_reducible refine' hs_retp ?z269_1 ?z269_2); (case z269_1 => walk_at "pv")) | fail "no")
        refine p _ ⟨?_, ?_, ?_, ts⟩ ((Kp.upd lt').trans (.upd ld)) <;> ((try dsimp only); walk_at "hp")
  · intro h1; rw [if_neg (by rw [h1]; decide)] at p; (try (with_reducible refine' hs_endN ?_))
    (first | ((with_reducible refine' hs_ifp ?z271_1 ?z271_2 ?z271_3); (case z271_1 => walk_at "pb")) | fail "no")
    · intro h2; rw [if_pos h2] at p; (first | ((with_reducible refine' hs_retp ?z272_1 ?z272_2); (case z272_1 => walk_at "pv")) | fail "no"); exact p _ h' (.refl _ _)
    · intro h2; rw [if_neg (by rw [h2]; decide)] at p; (try (with_reducible refine' hs_endN ?_))
      (first | ((with_reducible refine' hs_ifp ?z274_1 ?z274_2 ?z274_3); (case z274_1 => walk_at "pb")) | fail "no")
      · intro h3; rw [if_pos h3] at p
        (first | ((with_reducible refine' hs_setitemp ?z275_1 ?z275_2 ?z275_3 ?z275_4 ?z275_5 ?z275_6); (case z275_1 => walk_at "pv"); (case z275_2 => walk_at "pv"); (case z275_3 => walk_at "pv"); (case z275_4 => first | ((with_reducible refine' iset_ints ?z275_1 ?z275_2 ?z275_3); (case z275_1 => walk_at "hp"); (case z275_2 => (first | assumption | lia)); (case z275_3 => (first | assumption | lia))) | ((refine' ISet.dict ?z275_1 ?z275_2); (case z275_1 => walk_at "hp"); (case z275_2 => walk_at "put"))); (case z275_6 => (intro; rfl))) | fail "no")
        (try (with_reducible refine' hs_endN ?_))
        (first | ((with_reducible refine' hs_retp ?z277_1 ?z277_2); (case z277_1 => walk_at "pv")) | fail "no")
        refine p _ ⟨?_, ?_, ?_, ts⟩ (.upd ld) <;> ((try dsimp only); walk_at "hp")
      · intro h3; rw [if_neg (by rw [h3]; decide)] at p
        (first | ((with_reducible refine' hs_append_int ?z278_1 ?z278_2 ?z278_3 ?z278_4 ?z278_5 ?z278_6 ?z278_7 ?z278_8 ?z278_9); (case z278_1 => walk_at "pv"); (case z278_2 => walk_at "pv"); (case z278_3 => walk_at "hp"); (case z278_4 => first | assumption | lia | (simp only [List.length_append, List.length_cons, List.length_nil]; lia)); (case z278_6 => exact ⟨_, fun _ => rfl⟩); (case z278_7 => rfl); (case z278_8 => exact interactive_no); (case z278_9 => (intro; rfl))) | fail "no")
        (try (with_reducible refine' hs_endN ?_))
        (first | ((with_reducible refine' hs_retp ?z280_1 ?z280_2); (case z280_1 => walk_at "pv")) | fail "no")
        refine p _ ⟨?_, ?_, ?_, ts⟩ (.upd lt') <;> ((try dsimp only); walk_at "hp")
end

section
theorem c_law_still (g : Gp) {n : Nat} {σ} {Q : MV → MH → Prop} {X : MX → MH → Prop} (q : ∀ l, σ l = none → Q (.loc l) (upd σ l (.list (statics.map MV.int)))) : HCc (Gd g) (n + 1) (.ref 451) [] σ Q X := by
  apply fn_at 285 [] [] rfl; kernel_rfl; ((kernel_rfl; (((intro W s av XK h; first | (have e := vreps0 h; subst e; exact ⟨_, BindsTo.of_eq rfl, .nil⟩) | (obtain ⟨v1, e, h1⟩ := vreps1 h; subst e; exact ⟨_, BindsTo.of_eq rfl, .cons h1 .nil⟩) | (obtain ⟨v1, v2, e, h1, h2⟩ := vreps2 h; subst e; exact ⟨_, BindsTo.of_eq rfl, .cons h1 (.cons h2 .nil)⟩) | (obtain ⟨v1, v2, v3, e, h1, h2, h3⟩ := vreps3 h; subst e; exact ⟨_, BindsTo.of_eq rfl, .cons h1 (.cons h2 (.cons h3 .nil))⟩) | (obtain ⟨v1, v2, v3, v4, e, h1, h2, h3, h4⟩ := vreps4 h; subst e; exact ⟨_, BindsTo.of_eq rfl, .cons h1 (.cons h2 (.cons h3 (.cons h4 .nil)))⟩) | (obtain ⟨v1, v2, v3, v4, v5, e, h1, h2, h3, h4, h5⟩ := vreps5 h; subst e; exact ⟨_, BindsTo.of_eq rfl, .cons h1 (.cons h2 (.cons h3 (.cons h4 (.cons h5 .nil))))⟩)))); ((focus ((repeat (with_reducible first | exact L0.nil | apply L0.oth | apply L0.bind)); done))); ((focus ((repeat (with_reducible first | exact Nm.nil | apply Nm.cons)); done))); decide +kernel; decide +kernel; rfl; rfl; rfl; rfl))
  refine hs_ret ?_
  refine he_list_int (ns := statics) ?_ ?_ ?_
  · unfold statics; walk_at "pai"
  · exact Nat.le_of_ble_eq_true rfl
  · exact q
theorem c_law_first (g : Gp) {n : Nat} {σ} {Q : MV → MH → Prop} {X : MX → MH → Prop} (q : ∀ l, σ l = none → Q (.loc l) (upd σ l (.list (firsts.map MV.int)))) : HCc (Gd g) (n + 1) (.ref 458) [] σ Q X := by
  apply fn_at 290 [] [] rfl; kernel_rfl; ((kernel_rfl; (((intro W s av XK h; first | (have e := vreps0 h; subst e; exact ⟨_, BindsTo.of_eq rfl, .nil⟩) | (obtain ⟨v1, e, h1⟩ := vreps1 h; subst e; exact ⟨_, BindsTo.of_eq rfl, .cons h1 .nil⟩) | (obtain ⟨v1, v2, e, h1, h2⟩ := vreps2 h; subst e; exact ⟨_, BindsTo.of_eq rfl, .cons h1 (.cons h2 .nil)⟩) | (obtain ⟨v1, v2, v3, e, h1, h2, h3⟩ := vreps3 h; subst e; exact ⟨_, BindsTo.of_eq rfl, .cons h1 (.cons h2 (.cons h3 .nil))⟩) | (obtain ⟨v1, v2, v3, v4, e, h1, h2, h3, h4⟩ := vreps4 h; subst e; exact ⟨_, BindsTo.of_eq rfl, .cons h1 (.cons h2 (.cons h3 (.cons h4 .nil)))⟩) | (obtain ⟨v1, v2, v3, v4, v5, e, h1, h2, h3, h4, h5⟩ := vreps5 h; subst e; exact ⟨_, BindsTo.of_eq rfl, .cons h1 (.cons h2 (.cons h3 (.cons h4 (.cons h5 .nil))))⟩)))); ((focus ((repeat (with_reducible first | exact L0.nil | apply L0.oth | apply L0.bind)); done))); ((focus ((repeat (with_reducible first | exact Nm.nil | apply Nm.cons)); done))); decide +kernel; decide +kernel; rfl; rfl; rfl; rfl))
  refine hs_ret ?_
  refine he_list_int (ns := firsts) ?_ ?_ ?_
  · unfold firsts; walk_at "pai"
  · exact Nat.le_of_ble_eq_true rfl
  · exact q
theorem c_law_special (g : Gp) {n : Nat} {σ} {Q : MV → MH → Prop} {X : MX → MH → Prop} (q : ∀ l, σ l = none → Q (.loc l) (upd σ l (.list (specials.map MV.int)))) : HCc (Gd g) (n + 1) (.ref 465) [] σ Q X := by
  apply fn_at 295 [] [] rfl; kernel_rfl; ((kernel_rfl; (((intro W s av XK h; first | (have e := vreps0 h; subst e; exact ⟨_, BindsTo.of_eq rfl, .nil⟩) | (obtain ⟨v1, e, h1⟩ := vreps1 h; subst e; exact ⟨_, BindsTo.of_eq rfl, .cons h1 .nil⟩) | (obtain ⟨v1, v2, e, h1, h2⟩ := vreps2 h; subst e; exact ⟨_, BindsTo.of_eq rfl, .cons h1 (.cons h2 .nil)⟩) | (obtain ⟨v1, v2, v3, e, h1, h2, h3⟩ := vreps3 h; subst e; exact ⟨_, BindsTo.of_eq rfl, .cons h1 (.cons h2 (.cons h3 .nil))⟩) | (obtain ⟨v1, v2, v3, v4, e, h1, h2, h3, h4⟩ := vreps4 h; subst e; exact ⟨_, BindsTo.of_eq rfl, .cons h1 (.cons h2 (.cons h3 (.cons h4 .nil)))⟩) | (obtain ⟨v1, v2, v3, v4, v5, e, h1, h2, h3, h4, h5⟩ := vreps5 h; subst e; exact ⟨_, BindsTo.of_eq rfl, .cons h1 (.cons h2 (.cons h3 (.cons h4 (.cons h5 .nil))))⟩)))); ((focus ((repeat (with_reducible first | exact L0.nil | apply L0.oth | apply L0.bind)); done))); ((focus ((repeat (with_reducible first | exact Nm.nil | apply Nm.cons)); done))); decide +kernel; decide +kernel; rfl; rfl; rfl; rfl))
  refine hs_ret ?_
  refine he_list_int (ns := specials) ?_ ?_ ?_
  · unfold specials; walk_at "pai"
  · exact Nat.le_of_ble_eq_true rfl
  · exact q
noncomputable def lindexes : List Int := [8, 104, 249, 255, 1, 103, 167, 252, 0, 168, 248, 7]
noncomputable def lunits : List Int := [65, 19968, 55297, 56375, 57362, 65533, 945]
theorem c_law_indexes (g : Gp) {n : Nat} {σ} {Q : MV → MH → Prop} {X : MX → MH → Prop} (q : ∀ l, σ l = none → Q (.loc l) (upd σ l (.list (lindexes.map MV.int)))) : HCc (Gd g) (n + 1) (.ref 472) [] σ Q X := by
  apply fn_at 300 [] [] rfl; kernel_rfl; ((kernel_rfl; (((intro W s av XK h; first | (have e := vreps0 h; subst e; exact ⟨_, BindsTo.of_eq rfl, .nil⟩) | (obtain ⟨v1, e, h1⟩ := vreps1 h; subst e; exact ⟨_, BindsTo.of_eq rfl, .cons h1 .nil⟩) | (obtain ⟨v1, v2, e, h1, h2⟩ := vreps2 h; subst e; exact ⟨_, BindsTo.of_eq rfl, .cons h1 (.cons h2 .nil)⟩) | (obtain ⟨v1, v2, v3, e, h1, h2, h3⟩ := vreps3 h; subst e; exact ⟨_, BindsTo.of_eq rfl, .cons h1 (.cons h2 (.cons h3 .nil))⟩) | (obtain ⟨v1, v2, v3, v4, e, h1, h2, h3, h4⟩ := vreps4 h; subst e; exact ⟨_, BindsTo.of_eq rfl, .cons h1 (.cons h2 (.cons h3 (.cons h4 .nil)))⟩) | (obtain ⟨v1, v2, v3, v4, v5, e, h1, h2, h3, h4, h5⟩ := vreps5 h; subst e; exact ⟨_, BindsTo.of_eq rfl, .cons h1 (.cons h2 (.cons h3 (.cons h4 (.cons h5 .nil))))⟩)))); ((focus ((repeat (with_reducible first | exact L0.nil | apply L0.oth | apply L0.bind)); done))); ((focus ((repeat (with_reducible first | exact Nm.nil | apply Nm.cons)); done))); decide +kernel; decide +kernel; rfl; rfl; rfl; rfl))
  refine hs_ret ?_
  refine he_list_int (ns := lindexes) ?_ ?_ ?_
  · unfold lindexes; walk_at "pai"
  · exact Nat.le_of_ble_eq_true rfl
  · exact q
theorem c_law_units (g : Gp) {n : Nat} {σ} {Q : MV → MH → Prop} {X : MX → MH → Prop} (q : ∀ l, σ l = none → Q (.loc l) (upd σ l (.list (lunits.map MV.int)))) : HCc (Gd g) (n + 1) (.ref 479) [] σ Q X := by
  apply fn_at 305 [] [] rfl; kernel_rfl; ((kernel_rfl; (((intro W s av XK h; first | (have e := vreps0 h; subst e; exact ⟨_, BindsTo.of_eq rfl, .nil⟩) | (obtain ⟨v1, e, h1⟩ := vreps1 h; subst e; exact ⟨_, BindsTo.of_eq rfl, .cons h1 .nil⟩) | (obtain ⟨v1, v2, e, h1, h2⟩ := vreps2 h; subst e; exact ⟨_, BindsTo.of_eq rfl, .cons h1 (.cons h2 .nil)⟩) | (obtain ⟨v1, v2, v3, e, h1, h2, h3⟩ := vreps3 h; subst e; exact ⟨_, BindsTo.of_eq rfl, .cons h1 (.cons h2 (.cons h3 .nil))⟩) | (obtain ⟨v1, v2, v3, v4, e, h1, h2, h3, h4⟩ := vreps4 h; subst e; exact ⟨_, BindsTo.of_eq rfl, .cons h1 (.cons h2 (.cons h3 (.cons h4 .nil)))⟩) | (obtain ⟨v1, v2, v3, v4, v5, e, h1, h2, h3, h4, h5⟩ := vreps5 h; subst e; exact ⟨_, BindsTo.of_eq rfl, .cons h1 (.cons h2 (.cons h3 (.cons h4 (.cons h5 .nil))))⟩)))); ((focus ((repeat (with_reducible first | exact L0.nil | apply L0.oth | apply L0.bind)); done))); ((focus ((repeat (with_reducible first | exact Nm.nil | apply Nm.cons)); done))); decide +kernel; decide +kernel; rfl; rfl; rfl; rfl))
  refine hs_ret ?_
  refine he_list_int (ns := lunits) ?_ ?_ ?_
  · unfold lunits; walk_at "pai"
  · exact Nat.le_of_ble_eq_true rfl
  · exact q
theorem c_law_start (g : Gp) {n : Nat} {σ i} {Q : MV → MH → Prop} {X : MX → MH → Prop} (h0 : 0 ≤ i) (h1 : i < 256) (q : ∀ σ', Kp [] σ σ' → Q (mvo (lawStart i)) σ') : HCc (Gd g) (n + 2) (.ref 513) [.int i] σ Q X := by
  apply fn_at 329 [("index", .int i)] [] rfl; kernel_rfl; ((kernel_rfl; (((intro W s av XK h; first | (have e := vreps0 h; subst e; exact ⟨_, BindsTo.of_eq rfl, .nil⟩) | (obtain ⟨v1, e, h1⟩ := vreps1 h; subst e; exact ⟨_, BindsTo.of_eq rfl, .cons h1 .nil⟩) | (obtain ⟨v1, v2, e, h1, h2⟩ := vreps2 h; subst e; exact ⟨_, BindsTo.of_eq rfl, .cons h1 (.cons h2 .nil)⟩) | (obtain ⟨v1, v2, v3, e, h1, h2, h3⟩ := vreps3 h; subst e; exact ⟨_, BindsTo.of_eq rfl, .cons h1 (.cons h2 (.cons h3 .nil))⟩) | (obtain ⟨v1, v2, v3, v4, e, h1, h2, h3, h4⟩ := vreps4 h; subst e; exact ⟨_, BindsTo.of_eq rfl, .cons h1 (.cons h2 (.cons h3 (.cons h4 .nil)))⟩) | (obtain ⟨v1, v2, v3, v4, v5, e, h1, h2, h3, h4, h5⟩ := vreps5 h; subst e; exact ⟨_, BindsTo.of_eq rfl, .cons h1 (.cons h2 (.cons h3 (.cons h4 (.cons h5 .nil))))⟩)))); ((focus ((repeat (with_reducible first | exact L0.nil | apply L0.oth | apply L0.bind)); done))); ((focus ((repeat (with_reducible first | exact Nm.nil | apply Nm.cons)); done))); decide +kernel; decide +kernel; rfl; rfl; rfl; rfl))
  unfold lawStart at q
  (first | ((with_reducible refine' hs_ifp ?z290_1 ?z290_2 ?z290_3); (case z290_1 => walk_at "pb")) | fail "no")
  · intro hc; rw [if_pos hc] at q; (first | ((with_reducible refine' hs_retp ?z291_1 ?z291_2); (case z291_1 => walk_at "pv")) | fail "no"); exact q _ (.refl _ _)
  · intro hc; rw [if_neg (by rw [hc]; decide)] at q; (try (with_reducible refine' hs_endN ?_))
    (first | ((with_reducible refine' hs_ifp ?z293_1 ?z293_2 ?z293_3); (case z293_1 => walk_at "pb")) | fail "no")
    · intro hc; rw [if_pos hc] at q; (first | ((with_reducible refine' hs_retp ?z294_1 ?z294_2); (case z294_1 => walk_at "pv")) | fail "no"); exact q _ (.refl _ _)
    · intro hc; rw [if_neg (by rw [hc]; decide)] at q; (try (with_reducible refine' hs_endN ?_))
      refine hs_ret ?_
      (first | ((with_reducible refine' he_ifexpp ?z296_1 ?z296_2 ?z296_3); (case z296_1 => walk_at "pb")) | fail "no")
      · intro hc
        rw [if_pos hc] at q
        have hc' : 249 ≤ i := by simpa using hc
        refine he_sub ?_ (fun _ _ => rfl)
        refine he_callp (by walk_at "pv") (by walk_at "pa") (HCc.hc (c_law_special g fun l hl => ?_)) (by walk_at "keeps") rfl rfl
        refine he_pv (by walk_at "pv") ⟨_, ?_, q _ (.new hl)⟩
        exact sub_ints upd_same (by lia) (by show i - 249 < 7; lia)
      · intro hc; rw [if_neg (by rw [hc]; decide)] at q
        (first | ((with_reducible refine' he_pv ?z297_1 ?z297_2); (case z297_1 => walk_at "pv")) | fail "no")
        exact q _ (.refl _ _)
theorem c_law_long (g : Gp) {n : Nat} {σ o} {w : Bool} : PC (Gd g) (n + 1) (.ref 520) [.int o, .bool w] σ (.int (lawLong o w)) := by
  refine PC.of fun Q X q => ?_
  unfold lawLong at q
  apply fn_at 334 [("octet", .int o), ("is_wide", .bool w)] [] rfl; kernel_rfl; ((kernel_rfl; (((intro W s av XK h; first | (have e := vreps0 h; subst e; exact ⟨_, BindsTo.of_eq rfl, .nil⟩) | (obtain ⟨v1, e, h1⟩ := vreps1 h; subst e; exact ⟨_, BindsTo.of_eq rfl, .cons h1 .nil⟩) | (obtain ⟨v1, v2, e, h1, h2⟩ := vreps2 h; subst e; exact ⟨_, BindsTo.of_eq rfl, .cons h1 (.cons h2 .nil)⟩) | (obtain ⟨v1, v2, v3, e, h1, h2, h3⟩ := vreps3 h; subst e; exact ⟨_, BindsTo.of_eq rfl, .cons h1 (.cons h2 (.cons h3 .nil))⟩) | (obtain ⟨v1, v2, v3, v4, e, h1, h2, h3, h4⟩ := vreps4 h; subst e; exact ⟨_, BindsTo.of_eq rfl, .cons h1 (.cons h2 (.cons h3 (.cons h4 .nil)))⟩) | (obtain ⟨v1, v2, v3, v4, v5, e, h1, h2, h3, h4, h5⟩ := vreps5 h; subst e; exact ⟨_, BindsTo.of_eq rfl, .cons h1 (.cons h2 (.cons h3 (.cons h4 (.cons h5 .nil))))⟩)))); ((focus ((repeat (with_reducible first | exact L0.nil | apply L0.oth | apply L0.bind)); done))); ((focus ((repeat (with_reducible first | exact Nm.nil | apply Nm.cons)); done))); decide +kernel; decide +kernel; rfl; rfl; rfl; rfl))
  (first | ((with_reducible refine' hs_ifp ?z299_1 ?z299_2 ?z299_3); (case z299_1 => walk_at "pb")) | fail "no")
  · intro hw; rw [if_pos hw] at q
    refine hs_ret ?_
    (first | ((with_reducible refine' he_ifexpp ?z300_1 ?z300_2 ?z300_3); (case z300_1 => walk_at "pb")) | fail "no")
    · intro hc; rw [if_pos hc] at q; ((first | ((with_reducible refine' he_pv ?z301_1 ?z301_2); (case z301_1 => walk_at "pv")) | fail "no")); exact q
    · intro hc; rw [if_neg (by rw [hc]; decide)] at q
      (first | ((with_reducible refine' he_ifexpp ?z302_1 ?z302_2 ?z302_3); (case z302_1 => walk_at "pb")) | fail "no")
      · intro hc; rw [if_pos hc] at q; ((first | ((with_reducible refine' he_pv ?z303_1 ?z303_2); (case z303_1 => walk_at "pv")) | fail "no")); exact q
      · intro hc; rw [if_neg (by rw [hc]; decide)] at q; ((first | ((with_reducible refine' he_pv ?z304_1 ?z304_2); (case z304_1 => walk_at "pv")) | fail "no")); exact q
  · intro hw; rw [if_neg (by rw [hw]; decide)] at q; (try (with_reducible refine' hs_endN ?_))
    (first | ((with_reducible refine' hs_ifp ?z306_1 ?z306_2 ?z306_3); (case z306_1 => walk_at "pb")) | fail "no")
    · intro hc; rw [if_pos hc] at q; (first | ((with_reducible refine' hs_retp ?z307_1 ?z307_2); (case z307_1 => walk_at "pv")) | fail "no"); exact q
    · intro hc; rw [if_neg (by rw [hc]; decide)] at q; (try (with_reducible refine' hs_endN ?_))
      refine hs_ret ?_
      (first | ((with_reducible refine' he_ifexpp ?z309_1 ?z309_2 ?z309_3); (case z309_1 => walk_at "pb")) | fail "no")
      · intro hc; rw [if_pos hc] at q; ((first | ((with_reducible refine' he_pv ?z310_1 ?z310_2); (case z310_1 => walk_at "pv")) | fail "no")); exact q
      · intro hc; rw [if_neg (by rw [hc]; decide)] at q; ((first | ((with_reducible refine' he_pv ?z311_1 ?z311_2); (case z311_1 => walk_at "pv")) | fail "no")); exact q
end
set_option hygiene false in
local macro_rules | `(tactic| walk_at "pc") => `(tactic| exact c_law_long _)

section
theorem c_law_laid (g : Gp) {n : Nat} {σ l v} {c : Int} {st : Option Int} {Q : MV → MH → Prop} {X : MX → MH → Prop} (h : Lw σ l v) (h0 : 0 ≤ c) (h8 : c < v.starts.length) (p : TPost σ l (v.laid c st) Q) : HCc (Gd g) (n + 1) (.ref 534) [.loc l.d, .int c, mvo st] σ Q X := by
  obtain ⟨n1, n2⟩ := h.ne
  have h' := h
  obtain ⟨hd, ht, hs, ts⟩ := h
  unfold LwV.laid at p
  apply fn_at 344 [("w", .loc l.d), ("number", .int c), ("start", mvo st)] [] rfl; kernel_rfl; ((kernel_rfl; (((intro W s av XK h; first | (have e := vreps0 h; subst e; exact ⟨_, BindsTo.of_eq rfl, .nil⟩) | (obtain ⟨v1, e, h1⟩ := vreps1 h; subst e; exact ⟨_, BindsTo.of_eq rfl, .cons h1 .nil⟩) | (obtain ⟨v1, v2, e, h1, h2⟩ := vreps2 h; subst e; exact ⟨_, BindsTo.of_eq rfl, .cons h1 (.cons h2 .nil)⟩) | (obtain ⟨v1, v2, v3, e, h1, h2, h3⟩ := vreps3 h; subst e; exact ⟨_, BindsTo.of_eq rfl, .cons h1 (.cons h2 (.cons h3 .nil))⟩) | (obtain ⟨v1, v2, v3, v4, e, h1, h2, h3, h4⟩ := vreps4 h; subst e; exact ⟨_, BindsTo.of_eq rfl, .cons h1 (.cons h2 (.cons h3 (.cons h4 .nil)))⟩) | (obtain ⟨v1, v2, v3, v4, v5, e, h1, h2, h3, h4, h5⟩ := vreps5 h; subst e; exact ⟨_, BindsTo.of_eq rfl, .cons h1 (.cons h2 (.cons h3 (.cons h4 (.cons h5 .nil))))⟩)))); ((focus ((repeat (with_reducible first | exact L0.nil | apply L0.oth | apply L0.bind)); done))); ((focus ((repeat (with_reducible first | exact Nm.nil | apply Nm.cons)); done))); decide +kernel; decide +kernel; rfl; rfl; rfl; rfl))
  cases st with
  | none =>
    (first | ((with_reducible refine' hs_ifp ?z334_1 ?z334_2 ?z334_3); (case z334_1 => walk_at "pb")) | fail "no")
    · intro hc; (first | ((with_reducible refine' hs_retp ?z335_1 ?z335_2); (case z335_1 => walk_at "pv")) | fail "no"); exact p _ h' (.refl _ _)
    · intro hc; cases hc
  | some x =>
    dsimp only [mvo]
    (first | ((with_reducible refine' hs_ifp ?z336_1 ?z336_2 ?z336_3); (case z336_1 => walk_at "pb")) | fail "no")
    · intro hc; cases hc
    · intro hc; (try (with_reducible refine' hs_endN ?_))
      refine hs_tuplep (ms := [.int x, .int c, .bool false]) (by walk_at "pv") (.item (by walk_at "pv") (by walk_at "pv") (iset_ints (by walk_at "hp") h0 h8)
        (.item (by walk_at "pv") (by walk_at "pv") (.dict (by walk_at "hp") (by walk_at "put")) (.item (by walk_at "pv") (by walk_at "pv") (.dict (by walk_at "hp") (by walk_at "put")) .nil))) ?_ rfl (fun _ => rfl) (fun _ => rfl)
      (first | ((with_reducible refine' hs_retp ?z338_1 ?z338_2); (case z338_1 => walk_at "pv")) | fail "no")
      refine p _ ⟨?_, ?_, ?_, ts⟩ ((Kp.upd ls).trans ((Kp.upd ld).trans (.upd ld))) <;> ((try dsimp only); walk_at "hp")
end

section
theorem hs_ret_call {G : Gl} {F : Fx} {ρ : Loc} {σ : MH} {X : MX → MH → Prop} {Q : MFlow → Loc → MH → Prop} {rest : List Stmt} {id : Str} {fp pos epos : Pos} {args : List Expr} {fv vs} (hn : PV G F ρ σ (.Name id fp) (.raw fv)) (ha : PA G F ρ σ args vs)
    (h : HC G F.n fv vs σ (fun v σ1 => Q (.ret v) ρ σ1) X) (hk : keepsG G.K fv = true) (hall : args.all notStar = true) (hd : F.hd = false) : HS G F ρ σ (.Return (some (.Call (.Name id fp) args [] pos)) epos :: rest) Q X :=
  hs_ret (he_callp hn ha h hk hall hd)
theorem lawW_facts {o : Int} {k : Nat} (h : k = (lawLong o true).toNat) : 1 ≤ k ∧ k ≤ 3 ∧ (o = 240 → 3 ≤ k) ∧ (o = 241 → 3 ≤ k) ∧ ((o < 224 ∨ 231 < o) → o ≠ 242 → 2 ≤ k) := by
  unfold lawLong at h
  rw [if_pos rfl] at h
  subst h
  split
  · rename_i h2
    have f : (224 ≤ o ∧ o ≤ 231) ∨ o = 242 := by simpa using h2
    exact ⟨by decide, by decide, fun z => by lia, fun z => by lia, fun a b => by lia⟩
  · split
    · exact ⟨by decide, by decide, fun _ => by decide, fun _ => by decide, fun _ _ => by decide⟩
    · rename_i h1
      exact ⟨by decide, by decide, fun z => absurd (by simp [z]) h1, fun z => absurd (by simp [z]) h1, fun _ _ => by decide⟩
theorem lawN_facts {o : Int} {k : Nat} (h : k = (lawLong o false).toNat) : 1 ≤ k ∧ k ≤ 3 ∧ (24 ≤ o → o ≤ 31 → 2 ≤ k) ∧ (1 ≤ o → o ≤ 8 → 2 ≤ k) ∧ (o = 14 → 3 ≤ k) ∧ (o = 11 → 3 ≤ k) := by
  unfold lawLong at h
  rw [if_neg (by decide)] at h
  subst h
  split
  · exact ⟨by decide, by decide, fun _ _ => by decide, fun _ _ => by decide, fun _ => by decide, fun _ => by decide⟩
  · rename_i h1
    split
    · exact ⟨by decide, by decide, fun _ _ => by decide, fun _ _ => by decide, fun z => absurd (by simp [z]) h1, fun z => absurd (by simp [z]) h1⟩
    · rename_i h2
      exact ⟨by decide, by decide, fun a b => absurd (by simp [a, b]) h2, fun a b => absurd (by simp [a, b]) h2, fun z => absurd (by simp [z]) h1, fun z => absurd (by simp [z]) h1⟩
structure LwOk (v : LwV) : Prop where
  len : v.starts.length = 8
  a0 : 0 ≤ v.taken
  a8 : v.taken < 8
  hi : ∀ x, v.half = some x → 55296 ≤ x ∧ x ≤ 56319
abbrev mvb : Option Bool → MV
  | none => .none
  | some b => .bool b
noncomputable def SPost (σ : MH) (l : LwL) (r : Option Bool × LwV) (Q : MV → MH → Prop) : Prop := ∀ σ', Lw σ' l r.2 → Kp (lfoot l) σ σ' → Q (mvb r.1) σ'
theorem c_law_step (g : Gp) {n : Nat} {σ l v} {c : List UInt8} {Q : MV → MH → Prop} {X : MX → MH → Prop} (h : Lw σ l v) (hv : LwOk v) (hz : v.text.length < 65000) (hc : c.length = (lawLong (u8 c 0) v.wide).toNat) (p : SPost σ l (v.step c) Q) : HCc (Gd g) (n + 4) (.ref 541) [.loc l.d, .bytes c] σ Q X := by
  have h' := h
  obtain ⟨n1, n2⟩ := h.ne
  obtain ⟨hd, ht, hs, ts⟩ := h
  have hlen := hv.len
  have ha0 := hv.a0
  have ha8 := hv.a8
  have b0 := u8_lo c 0
  have b0' := u8_hi c 0
  have b1 := u8_lo c 1
  have b1' := u8_hi c 1
  have b2 := u8_lo c 2
  have b2' := u8_hi c 2
  have b1x : u8 c (Int.toNat 1) = u8 c 1 := rfl
  have b2x : u8 c (Int.toNat 2) = u8 c 2 := rfl
  unfold LwV.step at p
  dsimp only at p
  have hlp : 1 ≤ c.length := by
    rw [hc]; cases v.wide with
    | true => exact (lawW_facts rfl).1
    | false => exact (lawN_facts rfl).1
  have hlp' : c.length ≤ 3 := by
    rw [hc]; cases v.wide with
    | true => exact (lawW_facts rfl).2.1
    | false => exact (lawN_facts rfl).2.1
  apply fn_at 349 [("w", .loc l.d), ("part", .bytes c)] ["first"] rfl; kernel_rfl; ((kernel_rfl; (((intro W s av XK h; first | (have e := vreps0 h; subst e; exact ⟨_, BindsTo.of_eq rfl, .nil⟩) | (obtain ⟨v1, e, h1⟩ := vreps1 h; subst e; exact ⟨_, BindsTo.of_eq rfl, .cons h1 .nil⟩) | (obtain ⟨v1, v2, e, h1, h2⟩ := vreps2 h; subst e; exact ⟨_, BindsTo.of_eq rfl, .cons h1 (.cons h2 .nil)⟩) | (obtain ⟨v1, v2, v3, e, h1, h2, h3⟩ := vreps3 h; subst e; exact ⟨_, BindsTo.of_eq rfl, .cons h1 (.cons h2 (.cons h3 .nil))⟩) | (obtain ⟨v1, v2, v3, v4, e, h1, h2, h3, h4⟩ := vreps4 h; subst e; exact ⟨_, BindsTo.of_eq rfl, .cons h1 (.cons h2 (.cons h3 (.cons h4 .nil)))⟩) | (obtain ⟨v1, v2, v3, v4, v5, e, h1, h2, h3, h4, h5⟩ := vreps5 h; subst e; exact ⟨_, BindsTo.of_eq rfl, .cons h1 (.cons h2 (.cons h3 (.cons h4 (.cons h5 .nil))))⟩)))); ((focus ((repeat (with_reducible first | exact L0.nil | apply L0.oth | apply L0.bind)); done))); ((focus ((repeat (with_reducible first | exact Nm.nil | apply Nm.cons)); done))); decide +kernel; decide +kernel; rfl; rfl; rfl; rfl))
  (first | ((with_reducible refine' hs_assignp ?z343_1 ?z343_2 ?z343_3 ?z343_4); (case z343_1 => walk_at "pv"); (case z343_2 => walk_at "lput"); (case z343_4 => (intro; rfl))) | fail "no")
  change HS _ _ [("w", _), ("part", _), ("first", some (.int (u8 c 0)))] _ _ _ _
  generalize ho : u8 c 0 = o at *
  (first | ((with_reducible refine' hs_ifp ?z344_1 ?z344_2 ?z344_3); (case z344_1 => walk_at "pb")) | fail "no")
  · intro hw; rw [if_pos hw] at p; rw [hw] at hc
    obtain ⟨q1, q2, q3, q4, q5⟩ := lawW_facts hc
    (first | ((with_reducible refine' hs_ifp ?z345_1 ?z345_2 ?z345_3); (case z345_1 => walk_at "pb")) | fail "no")
    · intro h1; rw [if_pos h1] at p
      refine hs_tuplep (ms := [.int (o - 224), .bool false]) (by walk_at "pv") (.item (by walk_at "pv") (by walk_at "pv") (.dict (by walk_at "hp") (by walk_at "put")) (.item (by walk_at "pv") (by walk_at "pv") (.dict (by walk_at "hp") (by walk_at "put")) .nil)) ?_ rfl (fun _ => rfl) (fun _ => rfl)
      (first | ((with_reducible refine' hs_retp ?z346_1 ?z346_2); (case z346_1 => walk_at "pv")) | fail "no")
      refine p _ ⟨?_, ?_, ?_, ts⟩ ((Kp.upd ld).trans (.upd ld)) <;> ((try dsimp only); walk_at "hp")
    · intro h1; rw [if_neg (by rw [h1]; decide)] at p; (try (with_reducible refine' hs_endN ?_))
      (first | ((with_reducible refine' hs_ifp ?z348_1 ?z348_2 ?z348_3); (case z348_1 => walk_at "pb")) | fail "no")
      · intro h2; rw [if_pos h2] at p; (first | ((with_reducible refine' hs_retp ?z349_1 ?z349_2); (case z349_1 => walk_at "pv")) | fail "no"); exact p _ h' (.refl _ _)
      · intro h2; rw [if_neg (by rw [h2]; decide)] at p; (try (with_reducible refine' hs_endN ?_))
        (first | ((with_reducible refine' hs_ifp ?z351_1 ?z351_2 ?z351_3); (case z351_1 => walk_at "pb")) | fail "no")
        · intro h3; rw [if_pos h3] at p
          have h3' : o = 240 := by simpa using h3
          (first | ((with_reducible refine' hs_ret_call ?z352_1 ?z352_2 ?z352_3 ?z352_4 ?z352_5 ?z352_6); (case z352_1 => walk_at "pv"); (case z352_2 => walk_at "pa"); (case z352_4 => walk_at "keeps"); (case z352_5 => rfl); (case z352_6 => rfl)) | fail "no")
          refine HCc.hc (HCc.mono (c_law_told g (n := n) h' hz hv.hi fun σ' a b => p σ' a b) (show n + 1 ≤ n + 3 from nle rfl))
        · intro h3; rw [if_neg (by rw [h3]; decide)] at p; (try (with_reducible refine' hs_endN ?_))
          (first | ((with_reducible refine' hs_ifp ?z354_1 ?z354_2 ?z354_3); (case z354_1 => walk_at "pb")) | fail "no")
          · intro h4; rw [if_pos h4] at p
            have h4' : o = 241 := by simpa using h4
            (first | ((with_reducible refine' hs_ret_call ?z355_1 ?z355_2 ?z355_3 ?z355_4 ?z355_5 ?z355_6); (case z355_1 => walk_at "pv"); (case z355_2 => walk_at "pa"); (case z355_4 => walk_at "keeps"); (case z355_5 => rfl); (case z355_6 => rfl)) | fail "no")
            refine HCc.hc (HCc.mono (c_law_laid (st := some _) g (n := n) h' (by lia) (by lia) fun σ' a b => p σ' a b) (show n + 1 ≤ n + 3 from nle rfl))
          · intro h4; rw [if_neg (by rw [h4]; decide)] at p; (try (with_reducible refine' hs_endN ?_))
            (first | ((with_reducible refine' hs_ifp ?z357_1 ?z357_2 ?z357_3); (case z357_1 => walk_at "pb")) | fail "no")
            · intro h5; rw [if_pos h5] at p
              have h5' : 232 ≤ o ∧ o ≤ 239 := by simpa using h5
              refine hs_ret ?_
              refine he_ifexp ?_
              refine hb_val ?_ (by intros; rfl)
              refine he_calla (by walk_at "pv") ?_ (by walk_at "keeps") rfl rfl
              refine ha_cons (he_pv (by walk_at "pv") ?_) rfl
              refine ha_cons (he_pv (by walk_at "pv") ?_) rfl
              with_reducible refine ha_cons ?_ ?h2
              case h2 => rfl
              (first | ((with_reducible refine' he_callp ?z358_1 ?z358_2 ?z358_3 ?z358_4 ?z358_5 ?z358_6); (case z358_1 => walk_at "pv"); (case z358_2 => walk_at "pa"); (case z358_4 => walk_at "keeps"); (case z358_5 => rfl); (case z358_6 => rfl)) | fail "no")
              refine HCc.hc (HCc.mono (c_law_start g (n := n) b1 b1' fun σ1 k1 => ?_) (show n + 2 ≤ n + 3 from nle rfl))
              refine ha_nil ?_
              refine HCc.hc (HCc.mono (c_law_laid g (n := n) (h'.keep k1) (by lia) (by lia) fun σ' a b => ?_) (show n + 1 ≤ n + 3 from nle rfl))
              have kk := (k1.sub (S' := lfoot l) fun _ z => absurd z List.not_mem_nil).trans b
              have pp := p σ' a kk
              change Q (mvb (if (v.laid (o - 232) (lawStart (u8 c (Int.toNat 1)))).1 = true then some true else none)) σ' at pp
              revert pp
              generalize (v.laid (o - 232) (lawStart (u8 c (Int.toNat 1)))).1 = r
              intro pp
              cases r with
              | true => exact ⟨_, Tru.bool _, he_pv (v := .bool true) (by walk_at "pv") pp⟩
              | false => exact ⟨_, Tru.bool _, he_pv (v := .none) (by walk_at "pv") pp⟩
            · intro h5; rw [if_neg (by rw [h5]; decide)] at p; (try (with_reducible refine' hs_endN ?_))
              have z5 : (o < 224 ∨ 231 < o) ∧ o ≠ 242 := by simp at h1 h2; lia
              have z6 := q5 z5.1 z5.2
              (first | ((with_reducible refine' hs_ret_call ?z360_1 ?z360_2 ?z360_3 ?z360_4 ?z360_5 ?z360_6); (case z360_1 => walk_at "pv"); (case z360_2 => walk_at "pa"); (case z360_4 => walk_at "keeps"); (case z360_5 => rfl); (case z360_6 => rfl)) | fail "no")
              refine HCc.hc (HCc.mono (c_law_told g (n := n) h' hz hv.hi fun σ' a b => p σ' a b) (show n + 1 ≤ n + 3 from nle rfl))
  · intro hw; rw [if_neg (by rw [hw]; decide)] at p; rw [hw] at hc; (try (with_reducible refine' hs_endN ?_))
    obtain ⟨q1, q2, q3, q4, q5, q6⟩ := lawN_facts hc
    (first | ((with_reducible refine' hs_ifp ?z362_1 ?z362_2 ?z362_3); (case z362_1 => walk_at "pb")) | fail "no")
    · intro h1; rw [if_pos h1] at p
      have h1' : 1 ≤ o ∧ o ≤ 8 := by simpa using h1
      have z1 := q4 h1'.1 h1'.2
      (first | ((with_reducible refine' hs_ifp ?z363_1 ?z363_2 ?z363_3); (case z363_1 => walk_at "pb")) | fail "no")
      · intro h2; rw [if_pos (show decide (u8 c 1 < 128) = true from h2)] at p
        refine hs_ret ?_
        refine he_calla (by walk_at "pv") ?_ (by walk_at "keeps") rfl rfl
        refine ha_cons (he_pv (by walk_at "pv") ?_) rfl
        with_reducible refine ha_cons ?_ ?h2
        case h2 => rfl
        refine he_bin ?_
        refine he_sub ?_ (fun _ _ => rfl)
        (first | ((with_reducible refine' he_callp ?z364_1 ?z364_2 ?z364_3 ?z364_4 ?z364_5 ?z364_6); (case z364_1 => walk_at "pv"); (case z364_2 => walk_at "pa"); (case z364_4 => walk_at "keeps"); (case z364_5 => rfl); (case z364_6 => rfl)) | fail "no")
        refine HCc.hc (HCc.mono (c_law_still g (n := n) fun l2 hl2 => ?_) (show n + 1 ≤ n + 3 from nle rfl))
        refine he_pv (by walk_at "pv") ⟨_, sub_ints upd_same (by lia) (by show o - 1 < 8; lia), ?_⟩
        refine he_pv (by walk_at "pv") ⟨_, Bin.add _ _, ?_⟩
        refine ha_cons (he_pv (by walk_at "pv") ?_) rfl
        refine ha_nil ?_
        have kk : Kp [] σ (upd σ l2 (.list (statics.map MV.int))) := .new hl2
        refine HCc.hc (HCc.mono (c_law_told g (n := n) (h'.keep kk) hz hv.hi fun σ' a b => ?_) (show n + 1 ≤ n + 3 from nle rfl))
        exact p σ' a ((kk.sub (S' := lfoot l) fun _ z => absurd z List.not_mem_nil).trans b)
      · intro h2; rw [if_neg (show ¬ decide (u8 c 1 < 128) = true from fun z => by rw [show decide (u8 c 1 < 128) = false from h2] at z; cases z)] at p; (try (with_reducible refine' hs_endN ?_))
        (first | ((with_reducible refine' hs_ret_call ?z366_1 ?z366_2 ?z366_3 ?z366_4 ?z366_5 ?z366_6); (case z366_1 => walk_at "pv"); (case z366_2 => walk_at "pa"); (case z366_4 => walk_at "keeps"); (case z366_5 => rfl); (case z366_6 => rfl)) | fail "no")
        refine HCc.hc (HCc.mono (c_law_told g (n := n) h' hz hv.hi fun σ' a b => p σ' a b) (show n + 1 ≤ n + 3 from nle rfl))
    · intro h1; rw [if_neg (by rw [h1]; decide)] at p; (try (with_reducible refine' hs_endN ?_))
      (first | ((with_reducible refine' hs_ifp ?z368_1 ?z368_2 ?z368_3); (case z368_1 => walk_at "pb")) | fail "no")
      · intro h2; rw [if_pos h2] at p
        have h2' : o = 11 := by simpa using h2
        (first | ((with_reducible refine' hs_ret_call ?z369_1 ?z369_2 ?z369_3 ?z369_4 ?z369_5 ?z369_6); (case z369_1 => walk_at "pv"); (case z369_2 => walk_at "pa"); (case z369_4 => walk_at "keeps"); (case z369_5 => rfl); (case z369_6 => rfl)) | fail "no")
        refine HCc.hc (HCc.mono (c_law_laid (st := some _) g (n := n) h' (by lia) (by lia) fun σ' a b => p σ' a b) (show n + 1 ≤ n + 3 from nle rfl))
      · intro h2; rw [if_neg (by rw [h2]; decide)] at p; (try (with_reducible refine' hs_endN ?_))
        (first | ((with_reducible refine' hs_ifp ?z371_1 ?z371_2 ?z371_3); (case z371_1 => walk_at "pb")) | fail "no")
        · intro h3; rw [if_pos h3] at p
          have h3' : o = 14 := by simpa using h3
          (first | ((with_reducible refine' hs_ret_call ?z372_1 ?z372_2 ?z372_3 ?z372_4 ?z372_5 ?z372_6); (case z372_1 => walk_at "pv"); (case z372_2 => walk_at "pa"); (case z372_4 => walk_at "keeps"); (case z372_5 => rfl); (case z372_6 => rfl)) | fail "no")
          refine HCc.hc (HCc.mono (c_law_told g (n := n) h' hz hv.hi fun σ' a b => p σ' a b) (show n + 1 ≤ n + 3 from nle rfl))
        · intro h3; rw [if_neg (by rw [h3]; decide)] at p; (try (with_reducible refine' hs_endN ?_))
          (first | ((with_reducible refine' hs_ifp ?z374_1 ?z374_2 ?z374_3); (case z374_1 => walk_at "pb")) | fail "no")
          · intro h4; rw [if_pos h4] at p
            (first | ((with_reducible refine' hs_setitemp ?z375_1 ?z375_2 ?z375_3 ?z375_4 ?z375_5 ?z375_6); (case z375_1 => walk_at "pv"); (case z375_2 => walk_at "pv"); (case z375_3 => walk_at "pv"); (case z375_4 => first | ((with_reducible refine' iset_ints ?z375_1 ?z375_2 ?z375_3); (case z375_1 => walk_at "hp"); (case z375_2 => (first | assumption | lia)); (case z375_3 => (first | assumption | lia))) | ((refine' ISet.dict ?z375_1 ?z375_2); (case z375_1 => walk_at "hp"); (case z375_2 => walk_at "put"))); (case z375_6 => (intro; rfl))) | fail "no")
            (first | ((with_reducible refine' hs_retp ?z376_1 ?z376_2); (case z376_1 => walk_at "pv")) | fail "no")
            refine p _ ⟨?_, ?_, ?_, ts⟩ (.upd ld) <;> ((try dsimp only); walk_at "hp")
          · intro h4; rw [if_neg (by rw [h4]; decide)] at p; (try (with_reducible refine' hs_endN ?_))
            (first | ((with_reducible refine' hs_ifp ?z378_1 ?z378_2 ?z378_3); (case z378_1 => walk_at "pb")) | fail "no")
            · intro h5; rw [if_pos h5] at p
              (first | ((with_reducible refine' hs_setitemp ?z379_1 ?z379_2 ?z379_3 ?z379_4 ?z379_5 ?z379_6); (case z379_1 => walk_at "pv"); (case z379_2 => walk_at "pv"); (case z379_3 => walk_at "pv"); (case z379_4 => first | ((with_reducible refine' iset_ints ?z379_1 ?z379_2 ?z379_3); (case z379_1 => walk_at "hp"); (case z379_2 => (first | assumption | lia)); (case z379_3 => (first | assumption | lia))) | ((refine' ISet.dict ?z379_1 ?z379_2); (case z379_1 => walk_at "hp"); (case z379_2 => walk_at "put"))); (case z379_6 => (intro; rfl))) | fail "no")
              (first | ((with_reducible refine' hs_retp ?z380_1 ?z380_2); (case z380_1 => walk_at "pv")) | fail "no")
              refine p _ ⟨?_, ?_, ?_, ts⟩ (.upd ld) <;> ((try dsimp only); walk_at "hp")
            · intro h5; rw [if_neg (by rw [h5]; decide)] at p; (try (with_reducible refine' hs_endN ?_))
              (first | ((with_reducible refine' hs_ifp ?z382_1 ?z382_2 ?z382_3); (case z382_1 => walk_at "pb")) | fail "no")
              · intro h6; rw [if_pos h6] at p
                have h6' : 24 ≤ o ∧ o ≤ 31 := by simpa using h6
                refine hs_ret ?_
                refine he_ifexp ?_
                refine hb_val ?_ (by intros; rfl)
                refine he_calla (by walk_at "pv") ?_ (by walk_at "keeps") rfl rfl
                refine ha_cons (he_pv (by walk_at "pv") ?_) rfl
                refine ha_cons (he_pv (by walk_at "pv") ?_) rfl
                with_reducible refine ha_cons ?_ ?h2
                case h2 => rfl
                have z6 := q3 h6'.1 h6'.2
                (first | ((with_reducible refine' he_callp ?z383_1 ?z383_2 ?z383_3 ?z383_4 ?z383_5 ?z383_6); (case z383_1 => walk_at "pv"); (case z383_2 => walk_at "pa"); (case z383_4 => walk_at "keeps"); (case z383_5 => rfl); (case z383_6 => rfl)) | fail "no")
                refine HCc.hc (HCc.mono (c_law_start g (n := n) b1 b1' fun σ1 k1 => ?_) (show n + 2 ≤ n + 3 from nle rfl))
                refine ha_nil ?_
                refine HCc.hc (HCc.mono (c_law_laid g (n := n) (h'.keep k1) (by lia) (by lia) fun σ' a b => ?_) (show n + 1 ≤ n + 3 from nle rfl))
                have kk := (k1.sub (S' := lfoot l) fun _ z => absurd z List.not_mem_nil).trans b
                have pp := p σ' a kk
                change Q (mvb (if (v.laid (o - 24) (lawStart (u8 c (Int.toNat 1)))).1 = true then some true else none)) σ' at pp
                revert pp
                generalize (v.laid (o - 24) (lawStart (u8 c (Int.toNat 1)))).1 = r
                intro pp
                cases r with
                | true => exact ⟨_, Tru.bool _, he_pv (v := .bool true) (by walk_at "pv") pp⟩
                | false => exact ⟨_, Tru.bool _, he_pv (v := .none) (by walk_at "pv") pp⟩
              · intro h6; rw [if_neg (by rw [h6]; decide)] at p; (try (with_reducible refine' hs_endN ?_))
                (first | ((with_reducible refine' hs_ifp ?z385_1 ?z385_2 ?z385_3); (case z385_1 => walk_at "pb")) | fail "no")
                · intro h7; rw [if_pos h7] at p
                  (first | ((with_reducible refine' hs_ret_call ?z386_1 ?z386_2 ?z386_3 ?z386_4 ?z386_5 ?z386_6); (case z386_1 => walk_at "pv"); (case z386_2 => walk_at "pa"); (case z386_4 => walk_at "keeps"); (case z386_5 => rfl); (case z386_6 => rfl)) | fail "no")
                  refine HCc.hc (HCc.mono (c_law_told g (n := n) h' hz hv.hi fun σ' a b => p σ' a b) (show n + 1 ≤ n + 3 from nle rfl))
                · intro h7; rw [if_neg (by rw [h7]; decide)] at p; (try (with_reducible refine' hs_endN ?_))
                  refine hs_ret ?_
                  (first | ((with_reducible refine' he_ifexpp ?z388_1 ?z388_2 ?z388_3); (case z388_1 => walk_at "pb")) | fail "no")
                  · intro h8; rw [if_pos h8] at p; refine he_pv (by walk_at "pv") (p _ h' (.refl _ _))
                  · intro h8; rw [if_neg (by rw [h8]; decide)] at p
                    (first | ((with_reducible refine' he_callp ?z389_1 ?z389_2 ?z389_3 ?z389_4 ?z389_5 ?z389_6); (case z389_1 => walk_at "pv"); (case z389_2 => walk_at "pa"); (case z389_4 => walk_at "keeps"); (case z389_5 => rfl); (case z389_6 => rfl)) | fail "no")
                    refine HCc.hc (HCc.mono (c_law_told g (n := n) h' hz hv.hi fun σ' a b => p σ' a b) (show n + 1 ≤ n + 3 from nle rfl))
end

section
theorem told_ok {v : LwV} {c : Int} {u : Bool} (h : LwOk v) : LwOk (v.told c u).2 ∧ (v.told c u).2.text.length ≤ v.text.length + 1 := by
  unfold LwV.told
  split
  · split
    · exact ⟨h, by simp⟩
    · exact ⟨⟨h.len, h.a0, h.a8, fun x z => by cases z⟩, by simp⟩
  · split
    · exact ⟨h, by simp⟩
    · split
      · rename_i h1
        refine ⟨⟨h.len, h.a0, h.a8, fun x z => ?_⟩, by simp⟩
        cases z
        simp at h1
        exact ⟨h1.2.1, h1.2.2⟩
      · exact ⟨⟨h.len, h.a0, h.a8, h.hi⟩, by simp⟩
theorem laid_ok {v : LwV} {c : Int} {st} (h : LwOk v) (h0 : 0 ≤ c) (h8 : c < 8) : LwOk (v.laid c st).2 ∧ (v.laid c st).2.text.length ≤ v.text.length + 1 := by
  unfold LwV.laid
  split
  · exact ⟨h, by simp⟩
  · exact ⟨⟨by simp [h.len], h0, h8, h.hi⟩, by simp⟩
theorem step_ok {v : LwV} {c : List UInt8} (h : LwOk v) : LwOk (v.step c).2 ∧ (v.step c).2.text.length ≤ v.text.length + 1 := by
  have b0 := u8_lo c 0
  have b0' := u8_hi c 0
  have b1 := u8_lo c 1
  have b1' := u8_hi c 1
  unfold LwV.step
  dsimp only
  generalize u8 c 0 = o at *
  split
  · split
    · rename_i h1; simp at h1; exact ⟨⟨h.len, by dsimp only; lia, by dsimp only; lia, h.hi⟩, by simp⟩
    split
    · exact ⟨h, by simp⟩
    split
    · exact told_ok h
    split
    · exact laid_ok h (by lia) (by lia)
    split
    · rename_i h1; simp at h1; exact laid_ok h (by lia) (by lia)
    · exact told_ok h
  split
  · split
    · exact told_ok h
    · exact told_ok h
  split
  · exact laid_ok h (by lia) (by lia)
  split
  · exact told_ok h
  split
  · exact ⟨⟨h.len, h.a0, h.a8, h.hi⟩, by simp⟩
  split
  · rename_i h1; simp at h1; exact ⟨⟨h.len, by dsimp only; lia, by dsimp only; lia, h.hi⟩, by simp⟩
  split
  · rename_i h1; simp at h1; exact laid_ok h (by lia) (by lia)
  split
  · exact told_ok h
  split
  · exact ⟨h, by simp⟩
  · exact told_ok h
theorem lrun_step' (fu : Nat) (v : LwV) (at' : Nat) (o : UInt8) (t : List UInt8) : LwV.run (fu + 1) v at' (o :: t) =
      if (o :: t).length < (lawLong (o.toNat : Int) v.wide).toNat then (if (!v.half.isSome) = true then .err (some at') else .err none)
      else match v.step ((o :: t).take (lawLong (o.toNat : Int) v.wide).toNat) with
        | (none, _) => .err (some at')
        | (some false, _) => .err none
        | (some true, v') => v'.run fu (at' + (lawLong (o.toNat : Int) v.wide).toNat) ((o :: t).drop (lawLong (o.toNat : Int) v.wide).toNat) := rfl
theorem lrun_nil (fu : Nat) (v : LwV) (at' : Nat) : LwV.run fu v at' [] = if (!v.half.isSome) = true then .text v.text else .err none := by cases fu <;> rfl
noncomputable def LPost (σ : MH) (res : LRes) (Q : MV → MH → Prop) : Prop := match res with
  | .text cs => ∀ σ' t, σ t = none → σ' t = some (.list (cs.map MV.int)) → Kp [] σ σ' → Q (.loc t) σ'
  | .err e => ∀ σ', Kp [] σ σ' → Q (.tup [mvo e]) σ'
theorem cmp_isB {σ} (b : Bool) : Cmp σ .Is (.bool b) .none false := .isN rfl
set_option hygiene false in
local macro_rules | `(tactic| walk_at "cmp") => `(tactic| with_reducible exact cmp_isB _)
inductive ReadInv (σ1 : MH) (b : List UInt8) (d : Nat) (l : LwL) (n : Nat) (ρ' : Loc) (σ' : MH) : Prop
  | mk (at' : Nat) (lv cv : Option MV) (v' : LwV) (fu : Nat) (h1 : ρ' = ([("octets", some (.bytes b)), ("w", some (.loc d)), ("at", some (.int ((at' : Nat) : Int))), ("many", lv), ("told", cv)] : Loc)) (h2 : at' ≤ b.length) (h3 : n = b.length - at')
    (h4 : Lw σ' l v') (h5 : LwOk v') (h6 : v'.text.length ≤ at') (h7 : Kp (lfoot l) σ1 σ') (h8 : b.length - at' ≤ fu) (h9 : lread b = v'.run fu at' (b.drop at')) : ReadInv σ1 b d l n ρ' σ'
theorem c_law_read (g : Gp) {n : Nat} {σ} {b : List UInt8} {Q : MV → MH → Prop} {X : MX → MH → Prop} (hz : b.length ≤ 60000) (p : LPost σ (lread b) Q) : HCc (Gd g) (n + 5) (.ref 548) [.bytes b] σ Q X := by
  apply fn_at 354 [("octets", .bytes b)] ["w", "at", "many", "told"] rfl; kernel_rfl; ((kernel_rfl; (((intro W s av XK h; first | (have e := vreps0 h; subst e; exact ⟨_, BindsTo.of_eq rfl, .nil⟩) | (obtain ⟨v1, e, h1⟩ := vreps1 h; subst e; exact ⟨_, BindsTo.of_eq rfl, .cons h1 .nil⟩) | (obtain ⟨v1, v2, e, h1, h2⟩ := vreps2 h; subst e; exact ⟨_, BindsTo.of_eq rfl, .cons h1 (.cons h2 .nil)⟩) | (obtain ⟨v1, v2, v3, e, h1, h2, h3⟩ := vreps3 h; subst e; exact ⟨_, BindsTo.of_eq rfl, .cons h1 (.cons h2 (.cons h3 .nil))⟩) | (obtain ⟨v1, v2, v3, v4, e, h1, h2, h3, h4⟩ := vreps4 h; subst e; exact ⟨_, BindsTo.of_eq rfl, .cons h1 (.cons h2 (.cons h3 (.cons h4 .nil)))⟩) | (obtain ⟨v1, v2, v3, v4, v5, e, h1, h2, h3, h4, h5⟩ := vreps5 h; subst e; exact ⟨_, BindsTo.of_eq rfl, .cons h1 (.cons h2 (.cons h3 (.cons h4 (.cons h5 .nil))))⟩)))); ((focus ((repeat (with_reducible first | exact L0.nil | apply L0.oth | apply L0.bind)); done))); ((focus ((repeat (with_reducible first | exact Nm.nil | apply Nm.cons)); done))); decide +kernel; decide +kernel; rfl; rfl; rfl; rfl))
  refine @hs_swap _ _ _ _ _ _ _ _ _ _ _ _ ["w", "at"] ?_ rfl ?_ ?_
  rotate_left
  · intro C; kernel_rfl
  · intro C; kernel_rfl
  refine he_tuple ?_
  with_reducible refine ha_cons ?_ ?h2
  case h2 => rfl
  with_reducible refine he_dict ?_ ?h2 ?h3 (List.cons_ne_nil _ _) ?h5
  case h2 => rfl
  case h3 => rfl
  case h5 => exact Nat.le_of_ble_eq_true rfl
  refine hds_cons ?_
  refine he_list_int (ns := []) .nil (by decide) fun t ht => ?_
  refine hds_cons (he_pv (by walk_at "pv") ?_)
  refine hds_cons ?_
  refine he_calla (by walk_at "pv") ?_ (by walk_at "keeps") rfl rfl
  with_reducible refine ha_cons ?_ ?h2
  case h2 => rfl
  (first | ((with_reducible refine' he_callp ?z394_1 ?z394_2 ?z394_3 ?z394_4 ?z394_5 ?z394_6); (case z394_1 => walk_at "pv"); (case z394_2 => walk_at "pa"); (case z394_4 => walk_at "keeps"); (case z394_5 => rfl); (case z394_6 => rfl)) | fail "no")
  refine HCc.hc (HCc.mono (c_law_first g (n := n) fun f hf => ?_) (show n + 1 ≤ n + 4 from nle rfl))
  refine ha_nil ?_
  refine hc_list upd_same fun s hs => ?_
  refine hds_cons (he_pv (by walk_at "pv") ?_)
  refine hds_cons (he_pv (by walk_at "pv") ?_)
  refine hds_nil ⟨(show (["text", "half", "starts", "taken", "wide"] : List Str).Nodup from by decide +kernel), Nat.le_of_ble_eq_true rfl, fun d hd => ?_⟩
  refine ha_cons (he_pv (by walk_at "pv") ?_) rfl
  refine ha_nil ⟨Nat.le_of_ble_eq_true rfl, _, _, rfl, rfl, (show NPuts ["at", "w"] [_, _] _ _ from by walk_at "nputs"), ?_⟩
  have nft : f ≠ t := fun z => by rw [z, upd_same] at hf; cases hf
  have nst : s ≠ t := fun z => by rw [z, upd_other (Ne.symm nft), upd_same] at hs; cases hs
  have nsf : s ≠ f := fun z => by rw [z, upd_same] at hs; cases hs
  have nds : d ≠ s := fun z => by rw [z, upd_same] at hd; cases hd
  have ndt : d ≠ t := fun z => by rw [z, upd_other (Ne.symm nst), upd_other (Ne.symm nft), upd_same] at hd; cases hd
  have ndf : d ≠ f := fun z => by rw [z, upd_other (Ne.symm nsf), upd_same] at hd; cases hd
  have fs : σ s = none := by rwa [upd_other nsf, upd_other nst] at hs
  have fd : σ d = none := by rwa [upd_other nds, upd_other ndf, upd_other ndt] at hd
  have k0 : Kp [] σ (upd (upd (upd (upd σ t (.list (([] : List Int).map MV.int))) f (.list (firsts.map MV.int))) s (.list (firsts.map MV.int))) d (.dict [("text", .loc t), ("half", .none), ("starts", .loc s), ("taken", .int 0), ("wide", .bool false)])) :=
    (((Kp.new ht).trans (.new hf)).trans (.new hs)).trans (.new hd)
  have L0 : Lw (upd (upd (upd (upd σ t (.list (([] : List Int).map MV.int))) f (.list (firsts.map MV.int))) s (.list (firsts.map MV.int))) d (.dict [("text", .loc t), ("half", .none), ("starts", .loc s), ("taken", .int 0), ("wide", .bool false)])) ⟨d, t, s⟩ LwV.new := by
    refine ⟨upd_same, ?_, ?_, Ne.symm nst⟩
    · dsimp only; rw [upd_other (Ne.symm ndt), upd_other (Ne.symm nst), upd_other (Ne.symm nft), upd_same]; rfl
    · dsimp only; rw [upd_other (Ne.symm nds), upd_same]; rfl
  revert k0 L0
  generalize upd (upd (upd (upd σ t (.list (([] : List Int).map MV.int))) f (.list (firsts.map MV.int))) s (.list (firsts.map MV.int))) d (.dict [("text", .loc t), ("half", .none), ("starts", .loc s), ("taken", .int 0), ("wide", .bool false)]) = σ1
  intro k0 L0
  have hk : ∀ {σ'}, Kp (lfoot ⟨d, t, s⟩) σ1 σ' → Kp [] σ σ' := fun k => kp_new k0 k fun a z => by
    rcases List.mem_cons.mp z with rfl | z
    · exact fd
    · rcases List.mem_cons.mp z with rfl | z
      · exact ht
      · rw [List.mem_singleton.mp z]; exact fs
  refine hs_while (ReadInv σ1 b d ⟨d, t, s⟩) b.length
    ⟨0, none, none, LwV.new, b.length, rfl, Nat.zero_le _, rfl, L0, ⟨rfl, by decide, by decide, fun x z => by cases z⟩, Nat.le_refl _, .refl _ _, Nat.sub_le _ _, rfl⟩ ?_ rfl
  rintro n' ρ' σ' ⟨at', lv, cv, v', fu, rfl, hat, rfl, hr, hok, hfl, hkk, hfu, hrun⟩
  have hr' := hr
  obtain ⟨n1, n2⟩ := hr.ne
  obtain ⟨ed, et, es, ets⟩ := hr
  dsimp only at ed et es ets n1 n2
  refine hb_pb (v := decide (((at' : Nat) : Int) < (b.length : Int))) (by walk_at "pb") ⟨fun hc => ?_, fun hc => ?_⟩
  · have hlt : at' < b.length := by simpa using hc
    obtain ⟨fu', rfl⟩ := adv_fuel hfu hlt
    have hd' : b.drop at' = b.getD at' 0 :: b.drop (at' + 1) := by
      rw [List.drop_eq_getElem_cons hlt]; simp [List.getD, List.getElem?_eq_getElem hlt]
    (first | ((with_reducible refine' hs_assignp ?z395_1 ?z395_2 ?z395_3 ?z395_4); (case z395_1 => walk_at "pv"); (case z395_2 => walk_at "lput"); (case z395_4 => (intro; rfl))) | fail "no")
    have hLp : 1 ≤ lawLong (u8 b ((at' : Nat) : Int).toNat) v'.wide ∧ lawLong (u8 b ((at' : Nat) : Int).toNat) v'.wide ≤ 3 := by
      cases v'.wide with
      | true => obtain ⟨a, b, -⟩ := lawW_facts (o := u8 b ((at' : Nat) : Int).toNat) rfl; exact nat_13 a b
      | false => obtain ⟨a, b, -⟩ := lawN_facts (o := u8 b ((at' : Nat) : Int).toNat) rfl; exact nat_13 a b
    have hL : lawLong (u8 b ((at' : Nat) : Int).toNat) v'.wide = lawLong ((b.getD at' 0).toNat : Int) v'.wide := rfl
    generalize lawLong (u8 b ((at' : Nat) : Int).toNat) v'.wide = L at hL hLp ⊢
    have hrun1 := hrun
    rw [hd', lrun_step', ← hL] at hrun1
    (first | ((with_reducible refine' hs_ifp ?z396_1 ?z396_2 ?z396_3); (case z396_1 => walk_at "pb")) | fail "no")
    · intro hb1
      have hb1' : (b.length : Int) < at' + L := by simpa using hb1
      rw [if_pos (by rw [List.length_cons, List.length_drop]; exact adv_short hLp hlt hb1')] at hrun1
      rw [hrun1] at p
      refine hs_ret ?_
      (first | ((with_reducible refine' he_ifexpp ?z397_1 ?z397_2 ?z397_3); (case z397_1 => walk_at "pb")) | fail "no")
      · intro h1; rw [if_pos h1] at p
        exact he_pv (by walk_at "pv") (p _ (hk hkk))
      · intro h1; rw [if_neg (by rw [h1]; decide)] at p
        exact he_pv (by walk_at "pv") (p _ (hk hkk))
    · intro hb1
      have hb1' : (at' : Int) + L ≤ b.length := by simpa using hb1
      rw [if_neg (by rw [List.length_cons, List.length_drop]; exact adv_not hLp hlt hb1'), ← hd', List.drop_drop] at hrun1
      (try (with_reducible refine' hs_endN ?_))
      refine hs_assign_call (by walk_at "pv") (.cons (by walk_at "pv") rfl (.cons (pv_slice (by walk_at "pv") (.some (by walk_at "pv")) (.some (by walk_at "pv")) (Nat.le_trans hz (by decide))) rfl .nil)) ?_ (by walk_at "keeps") rfl rfl (by intro; rfl)
      rw [← adv_int (a := at') hLp, cut_mid b (Nat.le_add_right _ _) (adv_le hLp hb1'), Nat.add_sub_cancel_left]
      have hc0 : u8 ((b.drop at').take L.toNat) 0 = ((b.getD at' 0).toNat : Int) := by
        obtain ⟨k, hk'⟩ := adv_succ hLp
        rw [hd', hk', List.take_succ_cons]; rfl
      have hcl : ((b.drop at').take L.toNat).length = (lawLong (u8 ((b.drop at').take L.toNat) 0) v'.wide).toNat := by
        rw [hc0, ← hL, List.length_take, List.length_drop]; exact adv_min hLp hb1'
      have hsk := step_ok (c := (b.drop at').take L.toNat) hok
      refine HCc.hc (c_law_step g (n := n) hr' hok (by lia) hcl fun σ2 hr2 k2 => ⟨_, by walk_at "lput", ?_⟩)
      revert hrun1 hsk hr2
      generalize v'.step ((b.drop at').take L.toNat) = sr
      obtain ⟨r, v2⟩ := sr
      intro hrun1 hsk hr2
      dsimp only at hr2 hsk
      have kk2 := hkk.trans k2
      cases r with
      | none =>
        dsimp only at hrun1
        rw [hrun1] at p
        dsimp only [mvb]
        (first | ((with_reducible refine' hs_ifp ?z399_1 ?z399_2 ?z399_3); (case z399_1 => walk_at "pb")) | fail "no")
        · intro h1
          (first | ((with_reducible refine' hs_retp ?z400_1 ?z400_2); (case z400_1 => walk_at "pv")) | fail "no")
          exact p _ (hk kk2)
        · intro h1; cases h1
      | some y =>
        dsimp only [mvb]
        (first | ((with_reducible refine' hs_ifp ?z401_1 ?z401_2 ?z401_3); (case z401_1 => walk_at "pb")) | fail "no")
        · intro h1; cases h1
        · intro h1; (try (with_reducible refine' hs_endN ?_))
          cases y with
          | false =>
            dsimp only at hrun1
            rw [hrun1] at p
            (first | ((with_reducible refine' hs_ifp ?z403_1 ?z403_2 ?z403_3); (case z403_1 => walk_at "pb")) | fail "no")
            · intro h2; (first | ((with_reducible refine' hs_retp ?z404_1 ?z404_2); (case z404_1 => walk_at "pv")) | fail "no"); exact p _ (hk kk2)
            · intro h2; cases h2
          | true =>
            dsimp only at hrun1
            (first | ((with_reducible refine' hs_ifp ?z405_1 ?z405_2 ?z405_3); (case z405_1 => walk_at "pb")) | fail "no")
            · intro h2; cases h2
            · intro h2; (try (with_reducible refine' hs_endN ?_))
              (first | ((with_reducible refine' hs_assignp ?z407_1 ?z407_2 ?z407_3 ?z407_4); (case z407_1 => walk_at "pv"); (case z407_2 => walk_at "lput"); (case z407_4 => (intro; rfl))) | fail "no")
              refine hs_nil ?_
              refine ⟨b.length - (at' + L.toNat), adv_lt hLp hlt, at' + L.toNat, some (.int L), some (.bool true), v2, fu', ?_, adv_le hLp hb1', rfl, hr2, hsk.1, Nat.le_trans hsk.2 (Nat.add_le_add hfl (adv_pos hLp)), kk2, adv_fu hLp hfu, hrun1⟩
              rw [adv_int hLp]
  · have hat2 : at' = b.length := by
      have : ¬ ((at' : Int) < b.length) := by simpa using hc
      exact Nat.le_antisymm hat (Nat.le_of_not_lt fun z => this (Int.ofNat_lt.mpr z))
    have hrun2 := hrun
    rw [hat2, List.drop_length, lrun_nil] at hrun2
    rw [hrun2] at p
    refine hs_ret ?_
    (first | ((with_reducible refine' he_ifexpp ?z408_1 ?z408_2 ?z408_3); (case z408_1 => walk_at "pb")) | fail "no")
    · intro h1; rw [if_pos h1] at p
      exact he_pv (by walk_at "pv") (p _ _ ht et (hk hkk))
    · intro h1; rw [if_neg (by rw [h1]; decide)] at p
      exact he_pv (by walk_at "pv") (p _ (hk hkk))
end

section
theorem hs_extend1 {G : Gl} {F : Fx} {ρ : Loc} {σ : MH} {X : MX → MH → Prop} {Q : MFlow → Loc → MH → Prop} {rest : List Stmt} {o e : Expr} {apos pos epos : Pos} {l} {xs0} (ho : PV G F ρ σ o (.loc l)) (hl : σ l = some (.list xs0))
    (h : HE G F ρ σ e (fun v σ1 => ∃ (l2 : Nat) (ns cs : List Int), v = .loc l2 ∧ σ1 l = some (.list (ns.map MV.int)) ∧ σ1 l2 = some (.list (cs.map MV.int)) ∧ l2 ≠ l ∧ ns.length + cs.length ≤ 65536 ∧ HS G F ρ (upd σ1 l (.list ((ns ++ cs).map MV.int))) rest Q X) X) (ht : MethTree o "extend" apos pos [e]) (he : notStar e = true)
    (hi : ∀ env : Env, env.scope.kind = .function → interactive env = false) (hs : ∀ env, swapsWith (.Call (.Attribute o "extend" apos) [e] [] pos) none epos.line env = pure false) : HS G F ρ σ (.Expr (.Call (.Attribute o "extend" apos) [e] [] pos) epos :: rest) Q X := by
  refine hs_expr (he_extend (ho _ X ⟨l, rfl, ⟨_, hl⟩, HT.weaken h (fun v σ1 q => ?_) fun _ _ z => z⟩) ht he) hi hs
  obtain ⟨l2, ns, cs, e1, e2, e3, e4, e5, k⟩ := q
  exact ⟨l2, _, _, e1, e2, e3, e4, by simpa using e5, rfl, by rw [List.map_append] at k; exact k⟩
theorem hs_append1 {G : Gl} {F : Fx} {ρ : Loc} {σ : MH} {X : MX → MH → Prop} {Q : MFlow → Loc → MH → Prop} {rest : List Stmt} {o e : Expr} {apos pos epos : Pos} {l} {xs0} (ho : PV G F ρ σ o (.loc l)) (hl : σ l = some (.list xs0))
    (h : HE G F ρ σ e (fun v σ1 => ∃ (ns : List Int) (c : Int), v = .int c ∧ σ1 l = some (.list (ns.map MV.int)) ∧ ns.length < 65536 ∧ HS G F ρ (upd σ1 l (.list ((ns ++ [c]).map MV.int))) rest Q X) X) (ht : MethTree o "append" apos pos [e]) (he : notStar e = true)
    (hi : ∀ env : Env, env.scope.kind = .function → interactive env = false) (hs : ∀ env, swapsWith (.Call (.Attribute o "append" apos) [e] [] pos) none epos.line env = pure false) : HS G F ρ σ (.Expr (.Call (.Attribute o "append" apos) [e] [] pos) epos :: rest) Q X := by
  refine hs_expr (he_append (ho _ X ⟨l, rfl, ⟨_, hl⟩, HT.weaken h (fun v σ1 q => ?_) fun _ _ z => z⟩) ht he) hi hs
  obtain ⟨ns, c, e1, e2, e5, k⟩ := q
  exact ⟨_, e2, by simpa using e5, rfl, by rw [List.map_append] at k; rw [e1]; exact k⟩
noncomputable def Dk (σ : MH) (d c : Nat) (k : Int) : Prop := ∃ (a : Int) (cells : List Int), σ d = some (.dict [("cells", .loc c), ("at", .int a)]) ∧ σ c = some (.list (cells.map MV.int)) ∧ 0 ≤ a ∧ a ≤ k ∧ cells.length ≤ 60 ∧ ∀ x ∈ cells, 0 ≤ x ∧ x < 1000000007
theorem Dk.kp {σ σ' d c k} {S : List Nat} (h : Dk σ d c k) (kp : Kp S σ σ') (hd : d ∉ S) (hc : c ∉ S) : Dk σ' d c k := by
  obtain ⟨a, cells, e1, e2, r⟩ := h
  exact ⟨a, cells, kp _ _ hd e1, kp _ _ hc e2, r⟩
theorem Dk.ne {σ d c k} (h : Dk σ d c k) : d ≠ c := by
  obtain ⟨a, cells, e1, e2, r⟩ := h
  exact ne_of e1 e2 (by intro z; cases z)
theorem getD_all {l : List Int} {P : Int → Prop} (h : ∀ x ∈ l, P x) {i : Nat} (hi : i < l.length) : P (l.getD i 0) := by
  rw [List.getD, List.getElem?_eq_getElem hi]; exact h _ (List.getElem_mem hi)
theorem c_law_draw (g : Gp) {n : Nat} {σ d c} {k below : Int} {Q : MV → MH → Prop} {X : MX → MH → Prop} (h : Dk σ d c k) (hk : k < 1000) (hb : 0 < below) (p : ∀ v σ', 0 ≤ v → v < below → Dk σ' d c (k + 1) → Kp [d] σ σ' → Q (.int v) σ') : HCc (Gd g) (n + 1) (.ref 492) [.loc d, .int below] σ Q X := by
  have hdc := h.ne
  obtain ⟨a, cells, hd, hc, a0, ak, hl, hx⟩ := h
  apply fn_at 314 [("deck", .loc d), ("below", .int below)] ["at", "cells"] rfl; kernel_rfl; ((kernel_rfl; (((intro W s av XK h; first | (have e := vreps0 h; subst e; exact ⟨_, BindsTo.of_eq rfl, .nil⟩) | (obtain ⟨v1, e, h1⟩ := vreps1 h; subst e; exact ⟨_, BindsTo.of_eq rfl, .cons h1 .nil⟩) | (obtain ⟨v1, v2, e, h1, h2⟩ := vreps2 h; subst e; exact ⟨_, BindsTo.of_eq rfl, .cons h1 (.cons h2 .nil)⟩) | (obtain ⟨v1, v2, v3, e, h1, h2, h3⟩ := vreps3 h; subst e; exact ⟨_, BindsTo.of_eq rfl, .cons h1 (.cons h2 (.cons h3 .nil))⟩) | (obtain ⟨v1, v2, v3, v4, e, h1, h2, h3, h4⟩ := vreps4 h; subst e; exact ⟨_, BindsTo.of_eq rfl, .cons h1 (.cons h2 (.cons h3 (.cons h4 .nil)))⟩) | (obtain ⟨v1, v2, v3, v4, v5, e, h1, h2, h3, h4, h5⟩ := vreps5 h; subst e; exact ⟨_, BindsTo.of_eq rfl, .cons h1 (.cons h2 (.cons h3 (.cons h4 (.cons h5 .nil))))⟩)))); ((focus ((repeat (with_reducible first | exact L0.nil | apply L0.oth | apply L0.bind)); done))); ((focus ((repeat (with_reducible first | exact Nm.nil | apply Nm.cons)); done))); decide +kernel; decide +kernel; rfl; rfl; rfl; rfl))
  refine @hs_swapp _ _ _ _ _ _ _ _ _ _ _ _ [.int a, .loc c] ?rr ["at", "cells"] ?hv rfl ?np ?kk rfl ?s1 ?s2
  case hv => walk_at "pv"
  case s1 => intro C; kernel_rfl
  case s2 => intro C; kernel_rfl
  case np => show NPuts ["cells", "at"] [.loc c, .int a] _ _; walk_at "nputs"
  (first | ((with_reducible refine' hs_setitemp ?z413_1 ?z413_2 ?z413_3 ?z413_4 ?z413_5 ?z413_6); (case z413_1 => walk_at "pv"); (case z413_2 => walk_at "pv"); (case z413_3 => walk_at "pv"); (case z413_4 => first | ((with_reducible refine' iset_ints ?z413_1 ?z413_2 ?z413_3); (case z413_1 => walk_at "hp"); (case z413_2 => (first | assumption | lia)); (case z413_3 => (first | assumption | lia))) | ((refine' ISet.dict ?z413_1 ?z413_2); (case z413_1 => walk_at "hp"); (case z413_2 => walk_at "put"))); (case z413_6 => (intro; rfl))) | fail "no")
  have hd2 : Dk (upd σ d (.dict [("cells", .loc c), ("at", .int (a + 1))])) d c (k + 1) := ⟨a + 1, cells, upd_same, by walk_at "hp", by lia, by lia, hl, hx⟩
  have hkp : Kp [d] σ (upd σ d (.dict [("cells", .loc c), ("at", .int (a + 1))])) := .upd (.head _)
  (first | ((with_reducible refine' hs_ifp ?z414_1 ?z414_2 ?z414_3); (case z414_1 => walk_at "pb")) | fail "no")
  · intro h1
    have h1' : a < cells.length := by simpa using h1
    (first | ((with_reducible refine' hs_retp ?z415_1 ?z415_2); (case z415_1 => walk_at "pv")) | fail "no")
    exact p _ _ (Int.emod_nonneg _ (by lia)) (Int.emod_lt_of_pos _ hb) hd2 hkp
  · intro h1; (try (with_reducible refine' hs_endN ?_))
    refine hs_if (hb_cmp (he_pv (by walk_at "pv") (he_list_int (ns := []) .nil (by decide) fun t ht => ⟨_, Cmp.eqd (.ints (ns := cells) (by walk_at "hp")) (.ints (ns := []) upd_same), ?_⟩)) rfl)
    have hkp2 := hkp.trans (Kp.new (o := .list (([] : List Int).map MV.int)) ht)
    have hd3 := hd2.kp (S := []) (Kp.new (o := .list (([] : List Int).map MV.int)) ht) (fun z => absurd z List.not_mem_nil) (fun z => absurd z List.not_mem_nil)
    refine ⟨fun h2 => ?_, fun h2 => ?_⟩
    · (first | ((with_reducible refine' hs_retp ?z417_1 ?z417_2); (case z417_1 => walk_at "pv")) | fail "no")
      exact p _ _ (Int.emod_nonneg _ (by lia)) (Int.emod_lt_of_pos _ hb) hd3 hkp2
    · (try (with_reducible refine' hs_endN ?_))
      have hpos : 0 < (cells.length : Int) := by
        cases cells with
        | nil => simp [PyData.eqv, PyData.eqvAll] at h2
        | cons x r => simp only [List.length_cons]; lia
      have em : (cells.map MV.int).length = cells.length := by simp
      rw [← em] at hpos
      have m0 := Int.emod_nonneg a (show ((cells.map MV.int).length : Int) ≠ 0 by lia)
      have m1 := Int.emod_lt_of_pos a hpos
      have hg := getD_all hx (i := (a % ((cells.map MV.int).length : Int)).toNat) (by lia)
      (first | ((with_reducible refine' hs_retp ?z419_1 ?z419_2); (case z419_1 => walk_at "pv")) | fail "no")
      exact p _ _ (Int.emod_nonneg _ (by lia)) (Int.emod_lt_of_pos _ hb) hd3 hkp2
end

section
structure WrL where
  r : Nat
  j : Nat
  t : Nat
  w : Nat
  k : Nat
  s : Nat
  u : Nat
  b : Nat
  o : Nat
structure WrV where
  starts : List Int
  used : List Int
  octets : List Int
  active : Int
  count : Int
  wide : Bool
structure Wn (σ : MH) (l : WrL) (v : WrV) : Prop where
  w : σ l.w = some (.inst 306 l.k)
  k : σ l.k = some (.ns [("starts", .loc l.s), ("active", .int v.active), ("used", .loc l.u), ("count", .int v.count)])
  s : σ l.s = some (.list (v.starts.map MV.int))
  u : σ l.u = some (.list (v.used.map MV.int))
  su : l.s ≠ l.u
structure WnN (l : WrL) : Prop where
  wk : l.w ≠ l.k
  ws : l.w ≠ l.s
  wu : l.w ≠ l.u
  ks : l.k ≠ l.s
  ku : l.k ≠ l.u
theorem Wn.ne {σ l v} (h : Wn σ l v) : WnN l := ⟨ne_of h.w h.k (by intro z; cases z), ne_of h.w h.s (by intro z; cases z), ne_of h.w h.u (by intro z; cases z), ne_of h.k h.s (by intro z; cases z), ne_of h.k h.u (by intro z; cases z)⟩
noncomputable def inWin (s : List Int) (k c : Int) : Bool := decide (s.getD k.toNat 0 ≤ c) && decide (c < s.getD k.toNat 0 + 128)
theorem c_holds (g : Gp) {n : Nat} {σ l v} {k c : Int} (h : Wn σ l v) (h0 : 0 ≤ k) (h8 : k < v.starts.length) : PC (Gd g) (n + 1) (.ref 282) [.loc l.w, .int k, .int c] σ (.bool (inWin v.starts k c)) := by
  obtain ⟨hw, hk, hs, hu, su⟩ := h
  refine PC.of fun Q X q => ?_
  apply fn_at 169 [("self", .loc l.w), ("number", .int k), ("code", .int c)] [] rfl; kernel_rfl; ((kernel_rfl; (((intro W s av XK h; first | (have e := vreps0 h; subst e; exact ⟨_, BindsTo.of_eq rfl, .nil⟩) | (obtain ⟨v1, e, h1⟩ := vreps1 h; subst e; exact ⟨_, BindsTo.of_eq rfl, .cons h1 .nil⟩) | (obtain ⟨v1, v2, e, h1, h2⟩ := vreps2 h; subst e; exact ⟨_, BindsTo.of_eq rfl, .cons h1 (.cons h2 .nil)⟩) | (obtain ⟨v1, v2, v3, e, h1, h2, h3⟩ := vreps3 h; subst e; exact ⟨_, BindsTo.of_eq rfl, .cons h1 (.cons h2 (.cons h3 .nil))⟩) | (obtain ⟨v1, v2, v3, v4, e, h1, h2, h3, h4⟩ := vreps4 h; subst e; exact ⟨_, BindsTo.of_eq rfl, .cons h1 (.cons h2 (.cons h3 (.cons h4 .nil)))⟩) | (obtain ⟨v1, v2, v3, v4, v5, e, h1, h2, h3, h4, h5⟩ := vreps5 h; subst e; exact ⟨_, BindsTo.of_eq rfl, .cons h1 (.cons h2 (.cons h3 (.cons h4 (.cons h5 .nil))))⟩)))); ((focus ((repeat (with_reducible first | exact L0.nil | apply L0.oth | apply L0.bind)); done))); ((focus ((repeat (with_reducible first | exact Nm.nil | apply Nm.cons)); done))); decide +kernel; decide +kernel; rfl; rfl; rfl; rfl))
  (first | ((with_reducible refine' hs_retp ?z424_1 ?z424_2); (case z424_1 => walk_at "pv")) | fail "no")
  exact q
set_option hygiene false in
local macro_rules | `(tactic| walk_at "pc") => `(tactic| exact c_holds _ (by assumption) (by lia) (by lia))
set_option hygiene false in
local macro_rules | `(tactic| walk_at "pc") => `(tactic| exact pc_range)
noncomputable def NumOk (s : List Int) (c : Int) (o : Option Int) : Prop := ∀ k, o = some k → 0 ≤ k ∧ k < 8 ∧ inWin s k c = true
theorem c_number_of (g : Gp) {n : Nat} {σ l v} {c : Int} {Q : MV → MH → Prop} {X : MX → MH → Prop} (h : Wn σ l v) (hl : v.starts.length = 8) (ha : 0 ≤ v.active ∧ v.active < 8) (p : ∀ o, NumOk v.starts c o → Q (mvo o) σ) : HC (Gd g) (n + 2) (.ref 275) [.loc l.w, .int c] σ Q X := by
  have h' := h
  obtain ⟨hw, hk, hs, hu, su⟩ := h
  have ha0 := ha.1
  have ha8 := ha.2
  refine HCc.hc ?_
  apply fn_at 164 [("self", .loc l.w), ("code", .int c)] ["number"] rfl; kernel_rfl; ((kernel_rfl; (((intro W s av XK h; first | (have e := vreps0 h; subst e; exact ⟨_, BindsTo.of_eq rfl, .nil⟩) | (obtain ⟨v1, e, h1⟩ := vreps1 h; subst e; exact ⟨_, BindsTo.of_eq rfl, .cons h1 .nil⟩) | (obtain ⟨v1, v2, e, h1, h2⟩ := vreps2 h; subst e; exact ⟨_, BindsTo.of_eq rfl, .cons h1 (.cons h2 .nil)⟩) | (obtain ⟨v1, v2, v3, e, h1, h2, h3⟩ := vreps3 h; subst e; exact ⟨_, BindsTo.of_eq rfl, .cons h1 (.cons h2 (.cons h3 .nil))⟩) | (obtain ⟨v1, v2, v3, v4, e, h1, h2, h3, h4⟩ := vreps4 h; subst e; exact ⟨_, BindsTo.of_eq rfl, .cons h1 (.cons h2 (.cons h3 (.cons h4 .nil)))⟩) | (obtain ⟨v1, v2, v3, v4, v5, e, h1, h2, h3, h4, h5⟩ := vreps5 h; subst e; exact ⟨_, BindsTo.of_eq rfl, .cons h1 (.cons h2 (.cons h3 (.cons h4 (.cons h5 .nil))))⟩)))); ((focus ((repeat (with_reducible first | exact L0.nil | apply L0.oth | apply L0.bind)); done))); ((focus ((repeat (with_reducible first | exact Nm.nil | apply Nm.cons)); done))); decide +kernel; decide +kernel; rfl; rfl; rfl; rfl))
  (first | ((with_reducible refine' hs_ifp ?z426_1 ?z426_2 ?z426_3); (case z426_1 => walk_at "pb")) | fail "no")
  · intro hc; (first | ((with_reducible refine' hs_retp ?z427_1 ?z427_2); (case z427_1 => walk_at "pv")) | fail "no")
    exact p (some v.active) fun k e => by cases e; exact ⟨ha0, ha8, hc⟩
  · intro hc; (try (with_reducible refine' hs_endN ?_))
    refine hs_for (hi_rng (he_pv (v := .rng 8) (by walk_at "pv") ⟨8, rfl, by decide, fun i ρ' σ' => σ' = σ ∧ ∃ nv, ρ' = ([("self", some (.loc l.w)), ("code", some (.int c)), ("number", nv)] : Loc), ⟨rfl, none, rfl⟩, fun _ _ _ _ => trivial, ?_, ?_⟩)) (by intros; rfl) rfl rfl
    · rintro i x ρ' σ' hx ⟨rfl, nv, rfl⟩
      obtain ⟨hi, rfl⟩ := nums_get hx
      refine ⟨_, .name (by walk_at "lput"), ?_⟩
      (first | ((with_reducible refine' hs_ifp ?z429_1 ?z429_2 ?z429_3); (case z429_1 => walk_at "pb")) | fail "no")
      · intro h1; (first | ((with_reducible refine' hs_retp ?z430_1 ?z430_2); (case z430_1 => walk_at "pv")) | fail "no")
        exact p (some i) fun k e => by cases e; exact ⟨by lia, by lia, h1⟩
      · intro h1; (try (with_reducible refine' hs_endN ?_))
        refine hs_nil ⟨rfl, _, rfl⟩
    · rintro ρ' σ' ⟨rfl, nv, rfl⟩
      (first | ((with_reducible refine' hs_retp ?z432_1 ?z432_2); (case z432_1 => walk_at "pv")) | fail "no")
      exact p none fun k e => by cases e
theorem c_use (g : Gp) {n : Nat} {σ l v} {c : Int} {Q : MV → MH → Prop} {X : MX → MH → Prop} (h : Wn σ l v) (h0 : 0 ≤ c) (h8 : c < v.used.length) (p : ∀ σ', Wn σ' l { v with count := v.count + 1, used := v.used.set c.toNat (v.count + 1), active := c } → Kp [l.k, l.s, l.u] σ σ' → Q .none σ') : HC (Gd g) (n + 1) (.ref 289) [.loc l.w, .int c] σ Q X := by
  obtain ⟨n1, n2, n3, n4, n5⟩ := h.ne
  obtain ⟨hw, hk, hs, hu, su⟩ := h
  refine HCc.hc ?_
  apply fn_at 174 [("self", .loc l.w), ("number", .int c)] [] rfl; kernel_rfl; ((kernel_rfl; (((intro W s av XK h; first | (have e := vreps0 h; subst e; exact ⟨_, BindsTo.of_eq rfl, .nil⟩) | (obtain ⟨v1, e, h1⟩ := vreps1 h; subst e; exact ⟨_, BindsTo.of_eq rfl, .cons h1 .nil⟩) | (obtain ⟨v1, v2, e, h1, h2⟩ := vreps2 h; subst e; exact ⟨_, BindsTo.of_eq rfl, .cons h1 (.cons h2 .nil)⟩) | (obtain ⟨v1, v2, v3, e, h1, h2, h3⟩ := vreps3 h; subst e; exact ⟨_, BindsTo.of_eq rfl, .cons h1 (.cons h2 (.cons h3 .nil))⟩) | (obtain ⟨v1, v2, v3, v4, e, h1, h2, h3, h4⟩ := vreps4 h; subst e; exact ⟨_, BindsTo.of_eq rfl, .cons h1 (.cons h2 (.cons h3 (.cons h4 .nil)))⟩) | (obtain ⟨v1, v2, v3, v4, v5, e, h1, h2, h3, h4, h5⟩ := vreps5 h; subst e; exact ⟨_, BindsTo.of_eq rfl, .cons h1 (.cons h2 (.cons h3 (.cons h4 (.cons h5 .nil))))⟩)))); ((focus ((repeat (with_reducible first | exact L0.nil | apply L0.oth | apply L0.bind)); done))); ((focus ((repeat (with_reducible first | exact Nm.nil | apply Nm.cons)); done))); decide +kernel; decide +kernel; rfl; rfl; rfl; rfl))
  (first | ((with_reducible refine' hs_setattrp ?z434_1 ?z434_2 ?z434_3 ?z434_4 ?z434_5 ?z434_6 ?z434_7); (case z434_1 => walk_at "pv"); (case z434_2 => walk_at "pv"); (case z434_3 => walk_at "inst"); (case z434_4 => (with_reducible exact SetI_ok _ (by constructor))); (case z434_5 => (first | (apply APut.old; walk_at "put") | (apply aput_new; kernel_rfl; exact Nat.le_of_ble_eq_true rfl))); (case z434_7 => (intro; rfl))) | fail "no")
  (first | ((with_reducible refine' hs_setitemp ?z435_1 ?z435_2 ?z435_3 ?z435_4 ?z435_5 ?z435_6); (case z435_1 => walk_at "pv"); (case z435_2 => walk_at "pv"); (case z435_3 => walk_at "pv"); (case z435_4 => first | ((with_reducible refine' iset_ints ?z435_1 ?z435_2 ?z435_3); (case z435_1 => walk_at "hp"); (case z435_2 => (first | assumption | lia)); (case z435_3 => (first | assumption | lia))) | ((refine' ISet.dict ?z435_1 ?z435_2); (case z435_1 => walk_at "hp"); (case z435_2 => walk_at "put"))); (case z435_6 => (intro; rfl))) | fail "no")
  (first | ((with_reducible refine' hs_setattrp ?z436_1 ?z436_2 ?z436_3 ?z436_4 ?z436_5 ?z436_6 ?z436_7); (case z436_1 => walk_at "pv"); (case z436_2 => walk_at "pv"); (case z436_3 => walk_at "inst"); (case z436_4 => (with_reducible exact SetI_ok _ (by constructor))); (case z436_5 => (first | (apply APut.old; walk_at "put") | (apply aput_new; kernel_rfl; exact Nat.le_of_ble_eq_true rfl))); (case z436_7 => (intro; rfl))) | fail "no")
  (((repeat (with_reducible first | refine' hs_endN ?_ | refine' hs_nil ?_)); first | assumption | skip))
  refine p _ ⟨?_, ?_, ?_, ?_, su⟩ ((Kp.upd (.head _)).trans ((Kp.upd (.tail _ (.tail _ (.head _)))).trans (.upd (.head _)))) <;> ((try dsimp only); walk_at "hp")
theorem c_oldest (g : Gp) {n : Nat} {σ l v} {Q : MV → MH → Prop} {X : MX → MH → Prop} (h : Wn σ l v) (hl : v.used.length = 8) (p : ∀ k, 0 ≤ k → k < 8 → Q (.int k) σ) : HC (Gd g) (n + 1) (.ref 296) [.loc l.w] σ Q X := by
  obtain ⟨hw, hk, hs, hu, su⟩ := h
  refine HCc.hc ?_
  apply fn_at 179 [("self", .loc l.w)] ["best", "number"] rfl; kernel_rfl; ((kernel_rfl; (((intro W s av XK h; first | (have e := vreps0 h; subst e; exact ⟨_, BindsTo.of_eq rfl, .nil⟩) | (obtain ⟨v1, e, h1⟩ := vreps1 h; subst e; exact ⟨_, BindsTo.of_eq rfl, .cons h1 .nil⟩) | (obtain ⟨v1, v2, e, h1, h2⟩ := vreps2 h; subst e; exact ⟨_, BindsTo.of_eq rfl, .cons h1 (.cons h2 .nil)⟩) | (obtain ⟨v1, v2, v3, e, h1, h2, h3⟩ := vreps3 h; subst e; exact ⟨_, BindsTo.of_eq rfl, .cons h1 (.cons h2 (.cons h3 .nil))⟩) | (obtain ⟨v1, v2, v3, v4, e, h1, h2, h3, h4⟩ := vreps4 h; subst e; exact ⟨_, BindsTo.of_eq rfl, .cons h1 (.cons h2 (.cons h3 (.cons h4 .nil)))⟩) | (obtain ⟨v1, v2, v3, v4, v5, e, h1, h2, h3, h4, h5⟩ := vreps5 h; subst e; exact ⟨_, BindsTo.of_eq rfl, .cons h1 (.cons h2 (.cons h3 (.cons h4 (.cons h5 .nil))))⟩)))); ((focus ((repeat (with_reducible first | exact L0.nil | apply L0.oth | apply L0.bind)); done))); ((focus ((repeat (with_reducible first | exact Nm.nil | apply Nm.cons)); done))); decide +kernel; decide +kernel; rfl; rfl; rfl; rfl))
  (first | ((with_reducible refine' hs_assignp ?z439_1 ?z439_2 ?z439_3 ?z439_4); (case z439_1 => walk_at "pv"); (case z439_2 => walk_at "lput"); (case z439_4 => (intro; rfl))) | fail "no")
  refine hs_for (hi_rng (he_pv (v := .rng 8) (by walk_at "pv") ⟨8, rfl, by decide, fun i ρ' σ' => σ' = σ ∧ ∃ (b : Int) (nv : Option MV), 0 ≤ b ∧ b < 8 ∧ ρ' = ([("self", some (.loc l.w)), ("best", some (.int b)), ("number", nv)] : Loc), ⟨rfl, 0, none, by decide, by decide, rfl⟩, fun _ _ _ _ => trivial, ?_, ?_⟩)) (by intros; rfl) rfl rfl
  · rintro i x ρ' σ' hx ⟨rfl, b, nv, b0, b8, rfl⟩
    obtain ⟨hi, rfl⟩ := nums_get hx
    refine ⟨_, .name (by walk_at "lput"), ?_⟩
    (first | ((with_reducible refine' hs_ifp ?z440_1 ?z440_2 ?z440_3); (case z440_1 => walk_at "pb")) | fail "no")
    · intro h1
      (first | ((with_reducible refine' hs_assignp ?z441_1 ?z441_2 ?z441_3 ?z441_4); (case z441_1 => walk_at "pv"); (case z441_2 => walk_at "lput"); (case z441_4 => (intro; rfl))) | fail "no")
      (((repeat (with_reducible first | refine' hs_endN ?_ | refine' hs_nil ?_)); first | assumption | skip))
      exact ⟨rfl, i, _, by lia, by lia, rfl⟩
    · intro h1; (try (with_reducible refine' hs_endN ?_))
      refine hs_nil ⟨rfl, b, _, b0, b8, rfl⟩
  · rintro ρ' σ' ⟨rfl, b, nv, b0, b8, rfl⟩
    (first | ((with_reducible refine' hs_retp ?z444_1 ?z444_2); (case z444_1 => walk_at "pv")) | fail "no")
    exact p b b0 b8
theorem c_wlay (g : Gp) {n : Nat} {σ l v} {st : Int} {Q : MV → MH → Prop} {X : MX → MH → Prop} (h : Wn σ l v) (hl : v.used.length = 8) (hs8 : v.starts.length = 8)
    (p : ∀ k σ', 0 ≤ k → k < 8 → Wn σ' l { v with starts := v.starts.set k.toNat st, count := v.count + 1, used := v.used.set k.toNat (v.count + 1), active := k } → Kp [l.k, l.s, l.u] σ σ' → Q (.int k) σ') : HC (Gd g) (n + 2) (.ref 303) [.loc l.w, .int st] σ Q X := by
  have h' := h
  obtain ⟨n1, n2, n3, n4, n5⟩ := h.ne
  obtain ⟨hw, hk, hs, hu, su⟩ := h
  refine HCc.hc ?_
  apply fn_at 184 [("self", .loc l.w), ("start", .int st)] ["number"] rfl; kernel_rfl; ((kernel_rfl; (((intro W s av XK h; first | (have e := vreps0 h; subst e; exact ⟨_, BindsTo.of_eq rfl, .nil⟩) | (obtain ⟨v1, e, h1⟩ := vreps1 h; subst e; exact ⟨_, BindsTo.of_eq rfl, .cons h1 .nil⟩) | (obtain ⟨v1, v2, e, h1, h2⟩ := vreps2 h; subst e; exact ⟨_, BindsTo.of_eq rfl, .cons h1 (.cons h2 .nil)⟩) | (obtain ⟨v1, v2, v3, e, h1, h2, h3⟩ := vreps3 h; subst e; exact ⟨_, BindsTo.of_eq rfl, .cons h1 (.cons h2 (.cons h3 .nil))⟩) | (obtain ⟨v1, v2, v3, v4, e, h1, h2, h3, h4⟩ := vreps4 h; subst e; exact ⟨_, BindsTo.of_eq rfl, .cons h1 (.cons h2 (.cons h3 (.cons h4 .nil)))⟩) | (obtain ⟨v1, v2, v3, v4, v5, e, h1, h2, h3, h4, h5⟩ := vreps5 h; subst e; exact ⟨_, BindsTo.of_eq rfl, .cons h1 (.cons h2 (.cons h3 (.cons h4 (.cons h5 .nil))))⟩)))); ((focus ((repeat (with_reducible first | exact L0.nil | apply L0.oth | apply L0.bind)); done))); ((focus ((repeat (with_reducible first | exact Nm.nil | apply Nm.cons)); done))); decide +kernel; decide +kernel; rfl; rfl; rfl; rfl))
  (first | ((with_reducible refine' hs_assign_meth ?z446_1 ?z446_2 ?z446_3 ?z446_4 ?z446_5 ?z446_6 ?z446_7 ?z446_8 ?z446_9 ?z446_10); (case z446_1 => walk_at "pv"); (case z446_2 => walk_at "inst"); (case z446_3 => walk_at "meth"); (case z446_4 => kernel_rfl); (case z446_5 => walk_at "pa"); (case z446_7 => exact ⟨_, fun _ => rfl⟩); (case z446_8 => rfl); (case z446_9 => rfl); (case z446_10 => (intro; rfl))) | fail "no")
  apply c_oldest g h' hl
  intro k k0 k8
  refine ⟨_, by walk_at "lput", ?_⟩
  (first | ((with_reducible refine' hs_setitemp ?z447_1 ?z447_2 ?z447_3 ?z447_4 ?z447_5 ?z447_6); (case z447_1 => walk_at "pv"); (case z447_2 => walk_at "pv"); (case z447_3 => walk_at "pv"); (case z447_4 => first | ((with_reducible refine' iset_ints ?z447_1 ?z447_2 ?z447_3); (case z447_1 => walk_at "hp"); (case z447_2 => (first | assumption | lia)); (case z447_3 => (first | assumption | lia))) | ((refine' ISet.dict ?z447_1 ?z447_2); (case z447_1 => walk_at "hp"); (case z447_2 => walk_at "put"))); (case z447_6 => (intro; rfl))) | fail "no")
  (first | ((with_reducible refine' hs_methp ?z448_1 ?z448_2 ?z448_3 ?z448_4 ?z448_5 ?z448_6 ?z448_7 ?z448_8 ?z448_9 ?z448_10 ?z448_11); (case z448_1 => walk_at "pv"); (case z448_2 => walk_at "inst"); (case z448_3 => walk_at "meth"); (case z448_4 => kernel_rfl); (case z448_5 => walk_at "pa"); (case z448_7 => exact ⟨_, fun _ => rfl⟩); (case z448_8 => rfl); (case z448_9 => rfl); (case z448_10 => exact interactive_no); (case z448_11 => (intro; rfl))) | fail "no")
  apply c_use (v := { v with starts := v.starts.set k.toNat st }) g
  · refine ⟨?_, ?_, ?_, ?_, su⟩ <;> ((try dsimp only); walk_at "hp")
  · exact k0
  · show k < v.used.length; lia
  · intro σ' hn hkp
    refine ⟨rfl, ?_⟩
    (first | ((with_reducible refine' hs_retp ?z449_1 ?z449_2); (case z449_1 => walk_at "pv")) | fail "no")
    exact p k σ' k0 k8 hn ((Kp.upd (.tail _ (.head _))).trans hkp)
end

section
structure Bn (σ0 σ : MH) (d c f : Nat) (k : Int) (ns : List Int) : Prop where
  dk : Dk σ d c k
  fv : σ f = some (.list (ns.map MV.int))
  kp : Kp [d] σ0 σ
  fd : f ≠ d
  fc : f ≠ c
theorem nin1 {a b : Nat} (h : a ≠ b) : a ∉ [b] := fun z => h (List.mem_singleton.mp z)
theorem Bn.new {σ0 σ d c f k ns l o} (h : Bn σ0 σ d c f k ns) (hl : σ l = none) : Bn σ0 (upd σ l o) d c f k ns :=
  ⟨h.dk.kp (S := []) (.new hl) (fun z => absurd z List.not_mem_nil) (fun z => absurd z List.not_mem_nil), Kp.new (S := []) hl _ _ (fun z => absurd z List.not_mem_nil) h.fv, h.kp.trans (.new hl), h.fd, h.fc⟩
theorem Dk.le {σ d c} {k k' : Int} (h : Dk σ d c k) (hk : k ≤ k') : Dk σ d c k' := by
  obtain ⟨a, cells, e1, e2, e3, e4, r⟩ := h
  exact ⟨a, cells, e1, e2, e3, by lia, r⟩
theorem bn_draw (g : Gp) {n : Nat} {σ0 σ d c f} {k below : Int} {ns} {Q : MV → MH → Prop} {X : MX → MH → Prop} (h : Bn σ0 σ d c f k ns) (hk : k < 1000) (hb : 0 < below)
    (p : ∀ v σ', 0 ≤ v → v < below → Bn σ0 σ' d c f (k + 1) ns → (∀ l o, l ≠ d → σ l = some o → σ' l = some o) → Q (.int v) σ') : HC (Gd g) (n + 1) (.ref 492) [.loc d, .int below] σ Q X :=
  HCc.hc (c_law_draw g (n := n) h.dk hk hb fun v σ' v0 v1 hd kp => p v σ' v0 v1 ⟨hd, kp _ _ (nin1 h.fd) h.fv, h.kp.trans kp, h.fd, h.fc⟩ fun l o hl e => kp _ _ (nin1 hl) e)
theorem he_pick {G : Gl} {F : Fx} {ρ : Loc} {X : MX → MH → Prop} {σ0 σ d c f} {k : Int} {ns} {o i : Expr} {pos : Pos} {ms : List Int} {Q : MV → MH → Prop} (h : Bn σ0 σ d c f k ns)
    (ho : ∀ Q' : MV → MH → Prop, (∀ l, σ l = none → Q' (.loc l) (upd σ l (.list (ms.map MV.int)))) → HE G F ρ σ o Q' X)
    (hi : ∀ σ1 (Q' : MV → MH → Prop), Bn σ0 σ1 d c f k ns → (∀ (v : Int) σ', 0 ≤ v → v < ms.length → Bn σ0 σ' d c f (k + 1) ns → (∀ l o, l ≠ d → σ1 l = some o → σ' l = some o) → Q' (.int v) σ') → HE G F ρ σ1 i Q' X)
    (hs : ∀ a b, subscripted i false a b = operate [a, b] (getItem a b)) (q : ∀ x σ', x ∈ ms → Bn σ0 σ' d c f (k + 1) ns → Q (.int x) σ') : HE G F ρ σ (.Subscript o i pos) Q X := by
  refine he_sub (ho _ fun l hl => hi _ _ (h.new hl) fun v σ' v0 v1 hB kk => ?_) hs
  have nld : l ≠ d := fun z => by
    subst z; obtain ⟨a, cells, e1, r⟩ := h.dk; rw [hl] at e1; cases e1
  refine ⟨_, sub_ints (kk _ _ nld upd_same) v0 v1, q _ _ ?_ hB⟩
  have hv : v.toNat < ms.length := by lia
  rw [List.getD, List.getElem?_eq_getElem hv]; exact List.getElem_mem hv
noncomputable def OPost (σ : MH) (d c f : Nat) (k : Int) (ns : List Int) (Q : MV → MH → Prop) : Prop := ∀ b σ' e, Dk σ' d c k → σ' f = some (.list ((ns ++ e).map MV.int)) → Oct e → e.length ≤ 4 → Kp [d, f] σ σ' → Q (.bool b) σ'
theorem Kp.d2 {d f : Nat} {σ σ' : MH} (k : Kp [d] σ σ') : Kp [d, f] σ σ' := k.sub fun i h => by rw [List.mem_singleton.mp h]; exact .head _
theorem Bn.done {σ0 σ d c f} {k k' : Int} {ns e} {Q : MV → MH → Prop} {b : Bool} (h : Bn σ0 σ d c f k ns) (p : OPost σ0 d c f k' ns Q) (hk : k ≤ k') (ho : Oct e) (hz : e.length ≤ 4) : Q (.bool b) (upd σ f (.list ((ns ++ e).map MV.int))) := by
  refine p b _ e ?_ upd_same ho hz (h.kp.d2.trans (.upd (.tail _ (.head _))))
  exact (h.dk.kp (S := [f]) (.upd (.head _)) (nin1 h.fd.symm) (nin1 h.fc.symm)).le hk
theorem oct1 {a : Int} (h : 0 ≤ a ∧ a < 256) : Oct [a] := Oct.cons h .nil
theorem oct2 {a b : Int} (h : 0 ≤ a ∧ a < 256) (h' : 0 ≤ b ∧ b < 256) : Oct [a, b] := Oct.cons h (oct1 h')
theorem oct3 {a b c : Int} (h : 0 ≤ a ∧ a < 256) (h' : 0 ≤ b ∧ b < 256) (h'' : 0 ≤ c ∧ c < 256) : Oct [a, b, c] := Oct.cons h (oct2 h' h'')
theorem bn_app {G : Gl} {F : Fx} {ρ : Loc} {X : MX → MH → Prop} {Q : MFlow → Loc → MH → Prop} {rest : List Stmt} {o e : Expr} {apos pos epos : Pos} {σ0 σ d c f} {k : Int} {ns} (h : Bn σ0 σ d c f k ns) (hz : ns.length < 60000) (ho : PV G F ρ σ o (.loc f))
    (he : HE G F ρ σ e (fun v σ1 => ∃ (x k' : Int), v = .int x ∧ Bn σ0 σ1 d c f k' ns ∧ HS G F ρ (upd σ1 f (.list ((ns ++ [x]).map MV.int))) rest Q X) X) (ht : MethTree o "append" apos pos [e]) (hn : notStar e = true)
    (hs : ∀ env, swapsWith (.Call (.Attribute o "append" apos) [e] [] pos) none epos.line env = pure false) : HS G F ρ σ (.Expr (.Call (.Attribute o "append" apos) [e] [] pos) epos :: rest) Q X :=
  hs_append1 ho h.fv (HT.weaken he (fun v σ1 q => by obtain ⟨x, k', e1, hB, kk⟩ := q; exact ⟨ns, x, e1, hB.fv, by lia, kk⟩) fun _ _ z => z) ht hn interactive_no hs
theorem bn_ext {G : Gl} {F : Fx} {ρ : Loc} {X : MX → MH → Prop} {Q : MFlow → Loc → MH → Prop} {rest : List Stmt} {o : Expr} {es : List Expr} {apos lpos pos epos : Pos} {σ0 σ d c f} {k : Int} {ns} (h : Bn σ0 σ d c f k ns) (hz : ns.length < 60000) (ho : PV G F ρ σ o (.loc f))
    (he : HA G F ρ σ es (fun vs σ1 => ∃ (xs : List Int) (k' : Int), vs = xs.map MV.int ∧ xs.length ≤ 4 ∧ Bn σ0 σ1 d c f k' ns ∧ ∀ σ2, Bn σ0 σ2 d c f k' ns → HS G F ρ (upd σ2 f (.list ((ns ++ xs).map MV.int))) rest Q X) X) (ht : MethTree o "extend" apos pos [.List es lpos])
    (hs : ∀ env, swapsWith (.Call (.Attribute o "extend" apos) [.List es lpos] [] pos) none epos.line env = pure false) : HS G F ρ σ (.Expr (.Call (.Attribute o "extend" apos) [.List es lpos] [] pos) epos :: rest) Q X := by
  refine hs_extend1 ho h.fv (he_list fun pos' => HT.weaken (he pos') (fun vs σ1 q => ?_) fun _ _ z => z) ht rfl interactive_no hs
  obtain ⟨xs, k', rfl, hx, hB, kk⟩ := q
  exact ⟨by simpa using Nat.le_trans hx (by decide), fun l hl => ⟨l, ns, xs, rfl, (hB.new hl).fv, upd_same, ne_fresh hl hB.fv, by lia, kk _ (hB.new hl)⟩⟩
theorem lu_ok : ∀ x ∈ lunits, 0 ≤ x ∧ x < 65536 := by decide
theorem li_ok : ∀ x ∈ lindexes, 0 ≤ x ∧ x < 256 := by decide
theorem he_units (g : Gp) {n : Nat} {F : Fx} {ρ : Loc} {X : MX → MH → Prop} {σ0 σ d c f} {k : Int} {ns} {o i : Expr} {pos : Pos} {Q : MV → MH → Prop} (h : Bn σ0 σ d c f k ns)
    (ho : ∀ Q' : MV → MH → Prop, HC (Gd g) (n + 1) (.ref 479) [] σ Q' X → HE (Gd g) F ρ σ o Q' X)
    (hi : ∀ σ1 (Q' : MV → MH → Prop), HC (Gd g) (n + 1) (.ref 492) [.loc d, .int 7] σ1 Q' X → HE (Gd g) F ρ σ1 i Q' X) (hk : k < 1000)
    (hs : ∀ a b, subscripted i false a b = operate [a, b] (getItem a b)) (q : ∀ x σ', 0 ≤ x ∧ x < 65536 → Bn σ0 σ' d c f (k + 1) ns → Q (.int x) σ') : HE (Gd g) F ρ σ (.Subscript o i pos) Q X :=
  he_pick (ms := lunits) h (fun Q' q' => ho _ (HCc.hc (c_law_units g (n := n) q'))) (fun σ1 Q' hB q' => hi _ _ (bn_draw g hB hk (by decide) fun v σ' v0 v1 => q' v σ' v0 v1)) hs fun x σ' hx hB => q x σ' (lu_ok x hx) hB
theorem he_indexes (g : Gp) {n : Nat} {F : Fx} {ρ : Loc} {X : MX → MH → Prop} {σ0 σ d c f} {k : Int} {ns} {o i : Expr} {pos : Pos} {Q : MV → MH → Prop} (h : Bn σ0 σ d c f k ns)
    (ho : ∀ Q' : MV → MH → Prop, HC (Gd g) (n + 1) (.ref 472) [] σ Q' X → HE (Gd g) F ρ σ o Q' X)
    (hi : ∀ σ1 (Q' : MV → MH → Prop), HC (Gd g) (n + 1) (.ref 492) [.loc d, .int 12] σ1 Q' X → HE (Gd g) F ρ σ1 i Q' X) (hk : k < 1000)
    (hs : ∀ a b, subscripted i false a b = operate [a, b] (getItem a b)) (q : ∀ x σ', 0 ≤ x ∧ x < 256 → Bn σ0 σ' d c f (k + 1) ns → Q (.int x) σ') : HE (Gd g) F ρ σ (.Subscript o i pos) Q X :=
  he_pick (ms := lindexes) h (fun Q' q' => ho _ (HCc.hc (c_law_indexes g (n := n) q'))) (fun σ1 Q' hB q' => hi _ _ (bn_draw g hB hk (by decide) fun v σ' v0 v1 => q' v σ' v0 v1)) hs fun x σ' hx hB => q x σ' (li_ok x hx) hB
theorem he_octs (g : Gp) {n : Nat} {F : Fx} {ρ : Loc} {X : MX → MH → Prop} {σ0 σ d c f} {k m : Int} {ns} {o i : Expr} {pos : Pos} {ms : List Int} {Q : MV → MH → Prop} (h : Bn σ0 σ d c f k ns)
    (ho : ∀ Q' : MV → MH → Prop, (∀ l, σ l = none → Q' (.loc l) (upd σ l (.list (ms.map MV.int)))) → HE (Gd g) F ρ σ o Q' X)
    (hi : ∀ σ1 (Q' : MV → MH → Prop), HC (Gd g) (n + 1) (.ref 492) [.loc d, .int m] σ1 Q' X → HE (Gd g) F ρ σ1 i Q' X) (hk : k < 1000) (hm : m = ms.length) (hm0 : 0 < m) (hms : ∀ x ∈ ms, 0 ≤ x ∧ x < 256)
    (hs : ∀ a b, subscripted i false a b = operate [a, b] (getItem a b)) (q : ∀ x σ', 0 ≤ x ∧ x < 256 → Bn σ0 σ' d c f (k + 1) ns → Q (.int x) σ') : HE (Gd g) F ρ σ (.Subscript o i pos) Q X :=
  he_pick (ms := ms) h ho (fun σ1 Q' hB q' => hi _ _ (bn_draw g hB hk hm0 fun v σ' v0 v1 => q' v σ' v0 (hm ▸ v1))) hs fun x σ' hx hB => q x σ' (hms x hx) hB
theorem c_law_wide (g : Gp) {n : Nat} {σ d c f} {k : Int} {ns : List Int} {Q : MV → MH → Prop} {X : MX → MH → Prop} (h : Bn σ σ d c f k ns) (hk : k < 900) (hz : ns.length < 60000) (p : OPost σ d c f (k + 4) ns Q) : HCc (Gd g) (n + 2) (.ref 499) [.loc d, .loc f] σ Q X := by
  apply fn_at 319 [("deck", .loc d), ("found", .loc f)] ["way", "unit"] rfl; kernel_rfl; ((kernel_rfl; (((intro W s av XK h; first | (have e := vreps0 h; subst e; exact ⟨_, BindsTo.of_eq rfl, .nil⟩) | (obtain ⟨v1, e, h1⟩ := vreps1 h; subst e; exact ⟨_, BindsTo.of_eq rfl, .cons h1 .nil⟩) | (obtain ⟨v1, v2, e, h1, h2⟩ := vreps2 h; subst e; exact ⟨_, BindsTo.of_eq rfl, .cons h1 (.cons h2 .nil)⟩) | (obtain ⟨v1, v2, v3, e, h1, h2, h3⟩ := vreps3 h; subst e; exact ⟨_, BindsTo.of_eq rfl, .cons h1 (.cons h2 (.cons h3 .nil))⟩) | (obtain ⟨v1, v2, v3, v4, e, h1, h2, h3, h4⟩ := vreps4 h; subst e; exact ⟨_, BindsTo.of_eq rfl, .cons h1 (.cons h2 (.cons h3 (.cons h4 .nil)))⟩) | (obtain ⟨v1, v2, v3, v4, v5, e, h1, h2, h3, h4, h5⟩ := vreps5 h; subst e; exact ⟨_, BindsTo.of_eq rfl, .cons h1 (.cons h2 (.cons h3 (.cons h4 (.cons h5 .nil))))⟩)))); ((focus ((repeat (with_reducible first | exact L0.nil | apply L0.oth | apply L0.bind)); done))); ((focus ((repeat (with_reducible first | exact Nm.nil | apply Nm.cons)); done))); decide +kernel; decide +kernel; rfl; rfl; rfl; rfl))
  (first | ((with_reducible refine' hs_assign_call ?z468_1 ?z468_2 ?z468_3 ?z468_4 ?z468_5 ?z468_6 ?z468_7); (case z468_1 => walk_at "pv"); (case z468_2 => walk_at "pa"); (case z468_4 => walk_at "keeps"); (case z468_5 => rfl); (case z468_6 => rfl); (case z468_7 => (intro; rfl))) | fail "no")
  refine bn_draw g (n := n) h (by lia) (by decide) fun way σ1 w0 w1 h1 _ => ⟨_, by walk_at "lput", ?_⟩
  (first | ((with_reducible refine' hs_ifp ?z469_1 ?z469_2 ?z469_3); (case z469_1 => walk_at "pb")) | fail "no")
  · intro hc
    refine hs_assign (he_units g (n := n) h1 (fun Q' q' => ?_) (fun σ1 Q' q' => ?_) (by lia) (by intros; rfl) fun U σ2 hU h2 => ⟨_, by walk_at "lput", ?_⟩) (by intro; rfl)
    · (first | ((with_reducible refine' he_callp ?z470_1 ?z470_2 ?z470_3 ?z470_4 ?z470_5 ?z470_6); (case z470_1 => walk_at "pv"); (case z470_2 => walk_at "pa"); (case z470_4 => walk_at "keeps"); (case z470_5 => rfl); (case z470_6 => rfl)) | fail "no"); exact q'
    · (first | ((with_reducible refine' he_callp ?z471_1 ?z471_2 ?z471_3 ?z471_4 ?z471_5 ?z471_6); (case z471_1 => walk_at "pv"); (case z471_2 => walk_at "pa"); (case z471_4 => walk_at "keeps"); (case z471_5 => rfl); (case z471_6 => rfl)) | fail "no"); exact q'
    refine hs_extend1 (by walk_at "pv") h2.fv (he_addl ?_) ⟨_, fun _ => rfl⟩ rfl interactive_no (by intro; rfl)
    refine HT.weaken (Q := fun v σ4 => ∃ (a : List Int) (l : Nat), Oct a ∧ a.length ≤ 1 ∧ v = .loc l ∧ σ2 l = none ∧ σ4 = upd σ2 l (.list (a.map MV.int))) (X := X) ?_ (fun v σ4 q => ?_) fun _ _ z => z
    · refine he_ifexpp (by walk_at "pb") (fun _ => ?_) fun _ => ?_
      · refine he_list_int (ns := [240]) ?_ (by decide) fun l hl => ⟨[240], l, oct1 (by decide), by decide, rfl, hl, rfl⟩
        walk_at "pai"
      · exact he_list_int (ns := []) .nil (by decide) fun l hl => ⟨[], l, .nil, by decide, rfl, hl, rfl⟩
    obtain ⟨a, l, ha, hal, rfl, hl, rfl⟩ := q
    refine he_list_int (ns := [U / 256, U % 256]) ?_ (Nat.le_of_ble_eq_true rfl) fun l2 hl2 => ?_
    · walk_at "pai"
    have B3 : Bn σ (upd σ2 l (.list (a.map MV.int))) d c f (k + 1 + 1) ns := h2.new hl
    have B4 : Bn σ (upd (upd σ2 l (.list (a.map MV.int))) l2 (.list ([U / 256, U % 256].map MV.int))) d c f (k + 1 + 1) ns := B3.new hl2
    have n21 : l ≠ l2 := fun z => by rw [z, upd_same] at hl2; cases hl2
    refine ⟨l, l2, a.map MV.int, [U / 256, U % 256].map MV.int, rfl, rfl, by rw [upd_other n21]; exact upd_same, upd_same, by simp; lia, fun m hm => ?_⟩
    have B5 := B4.new (o := .list (a.map MV.int ++ [U / 256, U % 256].map MV.int)) hm
    refine ⟨m, ns, a ++ [U / 256, U % 256], rfl, B5.fv, by rw [List.map_append]; exact upd_same, ne_fresh hm B4.fv, by simp; lia, ?_⟩
    (first | ((with_reducible refine' hs_retp ?z472_1 ?z472_2); (case z472_1 => walk_at "pv")) | fail "no")
    exact B5.done p (by lia) (ha.app (oct2 (by lia) (by lia))) (by simp; lia)
  · intro hc; (try (with_reducible refine' hs_endN ?_))
    (first | ((with_reducible refine' hs_ifp ?z474_1 ?z474_2 ?z474_3); (case z474_1 => walk_at "pb")) | fail "no")
    · intro hc2
      refine bn_app h1 hz (by walk_at "pv") (he_bin (he_pv (by walk_at "pv") ?_)) ⟨_, fun _ => rfl⟩ rfl (by intro; rfl)
      (first | ((with_reducible refine' he_callp ?z475_1 ?z475_2 ?z475_3 ?z475_4 ?z475_5 ?z475_6); (case z475_1 => walk_at "pv"); (case z475_2 => walk_at "pa"); (case z475_4 => walk_at "keeps"); (case z475_5 => rfl); (case z475_6 => rfl)) | fail "no")
      refine bn_draw g (n := n) h1 (by lia) (by decide) fun x σ2 x0 x1 h2 _ => ⟨_, Bin.add _ _, _, _, rfl, h2, ?_⟩
      (first | ((with_reducible refine' hs_retp ?z476_1 ?z476_2); (case z476_1 => walk_at "pv")) | fail "no")
      exact h2.done p (by lia) (oct1 (by lia)) (by simp)
    · intro hc2; (try (with_reducible refine' hs_endN ?_))
      (first | ((with_reducible refine' hs_ifp ?z478_1 ?z478_2 ?z478_3); (case z478_1 => walk_at "pb")) | fail "no")
      · intro hc3
        refine bn_ext h1 hz (by walk_at "pv") (ha_cons (he_bin (he_pv (by walk_at "pv") ?_)) rfl) ⟨_, fun _ => rfl⟩ (by intro; rfl)
        (first | ((with_reducible refine' he_callp ?z479_1 ?z479_2 ?z479_3 ?z479_4 ?z479_5 ?z479_6); (case z479_1 => walk_at "pv"); (case z479_2 => walk_at "pa"); (case z479_4 => walk_at "keeps"); (case z479_5 => rfl); (case z479_6 => rfl)) | fail "no")
        refine bn_draw g (n := n) h1 (by lia) (by decide) fun x σ2 x0 x1 h2 _ => ⟨_, Bin.add _ _, ?_⟩
        refine ha_cons (he_indexes g (n := n) h2 (fun Q' q' => ?_) (fun σ1 Q' q' => ?_) (by lia) (by intros; rfl) fun y σ3 hy h3 => ha_nil ⟨[232 + x, y], _, rfl, by simp, h3, fun σ4 h4 => ?_⟩) rfl
        · (first | ((with_reducible refine' he_callp ?z480_1 ?z480_2 ?z480_3 ?z480_4 ?z480_5 ?z480_6); (case z480_1 => walk_at "pv"); (case z480_2 => walk_at "pa"); (case z480_4 => walk_at "keeps"); (case z480_5 => rfl); (case z480_6 => rfl)) | fail "no"); exact q'
        · (first | ((with_reducible refine' he_callp ?z481_1 ?z481_2 ?z481_3 ?z481_4 ?z481_5 ?z481_6); (case z481_1 => walk_at "pv"); (case z481_2 => walk_at "pa"); (case z481_4 => walk_at "keeps"); (case z481_5 => rfl); (case z481_6 => rfl)) | fail "no"); exact q'
        (first | ((with_reducible refine' hs_retp ?z482_1 ?z482_2); (case z482_1 => walk_at "pv")) | fail "no")
        exact h4.done p (by lia) (oct2 (by lia) hy) (by simp)
      · intro hc3; (try (with_reducible refine' hs_endN ?_))
        (first | ((with_reducible refine' hs_ifp ?z484_1 ?z484_2 ?z484_3); (case z484_1 => walk_at "pb")) | fail "no")
        · intro hc4
          refine bn_ext h1 hz (by walk_at "pv") (ha_cons (he_pv (by walk_at "pv") (ha_cons ?_ rfl)) rfl) ⟨_, fun _ => rfl⟩ (by intro; rfl)
          (first | ((with_reducible refine' he_callp ?z485_1 ?z485_2 ?z485_3 ?z485_4 ?z485_5 ?z485_6); (case z485_1 => walk_at "pv"); (case z485_2 => walk_at "pa"); (case z485_4 => walk_at "keeps"); (case z485_5 => rfl); (case z485_6 => rfl)) | fail "no")
          refine bn_draw g (n := n) h1 (by lia) (by decide) fun x σ2 x0 x1 h2 _ => ha_cons ?_ rfl
          (first | ((with_reducible refine' he_callp ?z486_1 ?z486_2 ?z486_3 ?z486_4 ?z486_5 ?z486_6); (case z486_1 => walk_at "pv"); (case z486_2 => walk_at "pa"); (case z486_4 => walk_at "keeps"); (case z486_5 => rfl); (case z486_6 => rfl)) | fail "no")
          refine bn_draw g (n := n) h2 (by lia) (by decide) fun y σ3 y0 y1 h3 _ => ha_nil ⟨[241, x, y], _, rfl, by simp, h3, fun σ4 h4 => ?_⟩
          (first | ((with_reducible refine' hs_retp ?z487_1 ?z487_2); (case z487_1 => walk_at "pv")) | fail "no")
          exact h4.done p (by lia) (oct3 (by lia) ⟨x0, x1⟩ ⟨y0, y1⟩) (by simp)
        · intro hc4; (try (with_reducible refine' hs_endN ?_))
          (first | ((with_reducible refine' hs_ifp ?z489_1 ?z489_2 ?z489_3); (case z489_1 => walk_at "pb")) | fail "no")
          · intro hc5
            refine bn_ext h1 hz (by walk_at "pv") (ha_cons (he_octs g (n := n) (ms := [242, 255]) h1 (fun Q' q' => ?_) (fun σ1 Q' q' => ?_) (by lia) rfl (by decide) (by decide) (by intros; rfl) fun y σ3 hy h3 => ha_cons ?_ rfl) rfl) ⟨_, fun _ => rfl⟩ (by intro; rfl)
            · refine he_list_int (ns := [242, 255]) ?_ (by decide) q'
              walk_at "pai"
            · (first | ((with_reducible refine' he_callp ?z490_1 ?z490_2 ?z490_3 ?z490_4 ?z490_5 ?z490_6); (case z490_1 => walk_at "pv"); (case z490_2 => walk_at "pa"); (case z490_4 => walk_at "keeps"); (case z490_5 => rfl); (case z490_6 => rfl)) | fail "no"); exact q'
            (first | ((with_reducible refine' he_callp ?z491_1 ?z491_2 ?z491_3 ?z491_4 ?z491_5 ?z491_6); (case z491_1 => walk_at "pv"); (case z491_2 => walk_at "pa"); (case z491_4 => walk_at "keeps"); (case z491_5 => rfl); (case z491_6 => rfl)) | fail "no")
            refine bn_draw g (n := n) h3 (by lia) (by decide) fun x σ2 x0 x1 h2 _ => ha_nil ⟨[y, x], _, rfl, by simp, h2, fun σ4 h4 => ?_⟩
            (first | ((with_reducible refine' hs_retp ?z492_1 ?z492_2); (case z492_1 => walk_at "pv")) | fail "no")
            exact h4.done p (by lia) (oct2 hy ⟨x0, x1⟩) (by simp)
          · intro hc5; (try (with_reducible refine' hs_endN ?_))
            refine bn_ext h1 hz (by walk_at "pv") (ha_pa (xs := [.int 216, .int 1, .int 220, .int 55]) ?_ ⟨[216, 1, 220, 55], _, rfl, by simp, h1, fun σ4 h4 => ?_⟩) ⟨_, fun _ => rfl⟩ (by intro; rfl)
            · walk_at "pa"
            (first | ((with_reducible refine' hs_retp ?z494_1 ?z494_2); (case z494_1 => walk_at "pv")) | fail "no")
            exact h4.done p (by lia) ((oct2 (by decide) (by decide)).app (oct2 (by decide) (by decide))) (by simp)
theorem cmp_in_pair {σ} (a b c : Int) : Cmp σ .In (.int a) (.tup [.int b, .int c]) (decide (a = b) || decide (a = c)) := cmp_in2 a b c
theorem c_law_narrow (g : Gp) {n : Nat} {σ d c f} {k : Int} {ns : List Int} {Q : MV → MH → Prop} {X : MX → MH → Prop} (h : Bn σ σ d c f k ns) (hk : k < 900) (hz : ns.length < 60000) (p : OPost σ d c f (k + 4) ns Q) : HCc (Gd g) (n + 2) (.ref 506) [.loc d, .loc f] σ Q X := by
  apply fn_at 324 [("deck", .loc d), ("found", .loc f)] ["way", "unit"] rfl; kernel_rfl; ((kernel_rfl; (((intro W s av XK h; first | (have e := vreps0 h; subst e; exact ⟨_, BindsTo.of_eq rfl, .nil⟩) | (obtain ⟨v1, e, h1⟩ := vreps1 h; subst e; exact ⟨_, BindsTo.of_eq rfl, .cons h1 .nil⟩) | (obtain ⟨v1, v2, e, h1, h2⟩ := vreps2 h; subst e; exact ⟨_, BindsTo.of_eq rfl, .cons h1 (.cons h2 .nil)⟩) | (obtain ⟨v1, v2, v3, e, h1, h2, h3⟩ := vreps3 h; subst e; exact ⟨_, BindsTo.of_eq rfl, .cons h1 (.cons h2 (.cons h3 .nil))⟩) | (obtain ⟨v1, v2, v3, v4, e, h1, h2, h3, h4⟩ := vreps4 h; subst e; exact ⟨_, BindsTo.of_eq rfl, .cons h1 (.cons h2 (.cons h3 (.cons h4 .nil)))⟩) | (obtain ⟨v1, v2, v3, v4, v5, e, h1, h2, h3, h4, h5⟩ := vreps5 h; subst e; exact ⟨_, BindsTo.of_eq rfl, .cons h1 (.cons h2 (.cons h3 (.cons h4 (.cons h5 .nil))))⟩)))); ((focus ((repeat (with_reducible first | exact L0.nil | apply L0.oth | apply L0.bind)); done))); ((focus ((repeat (with_reducible first | exact Nm.nil | apply Nm.cons)); done))); decide +kernel; decide +kernel; rfl; rfl; rfl; rfl))
  (first | ((with_reducible refine' hs_assign_call ?z496_1 ?z496_2 ?z496_3 ?z496_4 ?z496_5 ?z496_6 ?z496_7); (case z496_1 => walk_at "pv"); (case z496_2 => walk_at "pa"); (case z496_4 => walk_at "keeps"); (case z496_5 => rfl); (case z496_6 => rfl); (case z496_7 => (intro; rfl))) | fail "no")
  refine bn_draw g (n := n) h (by lia) (by decide) fun way σ1 w0 w1 h1 _ => ⟨_, by walk_at "lput", ?_⟩
  (first | ((with_reducible refine' hs_ifp ?z497_1 ?z497_2 ?z497_3); (case z497_1 => walk_at "pb")) | fail "no")
  · intro hc
    refine bn_app h1 hz (by walk_at "pv") (he_octs g (n := n) (ms := [65, 127, 0, 9, 10, 13]) h1 (fun Q' q' => ?_) (fun σ1 Q' q' => ?_) (by lia) rfl (by decide) (by decide) (by intros; rfl) fun y σ3 hy h3 => ⟨y, _, rfl, h3, ?_⟩) ⟨_, fun _ => rfl⟩ rfl (by intro; rfl)
    · refine he_list_int (ns := [65, 127, 0, 9, 10, 13]) ?_ (by decide) q'
      walk_at "pai"
    · (first | ((with_reducible refine' he_callp ?z498_1 ?z498_2 ?z498_3 ?z498_4 ?z498_5 ?z498_6); (case z498_1 => walk_at "pv"); (case z498_2 => walk_at "pa"); (case z498_4 => walk_at "keeps"); (case z498_5 => rfl); (case z498_6 => rfl)) | fail "no"); exact q'
    (((repeat (with_reducible first | refine' hs_endN ?_ | refine' hs_nil ?_)); first | assumption | skip))
    (first | ((with_reducible refine' hs_retp ?z500_1 ?z500_2); (case z500_1 => walk_at "pv")) | fail "no")
    exact h3.done p (by lia) (oct1 hy) (by simp)
  · intro hc; (try (with_reducible refine' hs_endN ?_))
    (first | ((with_reducible refine' hs_ifp ?z502_1 ?z502_2 ?z502_3); (case z502_1 => walk_at "pb")) | fail "no")
    · intro hc1
      refine bn_app h1 hz (by walk_at "pv") (he_bin (he_pv (by walk_at "pv") ?_)) ⟨_, fun _ => rfl⟩ rfl (by intro; rfl)
      (first | ((with_reducible refine' he_callp ?z503_1 ?z503_2 ?z503_3 ?z503_4 ?z503_5 ?z503_6); (case z503_1 => walk_at "pv"); (case z503_2 => walk_at "pa"); (case z503_4 => walk_at "keeps"); (case z503_5 => rfl); (case z503_6 => rfl)) | fail "no")
      refine bn_draw g (n := n) h1 (by lia) (by decide) fun x σ2 x0 x1 h2 _ => ⟨_, Bin.add _ _, _, _, rfl, h2, ?_⟩
      (((repeat (with_reducible first | refine' hs_endN ?_ | refine' hs_nil ?_)); first | assumption | skip))
      (first | ((with_reducible refine' hs_retp ?z505_1 ?z505_2); (case z505_1 => walk_at "pv")) | fail "no")
      exact h2.done p (by lia) (oct1 (by lia)) (by simp)
    · intro hc1; (try (with_reducible refine' hs_endN ?_))
      (first | ((with_reducible refine' hs_ifp ?z507_1 ?z507_2 ?z507_3); (case z507_1 => walk_at "pb")) | fail "no")
      · intro hc2
        refine bn_ext h1 hz (by walk_at "pv") (ha_cons (he_bin (he_pv (by walk_at "pv") ?_)) rfl) ⟨_, fun _ => rfl⟩ (by intro; rfl)
        (first | ((with_reducible refine' he_callp ?z508_1 ?z508_2 ?z508_3 ?z508_4 ?z508_5 ?z508_6); (case z508_1 => walk_at "pv"); (case z508_2 => walk_at "pa"); (case z508_4 => walk_at "keeps"); (case z508_5 => rfl); (case z508_6 => rfl)) | fail "no")
        refine bn_draw g (n := n) h1 (by lia) (by decide) fun x σ2 x0 x1 h2 _ => ⟨_, Bin.add _ _, ha_cons ?_ rfl⟩
        (first | ((with_reducible refine' he_callp ?z509_1 ?z509_2 ?z509_3 ?z509_4 ?z509_5 ?z509_6); (case z509_1 => walk_at "pv"); (case z509_2 => walk_at "pa"); (case z509_4 => walk_at "keeps"); (case z509_5 => rfl); (case z509_6 => rfl)) | fail "no")
        refine bn_draw g (n := n) h2 (by lia) (by decide) fun y σ3 y0 y1 h3 _ => ha_nil ⟨[1 + x, y], _, rfl, by simp, h3, fun σ4 h4 => ?_⟩
        (((repeat (with_reducible first | refine' hs_endN ?_ | refine' hs_nil ?_)); first | assumption | skip))
        (first | ((with_reducible refine' hs_retp ?z511_1 ?z511_2); (case z511_1 => walk_at "pv")) | fail "no")
        exact h4.done p (by lia) (oct2 (by lia) ⟨y0, y1⟩) (by simp)
      · intro hc2; (try (with_reducible refine' hs_endN ?_))
        (first | ((with_reducible refine' hs_ifp ?z513_1 ?z513_2 ?z513_3); (case z513_1 => walk_at "pb")) | fail "no")
        · intro hc3
          refine hs_assign (he_units g (n := n) h1 (fun Q' q' => ?_) (fun σ1 Q' q' => ?_) (by lia) (by intros; rfl) fun U σ2 hU h2 => ⟨_, by walk_at "lput", ?_⟩) (by intro; rfl)
          · (first | ((with_reducible refine' he_callp ?z514_1 ?z514_2 ?z514_3 ?z514_4 ?z514_5 ?z514_6); (case z514_1 => walk_at "pv"); (case z514_2 => walk_at "pa"); (case z514_4 => walk_at "keeps"); (case z514_5 => rfl); (case z514_6 => rfl)) | fail "no"); exact q'
          · (first | ((with_reducible refine' he_callp ?z515_1 ?z515_2 ?z515_3 ?z515_4 ?z515_5 ?z515_6); (case z515_1 => walk_at "pv"); (case z515_2 => walk_at "pa"); (case z515_4 => walk_at "keeps"); (case z515_5 => rfl); (case z515_6 => rfl)) | fail "no"); exact q'
          refine bn_ext h2 hz (by walk_at "pv") (ha_pa (xs := [.int 14, .int (U / 256), .int (U % 256)]) ?_ ⟨[14, U / 256, U % 256], _, rfl, by simp, h2, fun σ4 h4 => ?_⟩) ⟨_, fun _ => rfl⟩ (by intro; rfl)
          · walk_at "pa"
          (((repeat (with_reducible first | refine' hs_endN ?_ | refine' hs_nil ?_)); first | assumption | skip))
          (first | ((with_reducible refine' hs_retp ?z517_1 ?z517_2); (case z517_1 => walk_at "pv")) | fail "no")
          exact h4.done p (by lia) (oct3 (by decide) (by lia) (by lia)) (by simp)
        · intro hc3; (try (with_reducible refine' hs_endN ?_))
          (first | ((with_reducible refine' hs_ifp ?z519_1 ?z519_2 ?z519_3); (case z519_1 => walk_at "pb")) | fail "no")
          · intro hc4
            refine bn_app h1 hz (by walk_at "pv") (he_bin (he_pv (by walk_at "pv") ?_)) ⟨_, fun _ => rfl⟩ rfl (by intro; rfl)
            (first | ((with_reducible refine' he_callp ?z520_1 ?z520_2 ?z520_3 ?z520_4 ?z520_5 ?z520_6); (case z520_1 => walk_at "pv"); (case z520_2 => walk_at "pa"); (case z520_4 => walk_at "keeps"); (case z520_5 => rfl); (case z520_6 => rfl)) | fail "no")
            refine bn_draw g (n := n) h1 (by lia) (by decide) fun x σ2 x0 x1 h2 _ => ⟨_, Bin.add _ _, _, _, rfl, h2, ?_⟩
            (((repeat (with_reducible first | refine' hs_endN ?_ | refine' hs_nil ?_)); first | assumption | skip))
            (first | ((with_reducible refine' hs_retp ?z522_1 ?z522_2); (case z522_1 => walk_at "pv")) | fail "no")
            exact h2.done p (by lia) (oct1 (by lia)) (by simp)
          · intro hc4; (try (with_reducible refine' hs_endN ?_))
            (first | ((with_reducible refine' hs_ifp ?z524_1 ?z524_2 ?z524_3); (case z524_1 => walk_at "pb")) | fail "no")
            · intro hc5
              refine bn_ext h1 hz (by walk_at "pv") (ha_cons (he_bin (he_pv (by walk_at "pv") ?_)) rfl) ⟨_, fun _ => rfl⟩ (by intro; rfl)
              (first | ((with_reducible refine' he_callp ?z525_1 ?z525_2 ?z525_3 ?z525_4 ?z525_5 ?z525_6); (case z525_1 => walk_at "pv"); (case z525_2 => walk_at "pa"); (case z525_4 => walk_at "keeps"); (case z525_5 => rfl); (case z525_6 => rfl)) | fail "no")
              refine bn_draw g (n := n) h1 (by lia) (by decide) fun x σ2 x0 x1 h2 _ => ⟨_, Bin.add _ _, ?_⟩
              refine ha_cons (he_indexes g (n := n) h2 (fun Q' q' => ?_) (fun σ1 Q' q' => ?_) (by lia) (by intros; rfl) fun y σ3 hy h3 => ha_nil ⟨[24 + x, y], _, rfl, by simp, h3, fun σ4 h4 => ?_⟩) rfl
              · (first | ((with_reducible refine' he_callp ?z526_1 ?z526_2 ?z526_3 ?z526_4 ?z526_5 ?z526_6); (case z526_1 => walk_at "pv"); (case z526_2 => walk_at "pa"); (case z526_4 => walk_at "keeps"); (case z526_5 => rfl); (case z526_6 => rfl)) | fail "no"); exact q'
              · (first | ((with_reducible refine' he_callp ?z527_1 ?z527_2 ?z527_3 ?z527_4 ?z527_5 ?z527_6); (case z527_1 => walk_at "pv"); (case z527_2 => walk_at "pa"); (case z527_4 => walk_at "keeps"); (case z527_5 => rfl); (case z527_6 => rfl)) | fail "no"); exact q'
              (((repeat (with_reducible first | refine' hs_endN ?_ | refine' hs_nil ?_)); first | assumption | skip))
              (first | ((with_reducible refine' hs_retp ?z529_1 ?z529_2); (case z529_1 => walk_at "pv")) | fail "no")
              exact h4.done p (by lia) (oct2 (by lia) hy) (by simp)
            · intro hc5; (try (with_reducible refine' hs_endN ?_))
              (first | ((with_reducible refine' hs_ifp ?z531_1 ?z531_2 ?z531_3); (case z531_1 => walk_at "pb")) | fail "no")
              · intro hc6
                refine bn_ext h1 hz (by walk_at "pv") (ha_cons (he_pv (by walk_at "pv") (ha_cons ?_ rfl)) rfl) ⟨_, fun _ => rfl⟩ (by intro; rfl)
                (first | ((with_reducible refine' he_callp ?z532_1 ?z532_2 ?z532_3 ?z532_4 ?z532_5 ?z532_6); (case z532_1 => walk_at "pv"); (case z532_2 => walk_at "pa"); (case z532_4 => walk_at "keeps"); (case z532_5 => rfl); (case z532_6 => rfl)) | fail "no")
                refine bn_draw g (n := n) h1 (by lia) (by decide) fun x σ2 x0 x1 h2 _ => ha_cons ?_ rfl
                (first | ((with_reducible refine' he_callp ?z533_1 ?z533_2 ?z533_3 ?z533_4 ?z533_5 ?z533_6); (case z533_1 => walk_at "pv"); (case z533_2 => walk_at "pa"); (case z533_4 => walk_at "keeps"); (case z533_5 => rfl); (case z533_6 => rfl)) | fail "no")
                refine bn_draw g (n := n) h2 (by lia) (by decide) fun y σ3 y0 y1 h3 _ => ha_nil ⟨[11, x, y], _, rfl, by simp, h3, fun σ4 h4 => ?_⟩
                (((repeat (with_reducible first | refine' hs_endN ?_ | refine' hs_nil ?_)); first | assumption | skip))
                (first | ((with_reducible refine' hs_retp ?z535_1 ?z535_2); (case z535_1 => walk_at "pv")) | fail "no")
                exact h4.done p (by lia) (oct3 (by lia) ⟨x0, x1⟩ ⟨y0, y1⟩) (by simp)
              · intro hc6; (try (with_reducible refine' hs_endN ?_))
                (first | ((with_reducible refine' hs_ifp ?z537_1 ?z537_2 ?z537_3); (case z537_1 => walk_at "pb")) | fail "no")
                · intro hc7
                  refine bn_app h1 hz (by walk_at "pv") (he_pv (v := .int 15) (by walk_at "pv") ⟨15, _, rfl, h1, ?_⟩) ⟨_, fun _ => rfl⟩ rfl (by intro; rfl)
                  (((repeat (with_reducible first | refine' hs_endN ?_ | refine' hs_nil ?_)); first | assumption | skip))
                  (first | ((with_reducible refine' hs_retp ?z539_1 ?z539_2); (case z539_1 => walk_at "pv")) | fail "no")
                  exact h1.done p (by lia) (oct1 (by decide)) (by simp)
                · intro hc7; (try (with_reducible refine' hs_endN ?_))
                  refine bn_app h1 hz (by walk_at "pv") (he_octs g (n := n) (ms := [12, 31, 255, 14, 65, 66]) h1 (fun Q' q' => ?_) (fun σ1 Q' q' => ?_) (by lia) rfl (by decide) (by decide) (by intros; rfl) fun y σ3 hy h3 => ⟨y, _, rfl, h3, ?_⟩) ⟨_, fun _ => rfl⟩ rfl (by intro; rfl)
                  · refine he_list_int (ns := [12, 31, 255, 14, 65, 66]) ?_ (by decide) q'
                    walk_at "pai"
                  · (first | ((with_reducible refine' he_callp ?z541_1 ?z541_2 ?z541_3 ?z541_4 ?z541_5 ?z541_6); (case z541_1 => walk_at "pv"); (case z541_2 => walk_at "pa"); (case z541_4 => walk_at "keeps"); (case z541_5 => rfl); (case z541_6 => rfl)) | fail "no"); exact q'
                  (((repeat (with_reducible first | refine' hs_endN ?_ | refine' hs_nil ?_)); first | assumption | skip))
                  (first | ((with_reducible refine' hs_retp ?z543_1 ?z543_2); (case z543_1 => walk_at "pv")) | fail "no")
                  exact h3.done p (by lia) (oct1 hy) (by simp)
end

section
theorem c_check (g : Gp) {n : Nat} {σ l} {ns : List Int} {Q : MV → MH → Prop} {X : MX → MH → Prop} (h : σ l = some (.list (ns.map MV.int))) (p : (∀ c ∈ ns, isScalar c = true) → Q .none σ) (px : ∀ c ∈ ns, isScalar c = false → X ⟨57, .int c⟩ σ) : HCc (Gd g) (n + 4) (.ref 101) [.loc l] σ Q X := by
  apply fn_at 50 [("text", .loc l)] ["code"] rfl; kernel_rfl; ((kernel_rfl; (((intro W s av XK h; first | (have e := vreps0 h; subst e; exact ⟨_, BindsTo.of_eq rfl, .nil⟩) | (obtain ⟨v1, e, h1⟩ := vreps1 h; subst e; exact ⟨_, BindsTo.of_eq rfl, .cons h1 .nil⟩) | (obtain ⟨v1, v2, e, h1, h2⟩ := vreps2 h; subst e; exact ⟨_, BindsTo.of_eq rfl, .cons h1 (.cons h2 .nil)⟩) | (obtain ⟨v1, v2, v3, e, h1, h2, h3⟩ := vreps3 h; subst e; exact ⟨_, BindsTo.of_eq rfl, .cons h1 (.cons h2 (.cons h3 .nil))⟩) | (obtain ⟨v1, v2, v3, v4, e, h1, h2, h3, h4⟩ := vreps4 h; subst e; exact ⟨_, BindsTo.of_eq rfl, .cons h1 (.cons h2 (.cons h3 (.cons h4 .nil)))⟩) | (obtain ⟨v1, v2, v3, v4, v5, e, h1, h2, h3, h4, h5⟩ := vreps5 h; subst e; exact ⟨_, BindsTo.of_eq rfl, .cons h1 (.cons h2 (.cons h3 (.cons h4 (.cons h5 .nil))))⟩)))); ((focus ((repeat (with_reducible first | exact L0.nil | apply L0.oth | apply L0.bind)); done))); ((focus ((repeat (with_reducible first | exact Nm.nil | apply Nm.cons)); done))); decide +kernel; decide +kernel; rfl; rfl; rfl; rfl))
  refine hs_for (hi_list (he_pv (v := .loc l) (by walk_at "pv") ⟨l, _, rfl, h, fun i ρ' σ' => σ' = σ ∧ (∀ j x, j < i → ns[j]? = some x → isScalar x = true) ∧ ∃ nv, ρ' = ([("text", some (.loc l)), ("code", nv)] : Loc), ⟨rfl, fun j x hj => absurd hj (Nat.not_lt_zero _), none, rfl⟩, fun _ _ _ z => z.1 ▸ h, ?_, ?_⟩)) (by intros; rfl) rfl rfl
  · rintro i x ρ' σ' hx ⟨rfl, hs, nv, rfl⟩
    rw [List.getElem?_map] at hx
    cases hq : ns[i]? with
    | none => rw [hq] at hx; simp at hx
    | some c =>
      rw [hq] at hx
      simp at hx
      subst hx
      refine ⟨_, .name (by walk_at "lput"), ?_⟩
      (first | ((with_reducible refine' hs_ifp ?z551_1 ?z551_2 ?z551_3); (case z551_1 => walk_at "pb")) | fail "no")
      · intro h1
        (first | (((with_reducible refine' hs_raise ?z552_1 ?z552_2 ?z552_3 ?z552_4 ?z552_5 ?z552_6 ?z552_7 ?z552_8 ?z552_9); (case z552_1 => walk_at "pv"); (case z552_2 => exact xo_57 _); (case z552_3 => exact xi_29 _); (case z552_4 => exact kk_57 _); (case z552_6 => rfl); (case z552_7 => rfl); (case z552_8 => rfl); (case z552_9 => exact Nat.le_add_left _ _)); ((with_reducible refine' he_pv ?z552_1 ?z552_2); (case z552_1 => walk_at "pv"))) | fail "no")
        exact px c (List.mem_of_getElem? hq) (by simpa using h1)
      · intro h1; (try (with_reducible refine' hs_endN ?_))
        refine hs_nil ⟨rfl, fun j x hj hjx => ?_, _, rfl⟩
        rcases Nat.lt_succ_iff_lt_or_eq.mp hj with z | rfl
        · exact hs j x z hjx
        · rw [hq] at hjx; cases hjx; simpa using h1
  · rintro ρ' σ' ⟨rfl, hs, nv, rfl⟩
    refine hs_nil (p fun c hc => ?_)
    obtain ⟨j, hj, e⟩ := List.mem_iff_getElem.mp hc
    refine hs j c (by simpa using hj) (by rw [List.getElem?_eq_getElem hj, e])
noncomputable def pr (p : Int × Int) : MV := .tup [.int p.1, .int p.2]
noncomputable def WinOk (c : Int) (p : Int × Int) : Prop := lawStart p.1 = some p.2 ∧ (0 ≤ p.1 ∧ p.1 < 256) ∧ p.2 ≤ c ∧ c < p.2 + 128
theorem ls_low {i : Int} (h : 1 ≤ i ∧ i ≤ 103) : lawStart i = some (i * 128) := by
  unfold lawStart; rw [if_pos (by simp; exact h)]
theorem ls_mid {i : Int} (h : 104 ≤ i ∧ i ≤ 167) : lawStart i = some (i * 128 + 44032) := by
  unfold lawStart; rw [if_neg (by simp; lia), if_pos (by simp; exact h)]
theorem ls_sp {i : Nat} (h : i < 7) : lawStart (249 + i) = some (specials.getD i 0) := by
  unfold lawStart; rw [if_neg (by simp; lia), if_neg (by simp; lia), if_pos (by simp; lia)]
  rw [show ((249 : Int) + i - 249).toNat = i from by lia]
inductive WiInv (σ : MH) (c : Int) (f l : Nat) (ps : List (Int × Int)) (iv : Option MV) (i : Nat) (ρ' : Loc) (σ' : MH) : Prop
  | mk (qs : List (Int × Int)) (nv sv : Option MV) (h1 : σ' f = some (.list (qs.map pr))) (h2 : σ' l = some (.list (specials.map MV.int))) (h3 : qs.length ≤ 1 + i) (h4 : ∀ q ∈ qs, WinOk c q) (h5 : ps ≠ [] → qs ≠ []) (h6 : Kp [] σ σ')
    (h7 : ρ' = ([("code", some (.int c)), ("found", some (.loc f)), ("index", iv), ("number", nv), ("start", sv)] : Loc)) : WiInv σ c f l ps iv i ρ' σ'
theorem c_window_indexes (g : Gp) {n : Nat} {σ} {c : Int} {Q : MV → MH → Prop} {X : MX → MH → Prop} (hc : 0 ≤ c ∧ c < 2 ^ 40)
    (p : ∀ l σ' (ps : List (Int × Int)), σ l = none → σ' l = some (.list (ps.map pr)) → (∀ q ∈ ps, WinOk c q) → ((128 ≤ c ∧ c < 13312) ∨ (57344 ≤ c ∧ c < 65536) → ps ≠ []) → Kp [] σ σ' → Q (.loc l) σ') : HCc (Gd g) (n + 2) (.ref 137) [.int c] σ Q X := by
  have hc0 := hc.1
  have hc1 := hc.2
  apply fn_at 76 [("code", .int c)] ["found", "index", "number", "start"] rfl; kernel_rfl; ((kernel_rfl; (((intro W s av XK h; first | (have e := vreps0 h; subst e; exact ⟨_, BindsTo.of_eq rfl, .nil⟩) | (obtain ⟨v1, e, h1⟩ := vreps1 h; subst e; exact ⟨_, BindsTo.of_eq rfl, .cons h1 .nil⟩) | (obtain ⟨v1, v2, e, h1, h2⟩ := vreps2 h; subst e; exact ⟨_, BindsTo.of_eq rfl, .cons h1 (.cons h2 .nil)⟩) | (obtain ⟨v1, v2, v3, e, h1, h2, h3⟩ := vreps3 h; subst e; exact ⟨_, BindsTo.of_eq rfl, .cons h1 (.cons h2 (.cons h3 .nil))⟩) | (obtain ⟨v1, v2, v3, v4, e, h1, h2, h3, h4⟩ := vreps4 h; subst e; exact ⟨_, BindsTo.of_eq rfl, .cons h1 (.cons h2 (.cons h3 (.cons h4 .nil)))⟩) | (obtain ⟨v1, v2, v3, v4, v5, e, h1, h2, h3, h4, h5⟩ := vreps5 h; subst e; exact ⟨_, BindsTo.of_eq rfl, .cons h1 (.cons h2 (.cons h3 (.cons h4 (.cons h5 .nil))))⟩)))); ((focus ((repeat (with_reducible first | exact L0.nil | apply L0.oth | apply L0.bind)); done))); ((focus ((repeat (with_reducible first | exact Nm.nil | apply Nm.cons)); done))); decide +kernel; decide +kernel; rfl; rfl; rfl; rfl))
  refine hs_assign (he_list_int (ns := []) .nil (by decide) fun f hf => ⟨_, by walk_at "lput", ?_⟩) (by intro; rfl)
  have hf1 : upd σ f (.list (([] : List Int).map MV.int)) f = some (.list (([] : List (Int × Int)).map pr)) := upd_same
  have k1 : Kp [] σ (upd σ f (.list (([] : List Int).map MV.int))) := .new hf
  revert hf1 k1
  generalize upd σ f (.list (([] : List Int).map MV.int)) = σ1
  intro hf1 k1
  suffices hrest : ∀ (ps : List (Int × Int)) (iv : Option MV) σ2, σ2 f = some (.list (ps.map pr)) → ps.length ≤ 1 → (∀ q ∈ ps, WinOk c q) → ((128 ≤ c ∧ c < 13312) ∨ (57344 ≤ c ∧ c < 65536) → ps ≠ []) → Kp [] σ σ2 →
      HS (Gd g) _ [("code", some (.int c)), ("found", some (.loc f)), ("index", iv), ("number", none), ("start", none)] σ2 _ _ X by
    (first | ((with_reducible refine' hs_ifp ?z555_1 ?z555_2 ?z555_3); (case z555_1 => walk_at "pb")) | fail "no")
    · intro h1
      have h1' : 128 ≤ c ∧ c < 13312 := by simpa using h1
      (first | ((with_reducible refine' hs_assignp ?z556_1 ?z556_2 ?z556_3 ?z556_4); (case z556_1 => walk_at "pv"); (case z556_2 => walk_at "lput"); (case z556_4 => (intro; rfl))) | fail "no")
      (first | ((with_reducible refine' hs_appendp ?z557_1 ?z557_2 ?z557_3 ?z557_4 ?z557_5 ?z557_6 ?z557_7 ?z557_8 ?z557_9); (case z557_1 => walk_at "pv"); (case z557_2 => walk_at "pv"); (case z557_3 => walk_at "hp"); (case z557_4 => first | lia | (simp only [List.map_nil, List.length_nil]; lia) | (simp only [List.length_map]; lia) | (simp only [List.length_append, List.length_map, List.length_cons, List.length_nil]; lia)); (case z557_6 => exact ⟨_, fun _ => rfl⟩); (case z557_7 => rfl); (case z557_8 => exact interactive_no); (case z557_9 => (intro; rfl))) | fail "no")
      (((repeat (with_reducible first | refine' hs_endN ?_ | refine' hs_nil ?_)); first | assumption | skip))
      refine hrest [(c / 128, c / 128 * 128)] _ _ upd_same (by simp) (fun q hq => ?_) (fun _ => by simp) fun i o hi e => ?_
      · rw [List.mem_singleton.mp hq]
        exact ⟨ls_low (by lia), ⟨by dsimp only; lia, by dsimp only; lia⟩, by dsimp only; lia, by dsimp only; lia⟩
      · exact upd_get (fun z => by rw [z, hf] at e; cases e) (k1 _ o hi e)
    · intro h1; (try (with_reducible refine' hs_endN ?_))
      have h1' : ¬ (128 ≤ c ∧ c < 13312) := by simpa using h1
      (first | ((with_reducible refine' hs_ifp ?z560_1 ?z560_2 ?z560_3); (case z560_1 => walk_at "pb")) | fail "no")
      · intro h2
        have h2' : 57344 ≤ c ∧ c < 65536 := by simpa using h2
        (first | ((with_reducible refine' hs_assignp ?z561_1 ?z561_2 ?z561_3 ?z561_4); (case z561_1 => walk_at "pv"); (case z561_2 => walk_at "lput"); (case z561_4 => (intro; rfl))) | fail "no")
        (first | ((with_reducible refine' hs_appendp ?z562_1 ?z562_2 ?z562_3 ?z562_4 ?z562_5 ?z562_6 ?z562_7 ?z562_8 ?z562_9); (case z562_1 => walk_at "pv"); (case z562_2 => walk_at "pv"); (case z562_3 => walk_at "hp"); (case z562_4 => first | lia | (simp only [List.map_nil, List.length_nil]; lia) | (simp only [List.length_map]; lia) | (simp only [List.length_append, List.length_map, List.length_cons, List.length_nil]; lia)); (case z562_6 => exact ⟨_, fun _ => rfl⟩); (case z562_7 => rfl); (case z562_8 => exact interactive_no); (case z562_9 => (intro; rfl))) | fail "no")
        (((repeat (with_reducible first | refine' hs_endN ?_ | refine' hs_nil ?_)); first | assumption | skip))
        refine hrest [((c - 44032) / 128, (c - 44032) / 128 * 128 + 44032)] _ _ upd_same (by simp) (fun q hq => ?_) (fun _ => by simp) fun i o hi e => ?_
        · rw [List.mem_singleton.mp hq]
          exact ⟨ls_mid (by lia), ⟨by dsimp only; lia, by dsimp only; lia⟩, by dsimp only; lia, by dsimp only; lia⟩
        · exact upd_get (fun z => by rw [z, hf] at e; cases e) (k1 _ o hi e)
      · intro h2; (try (with_reducible refine' hs_endN ?_))
        have h2' : ¬ (57344 ≤ c ∧ c < 65536) := by simpa using h2
        (((repeat (with_reducible first | refine' hs_endN ?_ | refine' hs_nil ?_)); first | assumption | skip))
        exact hrest [] _ _ hf1 (by simp) (fun q hq => absurd hq List.not_mem_nil) (fun z => by rcases z with z | z; exact absurd z h1'; exact absurd z h2') k1
  intro ps iv σ2 hf2 hps hok hne k2
  refine hs_for (hi_enum (by walk_at "pv") rfl ?_) (by intros; rfl) rfl rfl
  (first | ((with_reducible refine' he_callp ?z566_1 ?z566_2 ?z566_3 ?z566_4 ?z566_5 ?z566_6); (case z566_1 => walk_at "pv"); (case z566_2 => walk_at "pa"); (case z566_4 => walk_at "keeps"); (case z566_5 => rfl); (case z566_6 => rfl)) | fail "no")
  refine HCc.hc (c_specials g (n := n) fun l hl => ⟨l, _, rfl, upd_same, WiInv σ c f l ps iv, ?_, fun _ _ _ q => by obtain ⟨_, _, _, _, z, _⟩ := q; exact z, ?_, ?_⟩)
  · exact ⟨ps, none, none, (Kp.new (S := []) hl) _ _ (fun z => absurd z List.not_mem_nil) hf2, upd_same, hps, hok, id, k2.trans (.new hl), rfl⟩
  · rintro i x ρ' σ' hx ⟨qs, nv, sv, e1, e2, e3, e4, e5, k3, rfl⟩
    obtain ⟨y, hy, rfl⟩ := enums_get hx
    rw [List.getElem?_map] at hy
    have hi7 : i < 7 := by
      have := (List.getElem?_eq_some_iff.mp hx).1
      rw [enums_len, List.length_map] at this
      exact this
    have hsp : specials[i]? = some (specials.getD i 0) := by
      have : i < specials.length := hi7
      rw [List.getD, List.getElem?_eq_getElem this]; rfl
    rw [hsp] at hy
    have hy' : MV.int (specials.getD i 0) = y := Option.some.inj hy
    subst hy'
    have hls := ls_sp hi7
    clear hx hy hsp
    generalize specials.getD i 0 = S at hls ⊢
    refine ⟨_, .tup (.cons (by walk_at "lput") (.cons (by walk_at "lput") .nil)), ?_⟩
    have nlf : l ≠ f := fun z => by
      subst z; rw [hl] at hf2; cases hf2
    (first | ((with_reducible refine' hs_ifp ?z567_1 ?z567_2 ?z567_3); (case z567_1 => walk_at "pb")) | fail "no")
    · intro h1
      have h1' : S ≤ c ∧ c < S + 128 := by simpa using h1
      (first | ((with_reducible refine' hs_appendp ?z568_1 ?z568_2 ?z568_3 ?z568_4 ?z568_5 ?z568_6 ?z568_7 ?z568_8 ?z568_9); (case z568_1 => walk_at "pv"); (case z568_2 => walk_at "pv"); (case z568_3 => walk_at "hp"); (case z568_4 => first | lia | (simp only [List.map_nil, List.length_nil]; lia) | (simp only [List.length_map]; lia) | (simp only [List.length_append, List.length_map, List.length_cons, List.length_nil]; lia)); (case z568_6 => exact ⟨_, fun _ => rfl⟩); (case z568_7 => rfl); (case z568_8 => exact interactive_no); (case z568_9 => (intro; rfl))) | fail "no")
      (((repeat (with_reducible first | refine' hs_endN ?_ | refine' hs_nil ?_)); first | assumption | skip))
      refine ⟨qs ++ [((249 + (i : Int), S) : Int × Int)], _, _, ?_, upd_get nlf e2, by simp; lia, fun q hq => ?_, fun _ => by simp, fun i o hi e => ?_, rfl⟩
      · rw [List.map_append]; exact upd_same
      · rcases List.mem_append.mp hq with hq | hq
        · exact e4 q hq
        · rw [List.mem_singleton.mp hq]
          exact ⟨hls, ⟨by dsimp only; lia, by dsimp only; lia⟩, h1'⟩
      · exact upd_get (fun z => by rw [z, hf] at e; cases e) (k3 _ o hi e)
    · intro h1; (try (with_reducible refine' hs_endN ?_))
      exact hs_nil ⟨qs, _, _, e1, e2, by lia, e4, e5, k3, rfl⟩
  · rintro ρ' σ' ⟨qs, nv, sv, e1, e2, e3, e4, e5, k3, rfl⟩
    (first | ((with_reducible refine' hs_retp ?z571_1 ?z571_2); (case z571_1 => walk_at "pv")) | fail "no")
    exact p f σ' qs hf e1 e4 (fun z => e5 (hne z)) k3
theorem c_far (g : Gp) {n : Nat} {σ} {c : Int} (h : 0 ≤ c ∧ c < 2 ^ 40) : PC (Gd g) (n + 1) (.ref 144) [.int c] σ (.tup [.int ((c - 65536) / 128), .int (65536 + (c - 65536) / 128 * 128)]) := by
  have h0 := h.1
  have h1 := h.2
  refine PC.of fun Q X q => ?_
  apply fn_at 81 [("code", .int c)] ["number"] rfl; kernel_rfl; ((kernel_rfl; (((intro W s av XK h; first | (have e := vreps0 h; subst e; exact ⟨_, BindsTo.of_eq rfl, .nil⟩) | (obtain ⟨v1, e, h1⟩ := vreps1 h; subst e; exact ⟨_, BindsTo.of_eq rfl, .cons h1 .nil⟩) | (obtain ⟨v1, v2, e, h1, h2⟩ := vreps2 h; subst e; exact ⟨_, BindsTo.of_eq rfl, .cons h1 (.cons h2 .nil)⟩) | (obtain ⟨v1, v2, v3, e, h1, h2, h3⟩ := vreps3 h; subst e; exact ⟨_, BindsTo.of_eq rfl, .cons h1 (.cons h2 (.cons h3 .nil))⟩) | (obtain ⟨v1, v2, v3, v4, e, h1, h2, h3, h4⟩ := vreps4 h; subst e; exact ⟨_, BindsTo.of_eq rfl, .cons h1 (.cons h2 (.cons h3 (.cons h4 .nil)))⟩) | (obtain ⟨v1, v2, v3, v4, v5, e, h1, h2, h3, h4, h5⟩ := vreps5 h; subst e; exact ⟨_, BindsTo.of_eq rfl, .cons h1 (.cons h2 (.cons h3 (.cons h4 (.cons h5 .nil))))⟩)))); ((focus ((repeat (with_reducible first | exact L0.nil | apply L0.oth | apply L0.bind)); done))); ((focus ((repeat (with_reducible first | exact Nm.nil | apply Nm.cons)); done))); decide +kernel; decide +kernel; rfl; rfl; rfl; rfl))
  (first | ((with_reducible refine' hs_assignp ?z573_1 ?z573_2 ?z573_3 ?z573_4); (case z573_1 => walk_at "pv"); (case z573_2 => walk_at "lput"); (case z573_4 => (intro; rfl))) | fail "no")
  (first | ((with_reducible refine' hs_retp ?z574_1 ?z574_2); (case z574_1 => walk_at "pv")) | fail "no")
  exact q
end

section
structure Wr (σ : MH) (l : WrL) (text : List Int) (v : WrV) : Prop where
  wn : Wn σ l v
  r : σ l.r = some (.inst 432 l.j)
  j : σ l.j = some (.ns [("text", .loc l.t), ("ahead", .int 32), ("windows", .loc l.w), ("statics", .loc l.b), ("is_wide", .bool v.wide), ("octets", .loc l.o)])
  t : σ l.t = some (.list (text.map MV.int))
  b : σ l.b = some (.list (statics.map MV.int))
  o : σ l.o = some (.list (v.octets.map MV.int))
  jk : l.j ≠ l.k
  ts : l.t ≠ l.s
  tu : l.t ≠ l.u
  tO : l.t ≠ l.o
  bs : l.b ≠ l.s
  bu : l.b ≠ l.u
  bo : l.b ≠ l.o
  os : l.o ≠ l.s
  ou : l.o ≠ l.u
noncomputable def wwin (l : WrL) : List Nat := [l.k, l.s, l.u]
noncomputable def wfoot (l : WrL) : List Nat := [l.j, l.k, l.s, l.u, l.o]
theorem wwf {l : WrL} {σ σ' : MH} (k : Kp (wwin l) σ σ') : Kp (wfoot l) σ σ' := k.sub fun i h => by
  rcases List.mem_cons.mp h with rfl | h
  · exact .tail _ (.head _)
  rcases List.mem_cons.mp h with rfl | h
  · exact .tail _ (.tail _ (.head _))
  rw [List.mem_singleton.mp h]; exact .tail _ (.tail _ (.tail _ (.head _)))
theorem wfo {l : WrL} : l.o ∈ wfoot l := .tail _ (.tail _ (.tail _ (.tail _ (.head _))))
theorem wfj {l : WrL} : l.j ∈ wfoot l := .head _
theorem nin3 {a b c d : Nat} (h1 : a ≠ b) (h2 : a ≠ c) (h3 : a ≠ d) : a ∉ [b, c, d] := fun z => by
  rcases List.mem_cons.mp z with z | z
  · exact h1 z
  rcases List.mem_cons.mp z with z | z
  · exact h2 z
  · exact h3 (List.mem_singleton.mp z)
theorem Wr.win {σ σ' l text v v'} (h : Wr σ l text v) (hn : Wn σ' l v') (k : Kp (wwin l) σ σ') (ho : v'.octets = v.octets) (hw : v'.wide = v.wide) : Wr σ' l text v' := by
  have hk := h.wn.k
  have hs := h.wn.s
  have hu := h.wn.u
  refine ⟨hn, k _ _ (nin3 (ne_of h.r hk (by intro z; cases z)) (ne_of h.r hs (by intro z; cases z)) (ne_of h.r hu (by intro z; cases z))) h.r, ?_, k _ _ (nin3 (ne_of h.t hk (by intro z; cases z)) h.ts h.tu) h.t,
    k _ _ (nin3 (ne_of h.b hk (by intro z; cases z)) h.bs h.bu) h.b, ?_, h.jk, h.ts, h.tu, h.tO, h.bs, h.bu, h.bo, h.os, h.ou⟩
  · rw [hw]; exact k _ _ (nin3 h.jk (ne_of h.j hs (by intro z; cases z)) (ne_of h.j hu (by intro z; cases z))) h.j
  · rw [ho]; exact k _ _ (nin3 (ne_of h.o hk (by intro z; cases z)) h.os h.ou) h.o
theorem Wn.kp {σ σ' l v} (h : Wn σ l v) (k : Kp [] σ σ') : Wn σ' l v := ⟨k _ _ (fun z => absurd z List.not_mem_nil) h.w, k _ _ (fun z => absurd z List.not_mem_nil) h.k, k _ _ (fun z => absurd z List.not_mem_nil) h.s, k _ _ (fun z => absurd z List.not_mem_nil) h.u, h.su⟩
theorem Wr.kp {σ σ' l text v} (h : Wr σ l text v) (k : Kp [] σ σ') : Wr σ' l text v := h.win (h.wn.kp k) (k.sub fun _ z => absurd z List.not_mem_nil) rfl rfl
theorem Wr.oct {σ l text v} (h : Wr σ l text v) (os : List Int) : Wr (upd σ l.o (.list (os.map MV.int))) l text { v with octets := os } := by
  refine ⟨⟨upd_get (ne_of h.wn.w h.o (by intro z; cases z)) h.wn.w, upd_get (ne_of h.wn.k h.o (by intro z; cases z)) h.wn.k, upd_get h.os.symm h.wn.s, upd_get h.ou.symm h.wn.u, h.wn.su⟩, upd_get (ne_of h.r h.o (by intro z; cases z)) h.r, upd_get (ne_of h.j h.o (by intro z; cases z)) h.j, upd_get h.tO h.t, upd_get h.bo h.b, upd_same, h.jk, h.ts, h.tu, h.tO, h.bs, h.bu, h.bo, h.os, h.ou⟩
theorem Wr.setw {σ l text v} (h : Wr σ l text v) (w : Bool) : Wr (upd σ l.j (.ns [("text", .loc l.t), ("ahead", .int 32), ("windows", .loc l.w), ("statics", .loc l.b), ("is_wide", .bool w), ("octets", .loc l.o)])) l text { v with wide := w } := by
  have n : ∀ {a}, a ≠ l.j → ∀ {o x}, σ a = some o → upd σ l.j x a = some o := fun ha _ _ e => upd_get ha e
  exact ⟨⟨upd_get (ne_of h.wn.w h.j (by intro z; cases z)) h.wn.w, upd_get h.jk.symm h.wn.k, upd_get (ne_of h.wn.s h.j (by intro z; cases z)) h.wn.s, upd_get (ne_of h.wn.u h.j (by intro z; cases z)) h.wn.u, h.wn.su⟩, upd_get (ne_of h.r h.j (by intro z; cases z)) h.r, upd_same, upd_get (ne_of h.t h.j (by intro z; cases z)) h.t, upd_get (ne_of h.b h.j (by intro z; cases z)) h.b, upd_get (ne_of h.o h.j (by intro z; cases z)) h.o, h.jk, h.ts, h.tu, h.tO, h.bs, h.bu, h.bo, h.os, h.ou⟩
structure Inv (v : WrV) (pre : List Int) (B : Nat) (w : Bool) : Prop where
  rd : Reads (lst [] firsts 0 false) v.octets (lst pre v.starts v.active w)
  s8 : v.starts.length = 8
  us : v.used.length = 8
  a0 : 0 ≤ v.active
  a8 : v.active < 8
  bd : v.octets.length ≤ B
theorem Inv.emit {v pre B w} (h : Inv v pre B w) {e : List Int} {pre' s' a' w'} (hr : Reads (lst pre v.starts v.active w) e (lst pre' s' a' w')) (v' : WrV) (ho : v'.octets = v.octets ++ e) (hs : v'.starts = s') (ha : v'.active = a') (s8 : v'.starts.length = 8) (us : v'.used.length = 8) (a0 : 0 ≤ v'.active) (a8 : v'.active < 8) {B' : Nat} (hb : B + e.length ≤ B') : Inv v' pre' B' w' := by
  subst hs ha
  exact ⟨by rw [ho]; exact h.rd.trans hr, s8, us, a0, a8, by rw [ho, List.length_append]; have := h.bd; lia⟩
theorem Inv.add {v pre B w} (h : Inv v pre B w) {e : List Int} {pre' w'} (hr : Reads (lst pre v.starts v.active w) e (lst pre' v.starts v.active w')) {B' : Nat} (hb : B + e.length ≤ B') : Inv { v with octets := v.octets ++ e } pre' B' w' :=
  ⟨h.rd.trans hr, h.s8, h.us, h.a0, h.a8, by dsimp only; rw [List.length_append]; have := h.bd; lia⟩
theorem Inv.le {v pre w} {B B' : Nat} (h : Inv v pre B w) (hb : B ≤ B') : Inv v pre B' w := ⟨h.rd, h.s8, h.us, h.a0, h.a8, Nat.le_trans h.bd hb⟩
theorem mem_cut {α : Type} {xs : List α} {l u x} (h : x ∈ cut xs l u) : x ∈ xs := List.mem_of_mem_drop (List.mem_of_mem_take h)
theorem c_run (g : Gp) {n : Nat} {σ l text v} {i : Nat} {st : Int} {Q : MV → MH → Prop} {X : MX → MH → Prop} (h : Wr σ l text v) (p : ∀ k σ', Kp [] σ σ' → Q (.int k) σ') : HC (Gd g) (n + 1) (.ref 345) [.loc l.r, .int i, .int st] σ Q X := by
  obtain ⟨hn, hr, hj, ht, hb, ho, -⟩ := h
  refine HCc.hc ?_
  apply fn_at 209 [("self", .loc l.r), ("at", .int i), ("start", .int st)] ["found", "code"] rfl; kernel_rfl; ((kernel_rfl; (((intro W s av XK h; first | (have e := vreps0 h; subst e; exact ⟨_, BindsTo.of_eq rfl, .nil⟩) | (obtain ⟨v1, e, h1⟩ := vreps1 h; subst e; exact ⟨_, BindsTo.of_eq rfl, .cons h1 .nil⟩) | (obtain ⟨v1, v2, e, h1, h2⟩ := vreps2 h; subst e; exact ⟨_, BindsTo.of_eq rfl, .cons h1 (.cons h2 .nil)⟩) | (obtain ⟨v1, v2, v3, e, h1, h2, h3⟩ := vreps3 h; subst e; exact ⟨_, BindsTo.of_eq rfl, .cons h1 (.cons h2 (.cons h3 .nil))⟩) | (obtain ⟨v1, v2, v3, v4, e, h1, h2, h3, h4⟩ := vreps4 h; subst e; exact ⟨_, BindsTo.of_eq rfl, .cons h1 (.cons h2 (.cons h3 (.cons h4 .nil)))⟩) | (obtain ⟨v1, v2, v3, v4, v5, e, h1, h2, h3, h4, h5⟩ := vreps5 h; subst e; exact ⟨_, BindsTo.of_eq rfl, .cons h1 (.cons h2 (.cons h3 (.cons h4 (.cons h5 .nil))))⟩)))); ((focus ((repeat (with_reducible first | exact L0.nil | apply L0.oth | apply L0.bind)); done))); ((focus ((repeat (with_reducible first | exact Nm.nil | apply Nm.cons)); done))); decide +kernel; decide +kernel; rfl; rfl; rfl; rfl))
  (first | ((with_reducible refine' hs_assignp ?z585_1 ?z585_2 ?z585_3 ?z585_4); (case z585_1 => walk_at "pv"); (case z585_2 => walk_at "lput"); (case z585_4 => (intro; rfl))) | fail "no")
  refine hs_for (hi_list (he_slice (he_pv (v := .loc l.t) (by walk_at "pv") ⟨some i, some (i + 32), .some (by walk_at "pv"), .some (by walk_at "pv"), .inr ⟨l.t, _, rfl, ht, fun c hc => ⟨c, _, rfl, upd_same, fun i' ρ' σ' => (∃ (f : Int) (nv : Option MV), ρ' = ([("self", some (.loc l.r)), ("at", some (.int i)), ("start", some (.int st)), ("found", some (.int f)), ("code", nv)] : Loc)) ∧ σ' = upd σ c (.list (cut (text.map MV.int) (some (i : Int)) (some (i + 32)))), ⟨⟨0, none, rfl⟩, rfl⟩, fun _ _ _ z => z.2 ▸ upd_same, ?_, ?_⟩⟩⟩))) (by intros; rfl) rfl rfl
  · rintro i' x ρ' σ' hx ⟨⟨f, nv, rfl⟩, rfl⟩
    obtain ⟨y, hy, rfl⟩ := List.mem_map.mp (mem_cut (List.mem_of_getElem? hx))
    refine ⟨_, .name (by walk_at "lput"), ?_⟩
    (first | ((with_reducible refine' hs_ifp ?z586_1 ?z586_2 ?z586_3); (case z586_1 => walk_at "pb")) | fail "no")
    · intro h1
      (first | ((with_reducible refine' hs_assignp ?z587_1 ?z587_2 ?z587_3 ?z587_4); (case z587_1 => walk_at "pv"); (case z587_2 => walk_at "lput"); (case z587_4 => (intro; rfl))) | fail "no")
      (((repeat (with_reducible first | refine' hs_endN ?_ | refine' hs_nil ?_)); first | assumption | skip))
      exact ⟨⟨_, _, rfl⟩, rfl⟩
    · intro h1; (try (with_reducible refine' hs_endN ?_))
      (first | ((with_reducible refine' hs_ifp ?z590_1 ?z590_2 ?z590_3); (case z590_1 => walk_at "pb")) | fail "no")
      · intro h2; (first | ((with_reducible refine' hs_retp ?z591_1 ?z591_2); (case z591_1 => walk_at "pv")) | fail "no"); exact p _ _ (.new hc)
      · intro h2; (try (with_reducible refine' hs_endN ?_))
        (((repeat (with_reducible first | refine' hs_endN ?_ | refine' hs_nil ?_)); first | assumption | skip))
        exact ⟨⟨_, _, rfl⟩, rfl⟩
  · rintro ρ' σ' ⟨⟨f, nv, rfl⟩, rfl⟩
    (first | ((with_reducible refine' hs_retp ?z594_1 ?z594_2); (case z594_1 => walk_at "pv")) | fail "no")
    exact p _ _ (.new hc)
theorem cmp_isTup {σ l} : Cmp σ .Is (.tup l) .none false := .isN rfl
set_option hygiene false in
local macro_rules | `(tactic| walk_at "cmp") => `(tactic| with_reducible exact cmp_isTup)
theorem c_best (g : Gp) {n : Nat} {σ l text v} {i : Nat} {c : Int} {Q : MV → MH → Prop} {X : MX → MH → Prop} (h : Wr σ l text v) (hc : (128 ≤ c ∧ c < 13312) ∨ (57344 ≤ c ∧ c < 65536))
    (p : ∀ (k : Int) (w : Int × Int) σ', WinOk c w → Kp [] σ σ' → Q (.tup [.int k, .int w.1, .int w.2]) σ') : HC (Gd g) (n + 3) (.ref 352) [.loc l.r, .int i, .int c] σ Q X := by
  refine HCc.hc ?_
  apply fn_at 214 [("self", .loc l.r), ("at", .int i), ("code", .int c)] ["best", "index", "start", "many"] rfl; kernel_rfl; ((kernel_rfl; (((intro W s av XK h; first | (have e := vreps0 h; subst e; exact ⟨_, BindsTo.of_eq rfl, .nil⟩) | (obtain ⟨v1, e, h1⟩ := vreps1 h; subst e; exact ⟨_, BindsTo.of_eq rfl, .cons h1 .nil⟩) | (obtain ⟨v1, v2, e, h1, h2⟩ := vreps2 h; subst e; exact ⟨_, BindsTo.of_eq rfl, .cons h1 (.cons h2 .nil)⟩) | (obtain ⟨v1, v2, v3, e, h1, h2, h3⟩ := vreps3 h; subst e; exact ⟨_, BindsTo.of_eq rfl, .cons h1 (.cons h2 (.cons h3 .nil))⟩) | (obtain ⟨v1, v2, v3, v4, e, h1, h2, h3, h4⟩ := vreps4 h; subst e; exact ⟨_, BindsTo.of_eq rfl, .cons h1 (.cons h2 (.cons h3 (.cons h4 .nil)))⟩) | (obtain ⟨v1, v2, v3, v4, v5, e, h1, h2, h3, h4, h5⟩ := vreps5 h; subst e; exact ⟨_, BindsTo.of_eq rfl, .cons h1 (.cons h2 (.cons h3 (.cons h4 (.cons h5 .nil))))⟩)))); ((focus ((repeat (with_reducible first | exact L0.nil | apply L0.oth | apply L0.bind)); done))); ((focus ((repeat (with_reducible first | exact Nm.nil | apply Nm.cons)); done))); decide +kernel; decide +kernel; rfl; rfl; rfl; rfl))
  (first | ((with_reducible refine' hs_assignp ?z596_1 ?z596_2 ?z596_3 ?z596_4); (case z596_1 => walk_at "pv"); (case z596_2 => walk_at "lput"); (case z596_4 => (intro; rfl))) | fail "no")
  refine hs_for (hi_list ?_) (by intros; rfl) rfl rfl
  (first | ((with_reducible refine' he_callp ?z597_1 ?z597_2 ?z597_3 ?z597_4 ?z597_5 ?z597_6); (case z597_1 => walk_at "pv"); (case z597_2 => walk_at "pa"); (case z597_4 => walk_at "keeps"); (case z597_5 => rfl); (case z597_6 => rfl)) | fail "no")
  refine HCc.hc (c_window_indexes g (n := n) (by lia) fun f σ1 ps hf hf1 hok hne k1 => ⟨f, _, rfl, hf1, fun i' ρ' σ' => (∃ (bv : MV) (xv sv mv : Option MV), ((i' = 0 ∧ bv = .none) ∨ ∃ (k : Int) (w : Int × Int), WinOk c w ∧ bv = .tup [.int k, .int w.1, .int w.2]) ∧ ρ' = ([("self", some (.loc l.r)), ("at", some (.int i)), ("code", some (.int c)), ("best", some bv), ("index", xv), ("start", sv), ("many", mv)] : Loc)) ∧ Kp [] σ1 σ', ⟨⟨.none, none, none, none, .inl ⟨rfl, rfl⟩, rfl⟩, .refl _ _⟩, fun _ _ _ z => z.2 _ _ (fun z => absurd z List.not_mem_nil) hf1, ?_, ?_⟩)
  · rintro i' x ρ' σ' hx ⟨⟨bv, xv, sv, mv, hb, rfl⟩, k2⟩
    obtain ⟨w, hw, rfl⟩ := List.mem_map.mp (List.mem_of_getElem? hx)
    have hwo := hok w hw
    have h2 := (h.kp k1).kp k2
    obtain ⟨hn, hr, hj, ht, hbb, ho, -⟩ := h2
    refine ⟨_, .tup (.cons (by walk_at "lput") (.cons (by walk_at "lput") .nil)), ?_⟩
    (first | ((with_reducible refine' hs_assign_meth ?z598_1 ?z598_2 ?z598_3 ?z598_4 ?z598_5 ?z598_6 ?z598_7 ?z598_8 ?z598_9 ?z598_10); (case z598_1 => walk_at "pv"); (case z598_2 => walk_at "inst"); (case z598_3 => walk_at "meth"); (case z598_4 => kernel_rfl); (case z598_5 => walk_at "pa"); (case z598_7 => exact ⟨_, fun _ => rfl⟩); (case z598_8 => rfl); (case z598_9 => rfl); (case z598_10 => (intro; rfl))) | fail "no")
    refine HC.mono (c_run g (n := n) ((h.kp k1).kp k2) fun m σ3 k3 => ⟨_, by walk_at "lput", ?_⟩) (show n + 1 ≤ n + 2 from nle rfl)
    have k4 : Kp [] σ1 σ3 := k2.trans k3
    rcases hb with ⟨rfl, rfl⟩ | ⟨k0, w0, hw0, rfl⟩
    · refine hs_ifp (c := true) (pb_or2 (pb_cmp (by walk_at "pv") (by walk_at "pv") (cmp_isN 0) rfl) (c := false) (fun z => by cases z)) (fun _ => ?_) fun z => by cases z
      (first | ((with_reducible refine' hs_assignp ?z599_1 ?z599_2 ?z599_3 ?z599_4); (case z599_1 => walk_at "pv"); (case z599_2 => walk_at "lput"); (case z599_4 => (intro; rfl))) | fail "no")
      (((repeat (with_reducible first | refine' hs_endN ?_ | refine' hs_nil ?_)); first | assumption | skip))
      exact ⟨⟨_, _, _, _, .inr ⟨m, w, hwo, rfl⟩, rfl⟩, k4⟩
    · (first | ((with_reducible refine' hs_ifp ?z601_1 ?z601_2 ?z601_3); (case z601_1 => walk_at "pb")) | fail "no")
      · intro h1
        (first | ((with_reducible refine' hs_assignp ?z602_1 ?z602_2 ?z602_3 ?z602_4); (case z602_1 => walk_at "pv"); (case z602_2 => walk_at "lput"); (case z602_4 => (intro; rfl))) | fail "no")
        (((repeat (with_reducible first | refine' hs_endN ?_ | refine' hs_nil ?_)); first | assumption | skip))
        exact ⟨⟨_, _, _, _, .inr ⟨m, w, hwo, rfl⟩, rfl⟩, k4⟩
      · intro h1; (try (with_reducible refine' hs_endN ?_))
        (((repeat (with_reducible first | refine' hs_endN ?_ | refine' hs_nil ?_)); first | assumption | skip))
        exact ⟨⟨_, _, _, _, .inr ⟨k0, w0, hw0, rfl⟩, rfl⟩, k4⟩
  · rintro ρ' σ' ⟨⟨bv, xv, sv, mv, hb, rfl⟩, k2⟩
    have hne' := hne hc
    rcases hb with ⟨e, rfl⟩ | ⟨k0, w0, hw0, rfl⟩
    · exact absurd (List.eq_nil_of_length_eq_zero (by simpa using e)) hne'
    · (first | ((with_reducible refine' hs_retp ?z606_1 ?z606_2); (case z606_1 => walk_at "pv")) | fail "no")
      exact p k0 w0 σ' hw0 (k1.trans k2)
theorem c_static (g : Gp) {n : Nat} {σ l text v} {c : Int} {Q : MV → MH → Prop} {X : MX → MH → Prop} (h : Wr σ l text v) (p : ∀ o, NumOk statics c o → Q (mvo o) σ) : HC (Gd g) (n + 1) (.ref 359) [.loc l.r, .int c] σ Q X := by
  obtain ⟨hn, hr, hj, ht, hb, ho, -⟩ := h
  refine HCc.hc ?_
  apply fn_at 219 [("self", .loc l.r), ("code", .int c)] ["number", "start"] rfl; kernel_rfl; ((kernel_rfl; (((intro W s av XK h; first | (have e := vreps0 h; subst e; exact ⟨_, BindsTo.of_eq rfl, .nil⟩) | (obtain ⟨v1, e, h1⟩ := vreps1 h; subst e; exact ⟨_, BindsTo.of_eq rfl, .cons h1 .nil⟩) | (obtain ⟨v1, v2, e, h1, h2⟩ := vreps2 h; subst e; exact ⟨_, BindsTo.of_eq rfl, .cons h1 (.cons h2 .nil)⟩) | (obtain ⟨v1, v2, v3, e, h1, h2, h3⟩ := vreps3 h; subst e; exact ⟨_, BindsTo.of_eq rfl, .cons h1 (.cons h2 (.cons h3 .nil))⟩) | (obtain ⟨v1, v2, v3, v4, e, h1, h2, h3, h4⟩ := vreps4 h; subst e; exact ⟨_, BindsTo.of_eq rfl, .cons h1 (.cons h2 (.cons h3 (.cons h4 .nil)))⟩) | (obtain ⟨v1, v2, v3, v4, v5, e, h1, h2, h3, h4, h5⟩ := vreps5 h; subst e; exact ⟨_, BindsTo.of_eq rfl, .cons h1 (.cons h2 (.cons h3 (.cons h4 (.cons h5 .nil))))⟩)))); ((focus ((repeat (with_reducible first | exact L0.nil | apply L0.oth | apply L0.bind)); done))); ((focus ((repeat (with_reducible first | exact Nm.nil | apply Nm.cons)); done))); decide +kernel; decide +kernel; rfl; rfl; rfl; rfl))
  refine hs_for (hi_enum (by walk_at "pv") rfl (he_pv (v := .loc l.b) (by walk_at "pv") ⟨l.b, _, rfl, hb, fun i' ρ' σ' => (∃ (nv sv : Option MV), ρ' = ([("self", some (.loc l.r)), ("code", some (.int c)), ("number", nv), ("start", sv)] : Loc)) ∧ σ' = σ, ⟨⟨none, none, rfl⟩, rfl⟩, fun _ _ _ z => z.2 ▸ hb, ?_, ?_⟩)) (by intros; rfl) rfl rfl
  · rintro i x ρ' σ' hx ⟨⟨nv, sv, rfl⟩, rfl⟩
    obtain ⟨y, hy, rfl⟩ := enums_get hx
    rw [List.getElem?_map] at hy
    have hi8 : i < 8 := by
      have := (List.getElem?_eq_some_iff.mp hx).1
      rw [enums_len, List.length_map] at this
      exact this
    have hsp : statics[i]? = some (statics.getD i 0) := by
      have : i < statics.length := hi8
      rw [List.getD, List.getElem?_eq_getElem this]; rfl
    rw [hsp] at hy
    have hy' : MV.int (statics.getD i 0) = y := Option.some.inj hy
    subst hy'
    refine ⟨_, .tup (.cons (by walk_at "lput") (.cons (by walk_at "lput") .nil)), ?_⟩
    (first | ((with_reducible refine' hs_ifp ?z608_1 ?z608_2 ?z608_3); (case z608_1 => walk_at "pb")) | fail "no")
    · intro h1; (first | ((with_reducible refine' hs_retp ?z609_1 ?z609_2); (case z609_1 => walk_at "pv")) | fail "no")
      exact p (some i) fun k e => by cases e; exact ⟨by lia, by lia, h1⟩
    · intro h1; (try (with_reducible refine' hs_endN ?_))
      (((repeat (with_reducible first | refine' hs_endN ?_ | refine' hs_nil ?_)); first | assumption | skip))
      exact ⟨⟨_, _, rfl⟩, rfl⟩
  · rintro ρ' σ' ⟨⟨nv, sv, rfl⟩, rfl⟩
    (first | ((with_reducible refine' hs_retp ?z612_1 ?z612_2); (case z612_1 => walk_at "pv")) | fail "no")
    exact p none fun k e => by cases e
theorem inWin_iff {s : List Int} {k c : Int} (h : inWin s k c = true) : s.getD k.toNat 0 ≤ c ∧ c < s.getD k.toNat 0 + 128 := by simpa [inWin] using h
theorem c_put_in_active (g : Gp) {n : Nat} {σ l text v pre} {B : Nat} {c : Int} {Q : MV → MH → Prop} {X : MX → MH → Prop} (h : Wr σ l text v) (hI : Inv v pre B false) (hz : B ≤ 60000) (hc : 0 ≤ c) (hw : c < 128 ∨ inWin v.starts v.active c = true)
    (p : ∀ σ' v', Wr σ' l text v' → Inv v' (pre ++ [c]) (B + 2) false → v'.wide = v.wide → Kp (wfoot l) σ σ' → Q .none σ') : HC (Gd g) (n + 1) (.ref 366) [.loc l.r, .int c] σ Q X := by
  have h' := h
  obtain ⟨hn, hr, hj, ht, hb, ho, -⟩ := h
  obtain ⟨ww, wk, ws, wu, -⟩ := hn
  obtain ⟨rd, s8, us, a0, a8, bd⟩ := hI
  have hI : Inv v pre B false := ⟨rd, s8, us, a0, a8, bd⟩
  refine HCc.hc ?_
  apply fn_at 224 [("self", .loc l.r), ("code", .int c)] [] rfl; kernel_rfl; ((kernel_rfl; (((intro W s av XK h; first | (have e := vreps0 h; subst e; exact ⟨_, BindsTo.of_eq rfl, .nil⟩) | (obtain ⟨v1, e, h1⟩ := vreps1 h; subst e; exact ⟨_, BindsTo.of_eq rfl, .cons h1 .nil⟩) | (obtain ⟨v1, v2, e, h1, h2⟩ := vreps2 h; subst e; exact ⟨_, BindsTo.of_eq rfl, .cons h1 (.cons h2 .nil)⟩) | (obtain ⟨v1, v2, v3, e, h1, h2, h3⟩ := vreps3 h; subst e; exact ⟨_, BindsTo.of_eq rfl, .cons h1 (.cons h2 (.cons h3 .nil))⟩) | (obtain ⟨v1, v2, v3, v4, e, h1, h2, h3, h4⟩ := vreps4 h; subst e; exact ⟨_, BindsTo.of_eq rfl, .cons h1 (.cons h2 (.cons h3 (.cons h4 .nil)))⟩) | (obtain ⟨v1, v2, v3, v4, v5, e, h1, h2, h3, h4, h5⟩ := vreps5 h; subst e; exact ⟨_, BindsTo.of_eq rfl, .cons h1 (.cons h2 (.cons h3 (.cons h4 (.cons h5 .nil))))⟩)))); ((focus ((repeat (with_reducible first | exact L0.nil | apply L0.oth | apply L0.bind)); done))); ((focus ((repeat (with_reducible first | exact Nm.nil | apply Nm.cons)); done))); decide +kernel; decide +kernel; rfl; rfl; rfl; rfl))
  (first | ((with_reducible refine' hs_ifp ?z614_1 ?z614_2 ?z614_3); (case z614_1 => walk_at "pb")) | fail "no")
  · intro h1
    have h1' : 128 ≤ c := by simpa using h1
    have hw' := inWin_iff (hw.resolve_left (by lia))
    (first | ((with_reducible refine' hs_append_int ?z615_1 ?z615_2 ?z615_3 ?z615_4 ?z615_5 ?z615_6 ?z615_7 ?z615_8 ?z615_9); (case z615_1 => walk_at "pv"); (case z615_2 => walk_at "pv"); (case z615_3 => walk_at "hp"); (case z615_4 => first | assumption | lia | (simp only [List.length_append, List.length_cons, List.length_nil]; lia)); (case z615_6 => exact ⟨_, fun _ => rfl⟩); (case z615_7 => rfl); (case z615_8 => exact interactive_no); (case z615_9 => (intro; rfl))) | fail "no")
    (((repeat (with_reducible first | refine' hs_endN ?_ | refine' hs_nil ?_)); first | assumption | skip))
    refine p _ { v with octets := v.octets ++ [_] } (h'.oct _) (hI.add (rd_active hw') (by simp)) rfl (.upd wfo)
  · intro h1; (try (with_reducible refine' hs_endN ?_))
    have h1' : c < 128 := by simpa using h1
    (first | ((with_reducible refine' hs_ifp ?z618_1 ?z618_2 ?z618_3); (case z618_1 => walk_at "pb")) | fail "no")
    · intro h2
      have h2' : 32 ≤ c ∨ c = 0 ∨ c = 9 ∨ c = 10 ∨ c = 13 := by simpa using h2
      (first | ((with_reducible refine' hs_append_int ?z619_1 ?z619_2 ?z619_3 ?z619_4 ?z619_5 ?z619_6 ?z619_7 ?z619_8 ?z619_9); (case z619_1 => walk_at "pv"); (case z619_2 => walk_at "pv"); (case z619_3 => walk_at "hp"); (case z619_4 => first | assumption | lia | (simp only [List.length_append, List.length_cons, List.length_nil]; lia)); (case z619_6 => exact ⟨_, fun _ => rfl⟩); (case z619_7 => rfl); (case z619_8 => exact interactive_no); (case z619_9 => (intro; rfl))) | fail "no")
      (((repeat (with_reducible first | refine' hs_endN ?_ | refine' hs_nil ?_)); first | assumption | skip))
      refine p _ { v with octets := v.octets ++ [_] } (h'.oct _) (hI.add (rd_plain ⟨hc, h1'⟩ h2') (by simp)) rfl (.upd wfo)
    · intro h2; (try (with_reducible refine' hs_endN ?_))
      (first | ((with_reducible refine' hs_extend_int ?z622_1 ?z622_2 ?z622_3 ?z622_4 ?z622_5 ?z622_6 ?z622_7 ?z622_8); (case z622_1 => walk_at "pv"); (case z622_2 => walk_at "hp"); (case z622_3 => walk_at "pai"); (case z622_4 => first | lia | (simp only [List.length_append, List.length_cons, List.length_nil]; lia)); (case z622_6 => exact ⟨_, fun _ => rfl⟩); (case z622_7 => exact interactive_no); (case z622_8 => (intro; rfl))) | fail "no")
      intro l2 hl2
      (((repeat (with_reducible first | refine' hs_endN ?_ | refine' hs_nil ?_)); first | assumption | skip))
      refine p _ { v with octets := v.octets ++ [_, _] } ((h'.kp (.new hl2)).oct _) (hI.add (rd_ctl ⟨hc, h1'⟩) (by simp)) rfl ((Kp.new hl2).trans (.upd wfo))
noncomputable def uOct (u : Int) : List Int := (if (decide (224 ≤ u / 256) && decide (u / 256 ≤ 242)) = true then [240] else []) ++ [u / 256, u % 256]
theorem c_put_unitW (g : Gp) {n : Nat} {σ l text v} {u : Int} {Q : MV → MH → Prop} {X : MX → MH → Prop} (h : Wr σ l text v) (hz : v.octets.length ≤ 60000) (hu : 0 ≤ u ∧ u < 2 ^ 40)
    (p : ∀ σ', Wr σ' l text { v with octets := v.octets ++ uOct u } → Kp (wfoot l) σ σ' → Q .none σ') : HC (Gd g) (n + 1) (.ref 415) [.loc l.r, .int u] σ Q X := by
  have h' := h
  have u0 := hu.1
  have u1 := hu.2
  obtain ⟨hn, hr, hj, ht, hb, ho, -⟩ := h
  unfold uOct at p
  refine HCc.hc ?_
  apply fn_at 259 [("self", .loc l.r), ("unit", .int u)] [] rfl; kernel_rfl; ((kernel_rfl; (((intro W s av XK h; first | (have e := vreps0 h; subst e; exact ⟨_, BindsTo.of_eq rfl, .nil⟩) | (obtain ⟨v1, e, h1⟩ := vreps1 h; subst e; exact ⟨_, BindsTo.of_eq rfl, .cons h1 .nil⟩) | (obtain ⟨v1, v2, e, h1, h2⟩ := vreps2 h; subst e; exact ⟨_, BindsTo.of_eq rfl, .cons h1 (.cons h2 .nil)⟩) | (obtain ⟨v1, v2, v3, e, h1, h2, h3⟩ := vreps3 h; subst e; exact ⟨_, BindsTo.of_eq rfl, .cons h1 (.cons h2 (.cons h3 .nil))⟩) | (obtain ⟨v1, v2, v3, v4, e, h1, h2, h3, h4⟩ := vreps4 h; subst e; exact ⟨_, BindsTo.of_eq rfl, .cons h1 (.cons h2 (.cons h3 (.cons h4 .nil)))⟩) | (obtain ⟨v1, v2, v3, v4, v5, e, h1, h2, h3, h4, h5⟩ := vreps5 h; subst e; exact ⟨_, BindsTo.of_eq rfl, .cons h1 (.cons h2 (.cons h3 (.cons h4 (.cons h5 .nil))))⟩)))); ((focus ((repeat (with_reducible first | exact L0.nil | apply L0.oth | apply L0.bind)); done))); ((focus ((repeat (with_reducible first | exact Nm.nil | apply Nm.cons)); done))); decide +kernel; decide +kernel; rfl; rfl; rfl; rfl))
  (first | ((with_reducible refine' hs_ifp ?z625_1 ?z625_2 ?z625_3); (case z625_1 => walk_at "pb")) | fail "no")
  · intro h1
    rw [if_pos h1] at p
    (first | ((with_reducible refine' hs_append_int ?z626_1 ?z626_2 ?z626_3 ?z626_4 ?z626_5 ?z626_6 ?z626_7 ?z626_8 ?z626_9); (case z626_1 => walk_at "pv"); (case z626_2 => walk_at "pv"); (case z626_3 => walk_at "hp"); (case z626_4 => first | assumption | lia | (simp only [List.length_append, List.length_cons, List.length_nil]; lia)); (case z626_6 => exact ⟨_, fun _ => rfl⟩); (case z626_7 => rfl); (case z626_8 => exact interactive_no); (case z626_9 => (intro; rfl))) | fail "no")
    (((repeat (with_reducible first | refine' hs_endN ?_ | refine' hs_nil ?_)); first | assumption | skip))
    have h2 := h'.oct (v.octets ++ [240])
    have h2' := h2
    obtain ⟨hn, hr, hj, ht, hb, ho, -⟩ := h2
    dsimp only at ho
    (first | ((with_reducible refine' hs_extend_int ?z628_1 ?z628_2 ?z628_3 ?z628_4 ?z628_5 ?z628_6 ?z628_7 ?z628_8); (case z628_1 => walk_at "pv"); (case z628_2 => walk_at "hp"); (case z628_3 => walk_at "pai"); (case z628_4 => first | lia | (simp only [List.length_append, List.length_cons, List.length_nil]; lia)); (case z628_6 => exact ⟨_, fun _ => rfl⟩); (case z628_7 => exact interactive_no); (case z628_8 => (intro; rfl))) | fail "no")
    intro l2 hl2
    (((repeat (with_reducible first | refine' hs_endN ?_ | refine' hs_nil ?_)); first | assumption | skip))
    rw [← List.append_assoc] at p
    exact p _ ((h2'.kp (.new hl2)).oct (v.octets ++ [240] ++ [u / 256, u % 256])) (((Kp.upd wfo).trans (.new hl2)).trans (.upd wfo))
  · intro h1; (try (with_reducible refine' hs_endN ?_))
    rw [if_neg (by rw [h1]; decide)] at p
    (((repeat (with_reducible first | refine' hs_endN ?_ | refine' hs_nil ?_)); first | assumption | skip))
    (first | ((with_reducible refine' hs_extend_int ?z632_1 ?z632_2 ?z632_3 ?z632_4 ?z632_5 ?z632_6 ?z632_7 ?z632_8); (case z632_1 => walk_at "pv"); (case z632_2 => walk_at "hp"); (case z632_3 => walk_at "pai"); (case z632_4 => first | lia | (simp only [List.length_append, List.length_cons, List.length_nil]; lia)); (case z632_6 => exact ⟨_, fun _ => rfl⟩); (case z632_7 => exact interactive_no); (case z632_8 => (intro; rfl))) | fail "no")
    intro l2 hl2
    (((repeat (with_reducible first | refine' hs_endN ?_ | refine' hs_nil ?_)); first | assumption | skip))
    exact p _ ((h'.kp (.new hl2)).oct _) ((Kp.new hl2).trans (.upd wfo))
end

section
noncomputable def VPost (σ : MH) (l : WrL) (text pre : List Int) (B : Nat) (w : Bool) (Q : MV → MH → Prop) : Prop := ∀ σ' v', Wr σ' l text v' → Inv v' pre B w → v'.wide = w → Kp (wfoot l) σ σ' → Q .none σ'
theorem getD_set {s : List Int} {k : Nat} {x : Int} (h : k < s.length) : (s.set k x).getD k 0 = x := by
  rw [List.getD, List.getElem?_set_self h]; rfl
theorem c_lay (g : Gp) {n : Nat} {σ l text v pre} {B : Nat} {w : Bool} {m i st c : Int} {Q : MV → MH → Prop} {X : MX → MH → Prop} (h : Wr σ l text v) (hI : Inv v pre B w) (hv : v.wide = false) (hz : B ≤ 50000) (hm : (m = 24 ∧ w = false) ∨ (m = 232 ∧ w = true)) (hc : 0 ≤ c) (hw : WinOk c (i, st))
    (p : VPost σ l text (pre ++ [c]) (B + 4) false Q) : HC (Gd g) (n + 3) (.ref 394) [.loc l.r, .int m, .int i, .int st, .int c] σ Q X := by
  have h' := h
  obtain ⟨hn, hr, hj, ht, hb, ho, -⟩ := h
  have hn' := hn
  obtain ⟨ww, wk, ws, wu, -⟩ := hn
  obtain ⟨hls, hi, hc1, hc2⟩ := hw
  dsimp only at hls hi hc1 hc2
  refine HCc.hc ?_
  apply fn_at 244 [("self", .loc l.r), ("command", .int m), ("index", .int i), ("start", .int st), ("code", .int c)] ["number"] rfl; kernel_rfl; ((kernel_rfl; (((intro W s av XK h; first | (have e := vreps0 h; subst e; exact ⟨_, BindsTo.of_eq rfl, .nil⟩) | (obtain ⟨v1, e, h1⟩ := vreps1 h; subst e; exact ⟨_, BindsTo.of_eq rfl, .cons h1 .nil⟩) | (obtain ⟨v1, v2, e, h1, h2⟩ := vreps2 h; subst e; exact ⟨_, BindsTo.of_eq rfl, .cons h1 (.cons h2 .nil)⟩) | (obtain ⟨v1, v2, v3, e, h1, h2, h3⟩ := vreps3 h; subst e; exact ⟨_, BindsTo.of_eq rfl, .cons h1 (.cons h2 (.cons h3 .nil))⟩) | (obtain ⟨v1, v2, v3, v4, e, h1, h2, h3, h4⟩ := vreps4 h; subst e; exact ⟨_, BindsTo.of_eq rfl, .cons h1 (.cons h2 (.cons h3 (.cons h4 .nil)))⟩) | (obtain ⟨v1, v2, v3, v4, v5, e, h1, h2, h3, h4, h5⟩ := vreps5 h; subst e; exact ⟨_, BindsTo.of_eq rfl, .cons h1 (.cons h2 (.cons h3 (.cons h4 (.cons h5 .nil))))⟩)))); ((focus ((repeat (with_reducible first | exact L0.nil | apply L0.oth | apply L0.bind)); done))); ((focus ((repeat (with_reducible first | exact Nm.nil | apply Nm.cons)); done))); decide +kernel; decide +kernel; rfl; rfl; rfl; rfl))
  (first | ((with_reducible refine' hs_assign_meth ?z650_1 ?z650_2 ?z650_3 ?z650_4 ?z650_5 ?z650_6 ?z650_7 ?z650_8 ?z650_9 ?z650_10); (case z650_1 => walk_at "pv"); (case z650_2 => walk_at "inst"); (case z650_3 => walk_at "meth"); (case z650_4 => kernel_rfl); (case z650_5 => walk_at "pa"); (case z650_7 => exact ⟨_, fun _ => rfl⟩); (case z650_8 => rfl); (case z650_9 => rfl); (case z650_10 => (intro; rfl))) | fail "no")
  apply c_wlay g hn' hI.us hI.s8
  intro k σ1 k0 k8 hn1 k1
  refine ⟨_, by walk_at "lput", ?_⟩
  have h1 := h'.win hn1 k1 rfl rfl
  have h1' := h1
  obtain ⟨hn, hr, hj, ht, hb, ho, -⟩ := h1
  dsimp only at ho
  have bd := hI.bd
  (first | ((with_reducible refine' hs_extend_int ?z651_1 ?z651_2 ?z651_3 ?z651_4 ?z651_5 ?z651_6 ?z651_7 ?z651_8); (case z651_1 => walk_at "pv"); (case z651_2 => walk_at "hp"); (case z651_3 => walk_at "pai"); (case z651_4 => first | lia | (simp only [List.length_append, List.length_cons, List.length_nil]; lia)); (case z651_6 => exact ⟨_, fun _ => rfl⟩); (case z651_7 => exact interactive_no); (case z651_8 => (intro; rfl))) | fail "no")
  intro l2 hl2
  have h2 : Wr (upd (upd σ1 l2 (.list ([m + k, i].map MV.int))) l.o (.list ((v.octets ++ [m + k, i]).map MV.int))) l text { v with starts := v.starts.set k.toNat st, count := v.count + 1, used := v.used.set k.toNat (v.count + 1), active := k, octets := v.octets ++ [m + k, i] } := (h1'.kp (.new hl2)).oct (v.octets ++ [m + k, i])
  have h2' := h2
  obtain ⟨hn2, hr2, hj2, ht2, hb2, ho2, -⟩ := h2'
  (first | ((with_reducible refine' hs_methp ?z652_1 ?z652_2 ?z652_3 ?z652_4 ?z652_5 ?z652_6 ?z652_7 ?z652_8 ?z652_9 ?z652_10 ?z652_11); (case z652_1 => walk_at "pv"); (case z652_2 => walk_at "inst"); (case z652_3 => walk_at "meth"); (case z652_4 => kernel_rfl); (case z652_5 => walk_at "pa"); (case z652_7 => exact ⟨_, fun _ => rfl⟩); (case z652_8 => rfl); (case z652_9 => rfl); (case z652_10 => exact interactive_no); (case z652_11 => (intro; rfl))) | fail "no")
  have hI2 : Inv { v with starts := v.starts.set k.toNat st, count := v.count + 1, used := v.used.set k.toNat (v.count + 1), active := k, octets := v.octets ++ [m + k, i] } pre (B + 2) false := by
    have s8 := hI.s8
    have us := hI.us
    refine ⟨?_, by simpa using s8, by simpa using us, k0, k8, by simp; lia⟩
    rcases hm with ⟨rfl, rfl⟩ | ⟨rfl, rfl⟩
    · exact hI.rd.trans (rd_defN ⟨k0, k8⟩ hi hls)
    · exact hI.rd.trans (rd_defW ⟨k0, k8⟩ hi hls)
  refine HC.mono (c_put_in_active g (n := n) h2 hI2 (by lia) hc (.inr ?_) fun σ' v' hw' hI' hv' kk => ⟨rfl, ?_⟩) (show n + 1 ≤ n + 2 from nle rfl)
  · have := hI.s8
    unfold inWin; dsimp only; rw [getD_set (by lia)]; simp; lia
  · (((repeat (with_reducible first | refine' hs_endN ?_ | refine' hs_nil ?_)); first | assumption | skip))
    exact p _ _ hw' hI' (hv'.trans hv) ((((wwf k1).trans (.new hl2)).trans (.upd wfo)).trans kk)
theorem c_lay_far (g : Gp) {n : Nat} {σ l text v pre} {B : Nat} {w : Bool} {m c : Int} {Q : MV → MH → Prop} {X : MX → MH → Prop} (h : Wr σ l text v) (hI : Inv v pre B w) (hv : v.wide = false) (hz : B ≤ 50000) (hm : (m = 11 ∧ w = false) ∨ (m = 241 ∧ w = true)) (hc : 65536 ≤ c ∧ c ≤ 1114111)
    (p : VPost σ l text (pre ++ [c]) (B + 5) false Q) : HC (Gd g) (n + 3) (.ref 401) [.loc l.r, .int m, .int c] σ Q X := by
  have h' := h
  obtain ⟨hn, hr, hj, ht, hb, ho, -⟩ := h
  have hn' := hn
  obtain ⟨ww, wk, ws, wu, -⟩ := hn
  have hc0 := hc.1
  have hc1 := hc.2
  refine HCc.hc ?_
  apply fn_at 249 [("self", .loc l.r), ("command", .int m), ("code", .int c)] ["place", "start", "number"] rfl; kernel_rfl; ((kernel_rfl; (((intro W s av XK h; first | (have e := vreps0 h; subst e; exact ⟨_, BindsTo.of_eq rfl, .nil⟩) | (obtain ⟨v1, e, h1⟩ := vreps1 h; subst e; exact ⟨_, BindsTo.of_eq rfl, .cons h1 .nil⟩) | (obtain ⟨v1, v2, e, h1, h2⟩ := vreps2 h; subst e; exact ⟨_, BindsTo.of_eq rfl, .cons h1 (.cons h2 .nil)⟩) | (obtain ⟨v1, v2, v3, e, h1, h2, h3⟩ := vreps3 h; subst e; exact ⟨_, BindsTo.of_eq rfl, .cons h1 (.cons h2 (.cons h3 .nil))⟩) | (obtain ⟨v1, v2, v3, v4, e, h1, h2, h3, h4⟩ := vreps4 h; subst e; exact ⟨_, BindsTo.of_eq rfl, .cons h1 (.cons h2 (.cons h3 (.cons h4 .nil)))⟩) | (obtain ⟨v1, v2, v3, v4, v5, e, h1, h2, h3, h4, h5⟩ := vreps5 h; subst e; exact ⟨_, BindsTo.of_eq rfl, .cons h1 (.cons h2 (.cons h3 (.cons h4 (.cons h5 .nil))))⟩)))); ((focus ((repeat (with_reducible first | exact L0.nil | apply L0.oth | apply L0.bind)); done))); ((focus ((repeat (with_reducible first | exact Nm.nil | apply Nm.cons)); done))); decide +kernel; decide +kernel; rfl; rfl; rfl; rfl))
  refine hs_tuple ?_ rfl (fun _ => rfl) (fun _ => rfl)
  (first | ((with_reducible refine' he_callp ?z655_1 ?z655_2 ?z655_3 ?z655_4 ?z655_5 ?z655_6); (case z655_1 => walk_at "pv"); (case z655_2 => walk_at "pa"); (case z655_4 => walk_at "keeps"); (case z655_5 => rfl); (case z655_6 => rfl)) | fail "no")
  refine HC.mono (c_far g (n := n) (by lia) _ _ ⟨_, _, _, rfl, .name (by walk_at "lput") (.name (by walk_at "lput") .nil), ?_⟩) (show n + 1 ≤ n + 2 from nle rfl)
  have hp : 0 ≤ (c - 65536) / 128 ∧ (c - 65536) / 128 < 8192 := by lia
  have hst : 65536 + (c - 65536) / 128 * 128 ≤ c ∧ c < 65536 + (c - 65536) / 128 * 128 + 128 := by lia
  generalize (c - 65536) / 128 = P at hp hst ⊢
  have hp0 := hp.1
  have hp1 := hp.2
  (first | ((with_reducible refine' hs_assign_meth ?z656_1 ?z656_2 ?z656_3 ?z656_4 ?z656_5 ?z656_6 ?z656_7 ?z656_8 ?z656_9 ?z656_10); (case z656_1 => walk_at "pv"); (case z656_2 => walk_at "inst"); (case z656_3 => walk_at "meth"); (case z656_4 => kernel_rfl); (case z656_5 => walk_at "pa"); (case z656_7 => exact ⟨_, fun _ => rfl⟩); (case z656_8 => rfl); (case z656_9 => rfl); (case z656_10 => (intro; rfl))) | fail "no")
  apply c_wlay g hn' hI.us hI.s8
  intro k σ1 k0 k8 hn1 k1
  refine ⟨_, by walk_at "lput", ?_⟩
  have h1 := h'.win hn1 k1 rfl rfl
  have h1' := h1
  obtain ⟨hn, hr, hj, ht, hb, ho, -⟩ := h1
  dsimp only at ho
  have bd := hI.bd
  (first | ((with_reducible refine' hs_extend_int ?z657_1 ?z657_2 ?z657_3 ?z657_4 ?z657_5 ?z657_6 ?z657_7 ?z657_8); (case z657_1 => walk_at "pv"); (case z657_2 => walk_at "hp"); (case z657_3 => walk_at "pai"); (case z657_4 => first | lia | (simp only [List.length_append, List.length_cons, List.length_nil]; lia)); (case z657_6 => exact ⟨_, fun _ => rfl⟩); (case z657_7 => exact interactive_no); (case z657_8 => (intro; rfl))) | fail "no")
  intro l2 hl2
  have h2 : Wr (upd (upd σ1 l2 (.list ([m, k * 32 + P / 256, P % 256].map MV.int))) l.o (.list ((v.octets ++ [m, k * 32 + P / 256, P % 256]).map MV.int))) l text { v with starts := v.starts.set k.toNat (65536 + P * 128), count := v.count + 1, used := v.used.set k.toNat (v.count + 1), active := k, octets := v.octets ++ [m, k * 32 + P / 256, P % 256] } := (h1'.kp (.new hl2)).oct _
  have h2' := h2
  obtain ⟨hn2, hr2, hj2, ht2, hb2, ho2, -⟩ := h2'
  (first | ((with_reducible refine' hs_methp ?z658_1 ?z658_2 ?z658_3 ?z658_4 ?z658_5 ?z658_6 ?z658_7 ?z658_8 ?z658_9 ?z658_10 ?z658_11); (case z658_1 => walk_at "pv"); (case z658_2 => walk_at "inst"); (case z658_3 => walk_at "meth"); (case z658_4 => kernel_rfl); (case z658_5 => walk_at "pa"); (case z658_7 => exact ⟨_, fun _ => rfl⟩); (case z658_8 => rfl); (case z658_9 => rfl); (case z658_10 => exact interactive_no); (case z658_11 => (intro; rfl))) | fail "no")
  have hI2 : Inv { v with starts := v.starts.set k.toNat (65536 + P * 128), count := v.count + 1, used := v.used.set k.toNat (v.count + 1), active := k, octets := v.octets ++ [m, k * 32 + P / 256, P % 256] } pre (B + 3) false := by
    have s8 := hI.s8
    have us := hI.us
    refine ⟨?_, by simpa using s8, by simpa using us, k0, k8, by simp; lia⟩
    rcases hm with ⟨rfl, rfl⟩ | ⟨rfl, rfl⟩
    · exact hI.rd.trans (rd_farN ⟨k0, k8⟩ hp)
    · exact hI.rd.trans (rd_farW ⟨k0, k8⟩ hp)
  refine HC.mono (c_put_in_active g (n := n) h2 hI2 (by lia) (by lia) (.inr ?_) fun σ' v' hw' hI' hv' kk => ⟨rfl, ?_⟩) (show n + 1 ≤ n + 2 from nle rfl)
  · have := hI.s8
    unfold inWin; dsimp only; rw [getD_set (by lia)]; simp; lia
  · (((repeat (with_reducible first | refine' hs_endN ?_ | refine' hs_nil ?_)); first | assumption | skip))
    exact p _ _ hw' hI' (hv'.trans hv) ((((wwf k1).trans (.new hl2)).trans (.upd wfo)).trans kk)
noncomputable def Sc (c : Int) : Prop := (0 ≤ c ∧ c ≤ 1114111) ∧ NoSur c
theorem c_put_far_or_new (g : Gp) {n : Nat} {σ l text v pre} {B : Nat} {i : Nat} {c : Int} {Q : MV → MH → Prop} {X : MX → MH → Prop} (h : Wr σ l text v) (hI : Inv v pre B false) (hv : v.wide = false) (hz : B ≤ 50000) (hc : Sc c) (h128 : 128 ≤ c) (hna : ¬ (13312 ≤ c ∧ c < 57344))
    (p : VPost σ l text (pre ++ [c]) (B + 5) false Q) : HC (Gd g) (n + 4) (.ref 387) [.loc l.r, .int i, .int c] σ Q X := by
  have h' := h
  obtain ⟨hn, hr, hj, ht, hb, ho, -⟩ := h
  have bd := hI.bd
  obtain ⟨⟨hc0, hc1⟩, hns⟩ := hc
  refine HCc.hc ?_
  apply fn_at 239 [("self", .loc l.r), ("at", .int i), ("code", .int c)] ["many", "index", "start", "number"] rfl; kernel_rfl; ((kernel_rfl; (((intro W s av XK h; first | (have e := vreps0 h; subst e; exact ⟨_, BindsTo.of_eq rfl, .nil⟩) | (obtain ⟨v1, e, h1⟩ := vreps1 h; subst e; exact ⟨_, BindsTo.of_eq rfl, .cons h1 .nil⟩) | (obtain ⟨v1, v2, e, h1, h2⟩ := vreps2 h; subst e; exact ⟨_, BindsTo.of_eq rfl, .cons h1 (.cons h2 .nil)⟩) | (obtain ⟨v1, v2, v3, e, h1, h2, h3⟩ := vreps3 h; subst e; exact ⟨_, BindsTo.of_eq rfl, .cons h1 (.cons h2 (.cons h3 .nil))⟩) | (obtain ⟨v1, v2, v3, v4, e, h1, h2, h3, h4⟩ := vreps4 h; subst e; exact ⟨_, BindsTo.of_eq rfl, .cons h1 (.cons h2 (.cons h3 (.cons h4 .nil)))⟩) | (obtain ⟨v1, v2, v3, v4, v5, e, h1, h2, h3, h4, h5⟩ := vreps5 h; subst e; exact ⟨_, BindsTo.of_eq rfl, .cons h1 (.cons h2 (.cons h3 (.cons h4 (.cons h5 .nil))))⟩)))); ((focus ((repeat (with_reducible first | exact L0.nil | apply L0.oth | apply L0.bind)); done))); ((focus ((repeat (with_reducible first | exact Nm.nil | apply Nm.cons)); done))); decide +kernel; decide +kernel; rfl; rfl; rfl; rfl))
  (first | ((with_reducible refine' hs_ifp ?z661_1 ?z661_2 ?z661_3); (case z661_1 => walk_at "pb")) | fail "no")
  · intro h1
    have h1' : 65536 ≤ c := by simpa using h1
    (first | ((with_reducible refine' hs_methp ?z662_1 ?z662_2 ?z662_3 ?z662_4 ?z662_5 ?z662_6 ?z662_7 ?z662_8 ?z662_9 ?z662_10 ?z662_11); (case z662_1 => walk_at "pv"); (case z662_2 => walk_at "inst"); (case z662_3 => walk_at "meth"); (case z662_4 => kernel_rfl); (case z662_5 => walk_at "pa"); (case z662_7 => exact ⟨_, fun _ => rfl⟩); (case z662_8 => rfl); (case z662_9 => rfl); (case z662_10 => exact interactive_no); (case z662_11 => (intro; rfl))) | fail "no")
    refine c_lay_far g (n := n) h' hI hv hz (.inl ⟨rfl, rfl⟩) ⟨h1', hc1⟩ fun σ' v' a b d e => ⟨rfl, ?_⟩
    refine hs_ret0 ?_
    exact p σ' v' a b d e
  · intro h1; (try (with_reducible refine' hs_endN ?_))
    have h1' : c < 65536 := by simpa using h1
    refine hs_tuple ?_ rfl (fun _ => rfl) (fun _ => rfl)
    refine he_methp (by walk_at "pv") (by walk_at "inst") (m_432_best_window g) (notKey_mem (by kernel_rfl)) (by walk_at "pa") ?_ ⟨_, fun _ => rfl⟩ rfl rfl
    refine c_best g (n := n) h' (by lia) fun k w σ1 hw k1 => ⟨_, _, _, rfl, .name (by walk_at "lput") (.name (by walk_at "lput") (.name (by walk_at "lput") .nil)), ?_⟩
    obtain ⟨wi, ws⟩ := w
    dsimp only
    have h2 := h'.kp k1
    have h2' := h2
    obtain ⟨hn, hr, hj, ht, hb, ho, -⟩ := h2
    (first | ((with_reducible refine' hs_assign_meth ?z664_1 ?z664_2 ?z664_3 ?z664_4 ?z664_5 ?z664_6 ?z664_7 ?z664_8 ?z664_9 ?z664_10); (case z664_1 => walk_at "pv"); (case z664_2 => walk_at "inst"); (case z664_3 => walk_at "meth"); (case z664_4 => kernel_rfl); (case z664_5 => walk_at "pa"); (case z664_7 => exact ⟨_, fun _ => rfl⟩); (case z664_8 => rfl); (case z664_9 => rfl); (case z664_10 => (intro; rfl))) | fail "no")
    refine HC.mono (c_static g (n := n) h2' fun o hO => ⟨_, by walk_at "lput", ?_⟩) (show n + 1 ≤ n + 3 from nle rfl)
    have k1' : Kp (wfoot l) σ σ1 := k1.sub fun _ z => absurd z List.not_mem_nil
    (first | ((with_reducible refine' hs_ifp ?z665_1 ?z665_2 ?z665_3); (case z665_1 => walk_at "pb")) | fail "no")
    · intro h3
      have h3' : o.isSome = true := by
        cases o with
        | none => simp at h3
        | some x => rfl
      obtain ⟨x, rfl⟩ := Option.isSome_iff_exists.mp h3'
      obtain ⟨x0, x8, hx⟩ := hO x rfl
      have hx' := inWin_iff hx
      dsimp only [mvo]
      have hsl : statics.length = 8 := rfl
      (first | ((with_reducible refine' hs_extend_int ?z666_1 ?z666_2 ?z666_3 ?z666_4 ?z666_5 ?z666_6 ?z666_7 ?z666_8); (case z666_1 => walk_at "pv"); (case z666_2 => walk_at "hp"); (case z666_3 => walk_at "pai"); (case z666_4 => first | lia | (simp only [List.length_append, List.length_cons, List.length_nil]; lia)); (case z666_6 => exact ⟨_, fun _ => rfl⟩); (case z666_7 => exact interactive_no); (case z666_8 => (intro; rfl))) | fail "no")
      intro l2 hl2
      (((repeat (with_reducible first | refine' hs_endN ?_ | refine' hs_nil ?_)); first | assumption | skip))
      refine p _ { v with octets := v.octets ++ [_, _] } ((h2'.kp (.new hl2)).oct _) (hI.add (rd_quoteS ⟨x0, x8⟩ hx') (by simp)) hv ((k1'.trans (.new hl2)).trans (.upd wfo))
    · intro h3; (try (with_reducible refine' hs_endN ?_))
      (first | ((with_reducible refine' hs_ifp ?z669_1 ?z669_2 ?z669_3); (case z669_1 => walk_at "pb")) | fail "no")
      · intro h4
        (first | ((with_reducible refine' hs_extend_int ?z670_1 ?z670_2 ?z670_3 ?z670_4 ?z670_5 ?z670_6 ?z670_7 ?z670_8); (case z670_1 => walk_at "pv"); (case z670_2 => walk_at "hp"); (case z670_3 => walk_at "pai"); (case z670_4 => first | lia | (simp only [List.length_append, List.length_cons, List.length_nil]; lia)); (case z670_6 => exact ⟨_, fun _ => rfl⟩); (case z670_7 => exact interactive_no); (case z670_8 => (intro; rfl))) | fail "no")
        intro l2 hl2
        (((repeat (with_reducible first | refine' hs_endN ?_ | refine' hs_nil ?_)); first | assumption | skip))
        refine p _ { v with octets := v.octets ++ [_, _, _] } ((h2'.kp (.new hl2)).oct _) (hI.add (rd_unitN ⟨hc0, h1'⟩ hns) (by simp)) hv ((k1'.trans (.new hl2)).trans (.upd wfo))
      · intro h4; (try (with_reducible refine' hs_endN ?_))
        (first | ((with_reducible refine' hs_methp ?z673_1 ?z673_2 ?z673_3 ?z673_4 ?z673_5 ?z673_6 ?z673_7 ?z673_8 ?z673_9 ?z673_10 ?z673_11); (case z673_1 => walk_at "pv"); (case z673_2 => walk_at "inst"); (case z673_3 => walk_at "meth"); (case z673_4 => kernel_rfl); (case z673_5 => walk_at "pa"); (case z673_7 => exact ⟨_, fun _ => rfl⟩); (case z673_8 => rfl); (case z673_9 => rfl); (case z673_10 => exact interactive_no); (case z673_11 => (intro; rfl))) | fail "no")
        refine c_lay g (n := n) h2' hI hv hz (.inl ⟨rfl, rfl⟩) hc0 hw fun σ' v' a b d e => ⟨rfl, ?_⟩
        (((repeat (with_reducible first | refine' hs_endN ?_ | refine' hs_nil ?_)); first | assumption | skip))
        exact p σ' v' a (b.le (by lia)) d (k1'.trans e)
end

section
theorem Inv.setw {v pre B w} (h : Inv v pre B w) (x : Bool) : Inv { v with wide := x } pre B w := ⟨h.rd, h.s8, h.us, h.a0, h.a8, h.bd⟩
theorem Inv.atw {v pre B} (h : Inv v pre B false) (e : v.wide = false) : Inv v pre B v.wide := by rw [e]; exact h
theorem c_put_unit_or_go (g : Gp) {n : Nat} {σ l text v pre} {B : Nat} {i : Nat} {c : Int} {Q : MV → MH → Prop} {X : MX → MH → Prop} (h : Wr σ l text v) (hI : Inv v pre B false) (hv : v.wide = false) (hz : B ≤ 50000) (ht2 : text.length ≤ 1000) (hc : 13312 ≤ c ∧ c < 57344) (hns : NoSur c)
    (p : ∀ σ' v', Wr σ' l text v' → Inv v' (pre ++ [c]) (B + 3) v'.wide → Kp (wfoot l) σ σ' → Q .none σ') : HC (Gd g) (n + 2) (.ref 380) [.loc l.r, .int i, .int c] σ Q X := by
  have h' := h
  obtain ⟨hn, hr, hj, ht, hb, ho, -⟩ := h
  have bd := hI.bd
  have hc0 := hc.1
  have hc1 := hc.2
  refine HCc.hc ?_
  apply fn_at 234 [("self", .loc l.r), ("at", .int i), ("code", .int c)] [] rfl; kernel_rfl; ((kernel_rfl; (((intro W s av XK h; first | (have e := vreps0 h; subst e; exact ⟨_, BindsTo.of_eq rfl, .nil⟩) | (obtain ⟨v1, e, h1⟩ := vreps1 h; subst e; exact ⟨_, BindsTo.of_eq rfl, .cons h1 .nil⟩) | (obtain ⟨v1, v2, e, h1, h2⟩ := vreps2 h; subst e; exact ⟨_, BindsTo.of_eq rfl, .cons h1 (.cons h2 .nil)⟩) | (obtain ⟨v1, v2, v3, e, h1, h2, h3⟩ := vreps3 h; subst e; exact ⟨_, BindsTo.of_eq rfl, .cons h1 (.cons h2 (.cons h3 .nil))⟩) | (obtain ⟨v1, v2, v3, v4, e, h1, h2, h3, h4⟩ := vreps4 h; subst e; exact ⟨_, BindsTo.of_eq rfl, .cons h1 (.cons h2 (.cons h3 (.cons h4 .nil)))⟩) | (obtain ⟨v1, v2, v3, v4, v5, e, h1, h2, h3, h4, h5⟩ := vreps5 h; subst e; exact ⟨_, BindsTo.of_eq rfl, .cons h1 (.cons h2 (.cons h3 (.cons h4 (.cons h5 .nil))))⟩)))); ((focus ((repeat (with_reducible first | exact L0.nil | apply L0.oth | apply L0.bind)); done))); ((focus ((repeat (with_reducible first | exact Nm.nil | apply Nm.cons)); done))); decide +kernel; decide +kernel; rfl; rfl; rfl; rfl))
  refine hs_if (HT.weaken (Q := fun (_ : Bool) σ1 => σ1 = σ) (X := X) ?_ (fun b σ1 e => ?_) fun _ _ z => z)
  · refine hb_and (hb_pb (v := decide ((i : Int) + 1 < (text.length : Int))) ?_ ?_)
    · refine pb_cmp (by walk_at "pv") ?_ (by walk_at "cmp") rfl
      refine pv_call (by walk_at "pv") (by walk_at "pa") ?_ (by walk_at "keeps") rfl rfl
      have := pc_len_list (G := Gd g) (n := n + 1) ht
      rwa [List.length_map] at this
    · split
      · rename_i hlt
        have hlt' : i + 1 < text.length := by have := of_decide_eq_true hlt; lia
        exact hb_pb (by walk_at "pb") rfl
      · rfl
  subst e
  have hcw : c / 256 < 224 ∨ 242 < c / 256 := by lia
  refine ⟨fun _ => ?_, fun _ => ?_⟩
  · (first | ((with_reducible refine' hs_setattrp ?z685_1 ?z685_2 ?z685_3 ?z685_4 ?z685_5 ?z685_6 ?z685_7); (case z685_1 => walk_at "pv"); (case z685_2 => walk_at "pv"); (case z685_3 => walk_at "inst"); (case z685_4 => (with_reducible exact SetI_ok _ (by constructor))); (case z685_5 => (first | (apply APut.old; walk_at "put") | (apply aput_new; kernel_rfl; exact Nat.le_of_ble_eq_true rfl))); (case z685_7 => (intro; rfl))) | fail "no")
    have h2 := h'.setw true
    have h2' := h2
    obtain ⟨hn2, hr2, hj2, ht2, hb2, ho2, -⟩ := h2'
    dsimp only at ho2
    (first | ((with_reducible refine' hs_extend_int ?z686_1 ?z686_2 ?z686_3 ?z686_4 ?z686_5 ?z686_6 ?z686_7 ?z686_8); (case z686_1 => walk_at "pv"); (case z686_2 => walk_at "hp"); (case z686_3 => walk_at "pai"); (case z686_4 => first | lia | (simp only [List.length_append, List.length_cons, List.length_nil]; lia)); (case z686_6 => exact ⟨_, fun _ => rfl⟩); (case z686_7 => exact interactive_no); (case z686_8 => (intro; rfl))) | fail "no")
    intro l2 hl2
    (((repeat (with_reducible first | refine' hs_endN ?_ | refine' hs_nil ?_)); first | assumption | skip))
    refine p _ { v with wide := true, octets := v.octets ++ [_, _, _] } ((h2.kp (.new hl2)).oct _) ((hI.add (B' := B + 3) (rd_goUnit ⟨by lia, by lia⟩ hcw hns) (by simp)).setw true) (((Kp.upd wfj).trans (.new hl2)).trans (.upd wfo))
  · (first | ((with_reducible refine' hs_extend_int ?z688_1 ?z688_2 ?z688_3 ?z688_4 ?z688_5 ?z688_6 ?z688_7 ?z688_8); (case z688_1 => walk_at "pv"); (case z688_2 => walk_at "hp"); (case z688_3 => walk_at "pai"); (case z688_4 => first | lia | (simp only [List.length_append, List.length_cons, List.length_nil]; lia)); (case z688_6 => exact ⟨_, fun _ => rfl⟩); (case z688_7 => exact interactive_no); (case z688_8 => (intro; rfl))) | fail "no")
    intro l2 hl2
    (((repeat (with_reducible first | refine' hs_endN ?_ | refine' hs_nil ?_)); first | assumption | skip))
    refine p _ { v with octets := v.octets ++ [_, _, _] } ((h'.kp (.new hl2)).oct _) (Inv.atw (hI.add (B' := B + 3) (rd_unitN ⟨by lia, by lia⟩ hns) (by simp)) hv) ((Kp.new hl2).trans (.upd wfo))
theorem c_does_leave (g : Gp) {n : Nat} {σ l text v} {i : Nat} {Q : MV → MH → Prop} {X : MX → MH → Prop} (h : Wr σ l text v) (p : ∀ b, Q (.bool b) σ) : HC (Gd g) (n + 2) (.ref 408) [.loc l.r, .int i] σ Q X := by
  obtain ⟨hn, hr, hj, ht, hb, ho, -⟩ := h
  refine HCc.hc ?_
  apply fn_at 254 [("self", .loc l.r), ("at", .int i)] [] rfl; kernel_rfl; ((kernel_rfl; (((intro W s av XK h; first | (have e := vreps0 h; subst e; exact ⟨_, BindsTo.of_eq rfl, .nil⟩) | (obtain ⟨v1, e, h1⟩ := vreps1 h; subst e; exact ⟨_, BindsTo.of_eq rfl, .cons h1 .nil⟩) | (obtain ⟨v1, v2, e, h1, h2⟩ := vreps2 h; subst e; exact ⟨_, BindsTo.of_eq rfl, .cons h1 (.cons h2 .nil)⟩) | (obtain ⟨v1, v2, v3, e, h1, h2, h3⟩ := vreps3 h; subst e; exact ⟨_, BindsTo.of_eq rfl, .cons h1 (.cons h2 (.cons h3 .nil))⟩) | (obtain ⟨v1, v2, v3, v4, e, h1, h2, h3, h4⟩ := vreps4 h; subst e; exact ⟨_, BindsTo.of_eq rfl, .cons h1 (.cons h2 (.cons h3 (.cons h4 .nil)))⟩) | (obtain ⟨v1, v2, v3, v4, v5, e, h1, h2, h3, h4, h5⟩ := vreps5 h; subst e; exact ⟨_, BindsTo.of_eq rfl, .cons h1 (.cons h2 (.cons h3 (.cons h4 (.cons h5 .nil))))⟩)))); ((focus ((repeat (with_reducible first | exact L0.nil | apply L0.oth | apply L0.bind)); done))); ((focus ((repeat (with_reducible first | exact Nm.nil | apply Nm.cons)); done))); decide +kernel; decide +kernel; rfl; rfl; rfl; rfl))
  refine hs_ret (he_andv (he_pv (v := .bool (decide ((i : Int) + 1 < (text.length : Int)))) ?_ ⟨_, Tru.bool _, ?_⟩))
  · refine pv_cmp (by walk_at "pv") ?_ (by walk_at "cmp") rfl
    refine pv_call (by walk_at "pv") (by walk_at "pa") ?_ (by walk_at "keeps") rfl rfl
    have := pc_len_list (G := Gd g) (n := n + 1) ht
    rwa [List.length_map] at this
  · split
    · rename_i hlt
      have hlt' : i + 1 < text.length := by have := of_decide_eq_true hlt; lia
      refine he_one ?_
      refine he_notv (he_pv (by walk_at "pv") ⟨_, Tru.bool _, p _⟩)
    · exact p _
theorem cmp_eqo {σ} (o : Option Int) (a : Int) : Cmp σ .Eq (mvo o) (.int a) (decide (o = some a)) := by
  cases o with
  | none => exact .eqd (dx := .none) (dy := .int a) .none (.int a)
  | some k =>
    have e : decide (some k = some a) = decide (k = a) := by simp
    rw [e]; exact .eq k a
/-- the window that a code finds: the value of the conditional expression -/
noncomputable def Found (v : WrV) (c : Int) (o : Option Int) : Prop := (o = none ∧ 128 ≤ c) ∨ ∃ k, o = some k ∧ 0 ≤ k ∧ k < 8 ∧ ((c < 128 ∧ k = v.active) ∨ inWin v.starts k c = true)
theorem c_put_narrow (g : Gp) {n : Nat} {σ l text v pre} {B : Nat} {i : Nat} {c : Int} {Q : MV → MH → Prop} {X : MX → MH → Prop} (h : Wr σ l text v) (hI : Inv v pre B false) (hv : v.wide = false) (hz : B ≤ 40000) (ht2 : text.length ≤ 1000) (hc : Sc c)
    (p : ∀ σ' v', Wr σ' l text v' → Inv v' (pre ++ [c]) (B + 6) v'.wide → Kp (wfoot l) σ σ' → Q .none σ') : HC (Gd g) (n + 5) (.ref 373) [.loc l.r, .int i, .int c] σ Q X := by
  have h' := h
  obtain ⟨hn, hr, hj, ht, hb, ho, -⟩ := h
  have hn' := hn
  obtain ⟨ww, wk, ws, wu, -⟩ := hn
  have bd := hI.bd
  have s8 := hI.s8
  have us := hI.us
  have a0 := hI.a0
  have a8 := hI.a8
  have hc' := hc
  obtain ⟨⟨hc0, hc1⟩, hns⟩ := hc
  refine HCc.hc ?_
  apply fn_at 229 [("self", .loc l.r), ("at", .int i), ("code", .int c)] ["windows", "number"] rfl; kernel_rfl; ((kernel_rfl; (((intro W s av XK h; first | (have e := vreps0 h; subst e; exact ⟨_, BindsTo.of_eq rfl, .nil⟩) | (obtain ⟨v1, e, h1⟩ := vreps1 h; subst e; exact ⟨_, BindsTo.of_eq rfl, .cons h1 .nil⟩) | (obtain ⟨v1, v2, e, h1, h2⟩ := vreps2 h; subst e; exact ⟨_, BindsTo.of_eq rfl, .cons h1 (.cons h2 .nil)⟩) | (obtain ⟨v1, v2, v3, e, h1, h2, h3⟩ := vreps3 h; subst e; exact ⟨_, BindsTo.of_eq rfl, .cons h1 (.cons h2 (.cons h3 .nil))⟩) | (obtain ⟨v1, v2, v3, v4, e, h1, h2, h3, h4⟩ := vreps4 h; subst e; exact ⟨_, BindsTo.of_eq rfl, .cons h1 (.cons h2 (.cons h3 (.cons h4 .nil)))⟩) | (obtain ⟨v1, v2, v3, v4, v5, e, h1, h2, h3, h4, h5⟩ := vreps5 h; subst e; exact ⟨_, BindsTo.of_eq rfl, .cons h1 (.cons h2 (.cons h3 (.cons h4 (.cons h5 .nil))))⟩)))); ((focus ((repeat (with_reducible first | exact L0.nil | apply L0.oth | apply L0.bind)); done))); ((focus ((repeat (with_reducible first | exact Nm.nil | apply Nm.cons)); done))); decide +kernel; decide +kernel; rfl; rfl; rfl; rfl))
  (first | ((with_reducible refine' hs_assignp ?z692_1 ?z692_2 ?z692_3 ?z692_4); (case z692_1 => walk_at "pv"); (case z692_2 => walk_at "lput"); (case z692_4 => (intro; rfl))) | fail "no")
  refine hs_assign (HT.weaken (Q := fun x σ1 => σ1 = σ ∧ ∃ o, x = mvo o ∧ Found v c o) (X := X) ?_ (fun x σ1 q => ?_) fun _ _ z => z) (by intro; rfl)
  · refine he_ifexpp (by walk_at "pb") (fun h1 => ?_) fun h1 => ?_
    · have h1' : 128 ≤ c := by simpa using h1
      refine he_methp (by walk_at "pv") (by walk_at "inst") (m_306_number_of g) (notKey_mem (by kernel_rfl)) (by walk_at "pa") ?_ ⟨_, fun _ => rfl⟩ rfl rfl
      refine HC.mono (c_number_of g (n := n) hn' s8 ⟨a0, a8⟩ fun o hO => ⟨rfl, o, rfl, ?_⟩) (show n + 2 ≤ n + 4 from nle rfl)
      cases o with
      | none => exact .inl ⟨rfl, h1'⟩
      | some k => obtain ⟨x0, x8, hx⟩ := hO k rfl; exact .inr ⟨k, rfl, x0, x8, .inr hx⟩
    · have h1' : c < 128 := by simpa using h1
      exact he_pv (by walk_at "pv") ⟨rfl, some v.active, rfl, .inr ⟨v.active, rfl, a0, a8, .inl ⟨h1', rfl⟩⟩⟩
  obtain ⟨rfl, o, rfl, hF⟩ := q
  refine ⟨_, by walk_at "lput", ?_⟩
  refine hs_ifp (pb_cmp (by walk_at "pv") (by walk_at "pv") (cmp_eqo o v.active) rfl) (fun h1 => ?_) fun h1 => ?_
  · have h1' : o = some v.active := of_decide_eq_true h1
    subst h1'
    (first | ((with_reducible refine' hs_methp ?z693_1 ?z693_2 ?z693_3 ?z693_4 ?z693_5 ?z693_6 ?z693_7 ?z693_8 ?z693_9 ?z693_10 ?z693_11); (case z693_1 => walk_at "pv"); (case z693_2 => walk_at "inst"); (case z693_3 => walk_at "meth"); (case z693_4 => kernel_rfl); (case z693_5 => walk_at "pa"); (case z693_7 => exact ⟨_, fun _ => rfl⟩); (case z693_8 => rfl); (case z693_9 => rfl); (case z693_10 => exact interactive_no); (case z693_11 => (intro; rfl))) | fail "no")
    refine HC.mono (c_put_in_active g (n := n) h' hI (by lia) hc0 ?_ fun σ' v' a b d e => ⟨rfl, ?_⟩) (show n + 1 ≤ n + 4 from nle rfl)
    · rcases hF with ⟨z, -⟩ | ⟨k, e, -, -, hk⟩
      · cases z
      · cases e
        rcases hk with ⟨z, -⟩ | z
        · exact .inl z
        · exact .inr z
    · (((repeat (with_reducible first | refine' hs_endN ?_ | refine' hs_nil ?_)); first | assumption | skip))
      exact p σ' v' a (by rw [d, hv]; exact b.le (by lia)) e
  · have h1' : o ≠ some v.active := of_decide_eq_false h1
    (try (with_reducible refine' hs_endN ?_))
    cases o with
    | none =>
      have h128 : 128 ≤ c := by
        rcases hF with ⟨-, z⟩ | ⟨k, e, -⟩
        · exact z
        · cases e
      refine hs_ifp (c := false) (pb_and2 (pb_cmp (by walk_at "pv") (by walk_at "pv") cmp_notNone rfl) (c := true) fun z => by cases z) (fun z => by cases z) fun _ => ?_
      (try (with_reducible refine' hs_endN ?_))
      refine hs_ifp (pb_cmp (by walk_at "pv") (by walk_at "pv") cmp_notNone rfl) (fun z => by cases z) fun _ => ?_
      (try (with_reducible refine' hs_endN ?_))
      (first | ((with_reducible refine' hs_ifp ?z698_1 ?z698_2 ?z698_3); (case z698_1 => walk_at "pb")) | fail "no")
      · intro h2
        have h2' : 13312 ≤ c ∧ c < 57344 := by simpa using h2
        (first | ((with_reducible refine' hs_methp ?z699_1 ?z699_2 ?z699_3 ?z699_4 ?z699_5 ?z699_6 ?z699_7 ?z699_8 ?z699_9 ?z699_10 ?z699_11); (case z699_1 => walk_at "pv"); (case z699_2 => walk_at "inst"); (case z699_3 => walk_at "meth"); (case z699_4 => kernel_rfl); (case z699_5 => walk_at "pa"); (case z699_7 => exact ⟨_, fun _ => rfl⟩); (case z699_8 => rfl); (case z699_9 => rfl); (case z699_10 => exact interactive_no); (case z699_11 => (intro; rfl))) | fail "no")
        refine HC.mono (c_put_unit_or_go g (n := n) h' hI hv (by lia) ht2 h2' hns fun σ' v' a b d => ⟨rfl, ?_⟩) (show n + 2 ≤ n + 4 from nle rfl)
        (((repeat (with_reducible first | refine' hs_endN ?_ | refine' hs_nil ?_)); first | assumption | skip))
        exact p σ' v' a (b.le (by lia)) d
      · intro h2; (try (with_reducible refine' hs_endN ?_))
        have h2' : ¬ (13312 ≤ c ∧ c < 57344) := by simpa using h2
        (((repeat (with_reducible first | refine' hs_endN ?_ | refine' hs_nil ?_)); first | assumption | skip))
        (first | ((with_reducible refine' hs_methp ?z703_1 ?z703_2 ?z703_3 ?z703_4 ?z703_5 ?z703_6 ?z703_7 ?z703_8 ?z703_9 ?z703_10 ?z703_11); (case z703_1 => walk_at "pv"); (case z703_2 => walk_at "inst"); (case z703_3 => walk_at "meth"); (case z703_4 => kernel_rfl); (case z703_5 => walk_at "pa"); (case z703_7 => exact ⟨_, fun _ => rfl⟩); (case z703_8 => rfl); (case z703_9 => rfl); (case z703_10 => exact interactive_no); (case z703_11 => (intro; rfl))) | fail "no")
        refine c_put_far_or_new g (n := n) h' hI hv (by lia) hc' h128 h2' fun σ' v' a b d e => ⟨rfl, ?_⟩
        (((repeat (with_reducible first | refine' hs_endN ?_ | refine' hs_nil ?_)); first | assumption | skip))
        exact p σ' v' a (by rw [d]; exact b.le (by lia)) e
    | some k =>
      obtain ⟨k0, k8, hk⟩ : 0 ≤ k ∧ k < 8 ∧ inWin v.starts k c = true := by
        rcases hF with ⟨z, -⟩ | ⟨k', e, x0, x8, hk⟩
        · cases z
        · cases e
          rcases hk with ⟨-, z⟩ | z
          · exact absurd (by rw [z]) h1'
          · exact ⟨x0, x8, z⟩
      have hk' := inWin_iff hk
      dsimp only [mvo]
      refine hs_if (HT.weaken (Q := fun (_ : Bool) σ2 => Kp [] σ1 σ2) (X := X) ?_ (fun b σ2 k1 => ?_) fun _ _ z => z)
      · refine hb_and (hb_pb (v := true) (pb_cmp (by walk_at "pv") (by walk_at "pv") (cmp_notI k) rfl) ?_)
        rw [if_pos rfl]
        refine hb_and (hb_cmp (he_methp (by walk_at "pv") (by walk_at "inst") (m_432_run g) (notKey_mem (by kernel_rfl)) (by walk_at "pa") ?_ ⟨_, fun _ => rfl⟩ rfl rfl) rfl)
        refine HC.mono (c_run g (n := n) h' fun m σ2 k1 => ?_) (show n + 1 ≤ n + 4 from nle rfl)
        refine he_pv (v := .int 1) (by walk_at "pv") ⟨_, Cmp.gt _ _, ?_⟩
        split
        · exact hb_and_nil k1
        · exact k1
      have h2 := h'.kp k1
      have h2' := h2
      obtain ⟨hn, hr, hj, ht, hb, ho, -⟩ := h2
      have hn2 := hn
      obtain ⟨ww, wk, ws, wu, -⟩ := hn
      have k1' : Kp (wfoot l) σ1 σ2 := k1.sub fun _ z => absurd z List.not_mem_nil
      refine ⟨fun _ => ?_, fun _ => ?_⟩
      · (first | ((with_reducible refine' hs_methp ?z705_1 ?z705_2 ?z705_3 ?z705_4 ?z705_5 ?z705_6 ?z705_7 ?z705_8 ?z705_9 ?z705_10 ?z705_11); (case z705_1 => walk_at "pv"); (case z705_2 => walk_at "inst"); (case z705_3 => walk_at "meth"); (case z705_4 => kernel_rfl); (case z705_5 => walk_at "pa"); (case z705_7 => exact ⟨_, fun _ => rfl⟩); (case z705_8 => rfl); (case z705_9 => rfl); (case z705_10 => exact interactive_no); (case z705_11 => (intro; rfl))) | fail "no")
        refine HC.mono (c_use g (n := n) hn2 k0 (by lia) fun σ3 hn3 k3 => ⟨rfl, ?_⟩) (show n + 1 ≤ n + 4 from nle rfl)
        have h3 := h2'.win hn3 k3 rfl rfl
        have h3' := h3
        obtain ⟨hn, hr, hj, ht, hb, ho, -⟩ := h3
        dsimp only at ho
        (first | ((with_reducible refine' hs_append_int ?z706_1 ?z706_2 ?z706_3 ?z706_4 ?z706_5 ?z706_6 ?z706_7 ?z706_8 ?z706_9); (case z706_1 => walk_at "pv"); (case z706_2 => walk_at "pv"); (case z706_3 => walk_at "hp"); (case z706_4 => first | assumption | lia | (simp only [List.length_append, List.length_cons, List.length_nil]; lia)); (case z706_6 => exact ⟨_, fun _ => rfl⟩); (case z706_7 => rfl); (case z706_8 => exact interactive_no); (case z706_9 => (intro; rfl))) | fail "no")
        have h4 := h3'.oct (v.octets ++ [16 + k])
        have h4' := h4
        obtain ⟨hn, hr, hj, ht, hb, ho, -⟩ := h4
        (((repeat (with_reducible first | refine' hs_endN ?_ | refine' hs_nil ?_)); first | assumption | skip))
        (first | ((with_reducible refine' hs_methp ?z708_1 ?z708_2 ?z708_3 ?z708_4 ?z708_5 ?z708_6 ?z708_7 ?z708_8 ?z708_9 ?z708_10 ?z708_11); (case z708_1 => walk_at "pv"); (case z708_2 => walk_at "inst"); (case z708_3 => walk_at "meth"); (case z708_4 => kernel_rfl); (case z708_5 => walk_at "pa"); (case z708_7 => exact ⟨_, fun _ => rfl⟩); (case z708_8 => rfl); (case z708_9 => rfl); (case z708_10 => exact interactive_no); (case z708_11 => (intro; rfl))) | fail "no")
        have hI4 : Inv { v with count := v.count + 1, used := v.used.set k.toNat (v.count + 1), active := k, octets := v.octets ++ [16 + k] } pre (B + 1) false :=
          ⟨hI.rd.trans (rd_change ⟨k0, k8⟩), s8, by simpa using us, k0, k8, by simp; lia⟩
        refine HC.mono (c_put_in_active g (n := n) h4' hI4 (by lia) hc0 (.inr hk) fun σ' v' a b d e => ⟨rfl, ?_⟩) (show n + 1 ≤ n + 4 from nle rfl)
        (((repeat (with_reducible first | refine' hs_endN ?_ | refine' hs_nil ?_)); first | assumption | skip))
        exact p σ' v' a (by rw [d, show _ = false from hv]; exact b.le (by lia)) (((k1'.trans (wwf k3)).trans (.upd wfo)).trans e)
      · (try (with_reducible refine' hs_endN ?_))
        refine hs_ifp (pb_cmp (by walk_at "pv") (by walk_at "pv") (cmp_notI k) rfl) (fun _ => ?_) fun z => by cases z
        (first | ((with_reducible refine' hs_extend_int ?z711_1 ?z711_2 ?z711_3 ?z711_4 ?z711_5 ?z711_6 ?z711_7 ?z711_8); (case z711_1 => walk_at "pv"); (case z711_2 => walk_at "hp"); (case z711_3 => walk_at "pai"); (case z711_4 => first | lia | (simp only [List.length_append, List.length_cons, List.length_nil]; lia)); (case z711_6 => exact ⟨_, fun _ => rfl⟩); (case z711_7 => exact interactive_no); (case z711_8 => (intro; rfl))) | fail "no")
        intro l2 hl2
        (((repeat (with_reducible first | refine' hs_endN ?_ | refine' hs_nil ?_)); first | assumption | skip))
        refine p _ { v with octets := v.octets ++ [_, _] } ((h2'.kp (.new hl2)).oct _) (Inv.atw (hI.add (B' := B + 6) (rd_quoteW ⟨k0, k8⟩ hk') (by simp)) hv) ((k1'.trans (.new hl2)).trans (.upd wfo))
end

section
theorem HC.weaken {G : Gl} {n : Nat} {f vs σ} {Q Q' : MV → MH → Prop} {X : MX → MH → Prop} (h : HC G n f vs σ Q X) (hq : ∀ x σ', Q x σ' → Q' x σ') : HC G n f vs σ Q' X :=
  fun F C W ρ s av QQ EE hn hd st hav p px => h F C W ρ s av QQ EE hn hd st hav (fun W' b σ' a s' h1 h2 q r st => p W' b σ' a s' h1 h2 (hq _ _ q) r st) px
theorem c_leave (g : Gp) {n : Nat} {σ l text v pre} {B : Nat} {i : Nat} {c : Int} {Q : MV → MH → Prop} {X : MX → MH → Prop} (h : Wr σ l text v) (hI : Inv v pre B true) (hv : v.wide = false) (hz : B ≤ 40000) (hc : Sc c) (hna : ¬ (13312 ≤ c ∧ c < 57344))
    (p : ∀ σ' v', Wr σ' l text v' → Inv v' (pre ++ [c]) (B + 6) v'.wide → Kp (wfoot l) σ σ' → Q .none σ') : HC (Gd g) (n + 4) (.ref 429) [.loc l.r, .int i, .int c] σ Q X := by
  have h' := h
  obtain ⟨hn, hr, hj, ht, hb, ho, -⟩ := h
  have hn' := hn
  obtain ⟨ww, wk, ws, wu, -⟩ := hn
  have bd := hI.bd
  have s8 := hI.s8
  have us := hI.us
  have a0 := hI.a0
  have a8 := hI.a8
  have hc' := hc
  obtain ⟨⟨hc0, hc1⟩, hns⟩ := hc
  refine HCc.hc ?_
  apply fn_at 269 [("self", .loc l.r), ("at", .int i), ("code", .int c)] ["windows", "number", "many", "index", "start"] rfl; kernel_rfl; ((kernel_rfl; (((intro W s av XK h; first | (have e := vreps0 h; subst e; exact ⟨_, BindsTo.of_eq rfl, .nil⟩) | (obtain ⟨v1, e, h1⟩ := vreps1 h; subst e; exact ⟨_, BindsTo.of_eq rfl, .cons h1 .nil⟩) | (obtain ⟨v1, v2, e, h1, h2⟩ := vreps2 h; subst e; exact ⟨_, BindsTo.of_eq rfl, .cons h1 (.cons h2 .nil)⟩) | (obtain ⟨v1, v2, v3, e, h1, h2, h3⟩ := vreps3 h; subst e; exact ⟨_, BindsTo.of_eq rfl, .cons h1 (.cons h2 (.cons h3 .nil))⟩) | (obtain ⟨v1, v2, v3, v4, e, h1, h2, h3, h4⟩ := vreps4 h; subst e; exact ⟨_, BindsTo.of_eq rfl, .cons h1 (.cons h2 (.cons h3 (.cons h4 .nil)))⟩) | (obtain ⟨v1, v2, v3, v4, v5, e, h1, h2, h3, h4, h5⟩ := vreps5 h; subst e; exact ⟨_, BindsTo.of_eq rfl, .cons h1 (.cons h2 (.cons h3 (.cons h4 (.cons h5 .nil))))⟩)))); ((focus ((repeat (with_reducible first | exact L0.nil | apply L0.oth | apply L0.bind)); done))); ((focus ((repeat (with_reducible first | exact Nm.nil | apply Nm.cons)); done))); decide +kernel; decide +kernel; rfl; rfl; rfl; rfl))
  (first | ((with_reducible refine' hs_assignp ?z724_1 ?z724_2 ?z724_3 ?z724_4); (case z724_1 => walk_at "pv"); (case z724_2 => walk_at "lput"); (case z724_4 => (intro; rfl))) | fail "no")
  refine hs_assign (HT.weaken (Q := fun x σ1 => σ1 = σ ∧ ∃ o, x = mvo o ∧ Found v c o) (X := X) ?_ (fun x σ1 q => ?_) fun _ _ z => z) (by intro; rfl)
  · refine he_ifexpp (by walk_at "pb") (fun h1 => ?_) fun h1 => ?_
    · have h1' : 128 ≤ c := by simpa using h1
      refine he_methp (by walk_at "pv") (by walk_at "inst") (m_306_number_of g) (notKey_mem (by kernel_rfl)) (by walk_at "pa") ?_ ⟨_, fun _ => rfl⟩ rfl rfl
      refine HC.mono (c_number_of g (n := n) hn' s8 ⟨a0, a8⟩ fun o hO => ⟨rfl, o, rfl, ?_⟩) (show n + 2 ≤ n + 3 from nle rfl)
      cases o with
      | none => exact .inl ⟨rfl, h1'⟩
      | some k => obtain ⟨x0, x8, hx⟩ := hO k rfl; exact .inr ⟨k, rfl, x0, x8, .inr hx⟩
    · have h1' : c < 128 := by simpa using h1
      exact he_pv (by walk_at "pv") ⟨rfl, some v.active, rfl, .inr ⟨v.active, rfl, a0, a8, .inl ⟨h1', rfl⟩⟩⟩
  obtain ⟨rfl, o, rfl, hF⟩ := q
  refine ⟨_, by walk_at "lput", ?_⟩
  cases o with
  | some k =>
    obtain ⟨k0, k8, hk⟩ : 0 ≤ k ∧ k < 8 ∧ (c < 128 ∨ inWin v.starts k c = true) := by
      rcases hF with ⟨z, -⟩ | ⟨k', e, x0, x8, hk⟩
      · cases z
      · cases e
        exact ⟨x0, x8, hk.imp (fun z => z.1) id⟩
    dsimp only [mvo]
    refine hs_ifp (pb_cmp (by walk_at "pv") (by walk_at "pv") (cmp_notI k) rfl) (fun _ => ?_) fun z => by cases z
    (first | ((with_reducible refine' hs_methp ?z725_1 ?z725_2 ?z725_3 ?z725_4 ?z725_5 ?z725_6 ?z725_7 ?z725_8 ?z725_9 ?z725_10 ?z725_11); (case z725_1 => walk_at "pv"); (case z725_2 => walk_at "inst"); (case z725_3 => walk_at "meth"); (case z725_4 => kernel_rfl); (case z725_5 => walk_at "pa"); (case z725_7 => exact ⟨_, fun _ => rfl⟩); (case z725_8 => rfl); (case z725_9 => rfl); (case z725_10 => exact interactive_no); (case z725_11 => (intro; rfl))) | fail "no")
    refine HC.mono (c_use g (n := n) hn' k0 (by lia) fun σ3 hn3 k3 => ⟨rfl, ?_⟩) (show n + 1 ≤ n + 3 from nle rfl)
    have h3 := h'.win hn3 k3 rfl rfl
    have h3' := h3
    obtain ⟨hn, hr, hj, ht, hb, ho, -⟩ := h3
    dsimp only at ho
    (first | ((with_reducible refine' hs_append_int ?z726_1 ?z726_2 ?z726_3 ?z726_4 ?z726_5 ?z726_6 ?z726_7 ?z726_8 ?z726_9); (case z726_1 => walk_at "pv"); (case z726_2 => walk_at "pv"); (case z726_3 => walk_at "hp"); (case z726_4 => first | assumption | lia | (simp only [List.length_append, List.length_cons, List.length_nil]; lia)); (case z726_6 => exact ⟨_, fun _ => rfl⟩); (case z726_7 => rfl); (case z726_8 => exact interactive_no); (case z726_9 => (intro; rfl))) | fail "no")
    have h4 := h3'.oct (v.octets ++ [224 + k])
    have h4' := h4
    obtain ⟨hn, hr, hj, ht, hb, ho, -⟩ := h4
    (first | ((with_reducible refine' hs_methp ?z727_1 ?z727_2 ?z727_3 ?z727_4 ?z727_5 ?z727_6 ?z727_7 ?z727_8 ?z727_9 ?z727_10 ?z727_11); (case z727_1 => walk_at "pv"); (case z727_2 => walk_at "inst"); (case z727_3 => walk_at "meth"); (case z727_4 => kernel_rfl); (case z727_5 => walk_at "pa"); (case z727_7 => exact ⟨_, fun _ => rfl⟩); (case z727_8 => rfl); (case z727_9 => rfl); (case z727_10 => exact interactive_no); (case z727_11 => (intro; rfl))) | fail "no")
    have hI4 : Inv { v with count := v.count + 1, used := v.used.set k.toNat (v.count + 1), active := k, octets := v.octets ++ [224 + k] } pre (B + 1) false :=
      ⟨hI.rd.trans (rd_changeW ⟨k0, k8⟩), s8, by simpa using us, k0, k8, by simp; lia⟩
    refine HC.mono (c_put_in_active g (n := n) h4' hI4 (by lia) hc0 hk fun σ' v' a b d e => ⟨rfl, ?_⟩) (show n + 1 ≤ n + 3 from nle rfl)
    (((repeat (with_reducible first | refine' hs_endN ?_ | refine' hs_nil ?_)); first | assumption | skip))
    exact p σ' v' a (by rw [d, show _ = false from hv]; exact b.le (by lia)) (((wwf k3).trans (.upd wfo)).trans e)
  | none =>
    have h128 : 128 ≤ c := by
      rcases hF with ⟨-, z⟩ | ⟨k, e, -⟩
      · exact z
      · cases e
    refine hs_ifp (pb_cmp (by walk_at "pv") (by walk_at "pv") cmp_notNone rfl) (fun z => by cases z) fun _ => ?_
    (try (with_reducible refine' hs_endN ?_))
    (first | ((with_reducible refine' hs_ifp ?z730_1 ?z730_2 ?z730_3); (case z730_1 => walk_at "pb")) | fail "no")
    · intro h1
      have h1' : 65536 ≤ c := by simpa using h1
      (first | ((with_reducible refine' hs_methp ?z731_1 ?z731_2 ?z731_3 ?z731_4 ?z731_5 ?z731_6 ?z731_7 ?z731_8 ?z731_9 ?z731_10 ?z731_11); (case z731_1 => walk_at "pv"); (case z731_2 => walk_at "inst"); (case z731_3 => walk_at "meth"); (case z731_4 => kernel_rfl); (case z731_5 => walk_at "pa"); (case z731_7 => exact ⟨_, fun _ => rfl⟩); (case z731_8 => rfl); (case z731_9 => rfl); (case z731_10 => exact interactive_no); (case z731_11 => (intro; rfl))) | fail "no")
      refine c_lay_far g (n := n) h' hI hv (by lia) (.inr ⟨rfl, rfl⟩) ⟨h1', hc1⟩ fun σ' v' a b d e => ⟨rfl, ?_⟩
      (((repeat (with_reducible first | refine' hs_endN ?_ | refine' hs_nil ?_)); first | assumption | skip))
      exact p σ' v' a (by rw [d]; exact b.le (by lia)) e
    · intro h1; (try (with_reducible refine' hs_endN ?_))
      have h1' : c < 65536 := by simpa using h1
      (((repeat (with_reducible first | refine' hs_endN ?_ | refine' hs_nil ?_)); first | assumption | skip))
      refine hs_tuple ?_ rfl (fun _ => rfl) (fun _ => rfl)
      refine he_methp (by walk_at "pv") (by walk_at "inst") (m_432_best_window g) (notKey_mem (by kernel_rfl)) (by walk_at "pa") ?_ ⟨_, fun _ => rfl⟩ rfl rfl
      refine c_best g (n := n) h' (by lia) fun k w σ2 hw k1 => ⟨_, _, _, rfl, .name (by walk_at "lput") (.name (by walk_at "lput") (.name (by walk_at "lput") .nil)), ?_⟩
      obtain ⟨wi, ws⟩ := w
      dsimp only
      have h2 := h'.kp k1
      have h2' := h2
      obtain ⟨hn, hr, hj, ht, hb, ho, -⟩ := h2
      have k1' : Kp (wfoot l) σ1 σ2 := k1.sub fun _ z => absurd z List.not_mem_nil
      (first | ((with_reducible refine' hs_methp ?z735_1 ?z735_2 ?z735_3 ?z735_4 ?z735_5 ?z735_6 ?z735_7 ?z735_8 ?z735_9 ?z735_10 ?z735_11); (case z735_1 => walk_at "pv"); (case z735_2 => walk_at "inst"); (case z735_3 => walk_at "meth"); (case z735_4 => kernel_rfl); (case z735_5 => walk_at "pa"); (case z735_7 => exact ⟨_, fun _ => rfl⟩); (case z735_8 => rfl); (case z735_9 => rfl); (case z735_10 => exact interactive_no); (case z735_11 => (intro; rfl))) | fail "no")
      refine c_lay g (n := n) h2' hI hv (by lia) (.inr ⟨rfl, rfl⟩) hc0 hw fun σ' v' a b d e => ⟨rfl, ?_⟩
      (((repeat (with_reducible first | refine' hs_endN ?_ | refine' hs_nil ?_)); first | assumption | skip))
      exact p σ' v' a (by rw [d]; exact b.le (by lia)) (k1'.trans e)
theorem rd_uOct {t s a} {c : Int} (h : 0 ≤ c ∧ c < 65536) (hs : NoSur c) : Reads (lst t s a true) (uOct c) (lst (t ++ [c]) s a true) := by
  unfold uOct
  split
  · exact rd_unitQ h hs
  · rename_i h1
    simp at h1
    exact rd_unitW h (by lia) hs
theorem uOct_len (c : Int) : (uOct c).length ≤ 3 := by unfold uOct; split <;> simp
theorem uOct_half {c : Int} (h : c / 256 < 224) : uOct c = [c / 256, c % 256] := by
  unfold uOct; rw [if_neg (by simp; lia)]; rfl
theorem half_hi {c : Int} (h : 65536 ≤ c) (h1 : c ≤ 1114111) : 0 ≤ 55296 + (c - 65536) / 1024 ∧ (55296 + (c - 65536) / 1024) / 256 < 224 ∧ 55296 + (c - 65536) / 1024 < 2 ^ 40 := by
  obtain ⟨a, b⟩ := hi_bd ⟨h, h1⟩
  generalize (c - 65536) / 1024 = q at *
  clear h h1 c
  exact ⟨by lia, Int.ediv_lt_of_lt_mul (by decide) (by lia), by lia⟩
theorem half_lo (c : Int) : 0 ≤ 56320 + (c - 65536) % 1024 ∧ (56320 + (c - 65536) % 1024) / 256 < 224 ∧ 56320 + (c - 65536) % 1024 < 2 ^ 40 := by
  obtain ⟨a, b⟩ := lo_bd c
  generalize (c - 65536) % 1024 = q at *
  clear c
  exact ⟨by lia, Int.ediv_lt_of_lt_mul (by decide) (by lia), by lia⟩
theorem c_put_wide (g : Gp) {n : Nat} {σ l text v pre} {B : Nat} {i : Nat} {c : Int} {Q : MV → MH → Prop} {X : MX → MH → Prop} (h : Wr σ l text v) (hI : Inv v pre B true) (hv : v.wide = true) (hz : B ≤ 40000) (hc : Sc c)
    (p : ∀ σ' v', Wr σ' l text v' → Inv v' (pre ++ [c]) (B + 6) v'.wide → Kp (wfoot l) σ σ' → Q .none σ') : HC (Gd g) (n + 5) (.ref 422) [.loc l.r, .int i, .int c] σ Q X := by
  have h' := h
  obtain ⟨hn, hr, hj, ht, hb, ho, -⟩ := h
  have bd := hI.bd
  have hc' := hc
  obtain ⟨⟨hc0, hc1⟩, hns⟩ := hc
  have unit : ∀ {σ1 : MH}, Wr σ1 l text v → Kp (wfoot l) σ σ1 → c < 65536 → HC (Gd g) (n + 4) (.ref 415) [.loc l.r, .int c] σ1 (fun x σ2 => x = .none ∧ Q .none σ2) X := fun hw kk hlt =>
    HC.mono (c_put_unitW g (n := n) hw (by lia) (by lia) fun σ' a e => ⟨rfl, p σ' _ a (by
      have := hI.add (B' := B + 6) (rd_uOct ⟨hc0, hlt⟩ hns) (by have := uOct_len c; lia)
      rw [← hv] at this; exact this) (kk.trans e)⟩) (by lia)
  refine HCc.hc ?_
  apply fn_at 264 [("self", .loc l.r), ("at", .int i), ("code", .int c)] [] rfl; kernel_rfl; ((kernel_rfl; (((intro W s av XK h; first | (have e := vreps0 h; subst e; exact ⟨_, BindsTo.of_eq rfl, .nil⟩) | (obtain ⟨v1, e, h1⟩ := vreps1 h; subst e; exact ⟨_, BindsTo.of_eq rfl, .cons h1 .nil⟩) | (obtain ⟨v1, v2, e, h1, h2⟩ := vreps2 h; subst e; exact ⟨_, BindsTo.of_eq rfl, .cons h1 (.cons h2 .nil)⟩) | (obtain ⟨v1, v2, v3, e, h1, h2, h3⟩ := vreps3 h; subst e; exact ⟨_, BindsTo.of_eq rfl, .cons h1 (.cons h2 (.cons h3 .nil))⟩) | (obtain ⟨v1, v2, v3, v4, e, h1, h2, h3, h4⟩ := vreps4 h; subst e; exact ⟨_, BindsTo.of_eq rfl, .cons h1 (.cons h2 (.cons h3 (.cons h4 .nil)))⟩) | (obtain ⟨v1, v2, v3, v4, v5, e, h1, h2, h3, h4, h5⟩ := vreps5 h; subst e; exact ⟨_, BindsTo.of_eq rfl, .cons h1 (.cons h2 (.cons h3 (.cons h4 (.cons h5 .nil))))⟩)))); ((focus ((repeat (with_reducible first | exact L0.nil | apply L0.oth | apply L0.bind)); done))); ((focus ((repeat (with_reducible first | exact Nm.nil | apply Nm.cons)); done))); decide +kernel; decide +kernel; rfl; rfl; rfl; rfl))
  (first | ((with_reducible refine' hs_ifp ?z738_1 ?z738_2 ?z738_3); (case z738_1 => walk_at "pb")) | fail "no")
  · intro h1
    have h1' : 13312 ≤ c ∧ c < 57344 := by simpa using h1
    (first | ((with_reducible refine' hs_methp ?z739_1 ?z739_2 ?z739_3 ?z739_4 ?z739_5 ?z739_6 ?z739_7 ?z739_8 ?z739_9 ?z739_10 ?z739_11); (case z739_1 => walk_at "pv"); (case z739_2 => walk_at "inst"); (case z739_3 => walk_at "meth"); (case z739_4 => kernel_rfl); (case z739_5 => walk_at "pa"); (case z739_7 => exact ⟨_, fun _ => rfl⟩); (case z739_8 => rfl); (case z739_9 => rfl); (case z739_10 => exact interactive_no); (case z739_11 => (intro; rfl))) | fail "no")
    refine HC.weaken (unit h' (.refl _ _) (by lia)) fun x σ2 q => ⟨q.1, ?_⟩
    (((repeat (with_reducible first | refine' hs_endN ?_ | refine' hs_nil ?_)); first | assumption | skip))
    exact q.2
  · intro h1; (try (with_reducible refine' hs_endN ?_))
    have h1' : ¬ (13312 ≤ c ∧ c < 57344) := by simpa using h1
    refine hs_if (hb_val (he_methp (by walk_at "pv") (by walk_at "inst") (m_432_does_leave g) (notKey_mem (by kernel_rfl)) (by walk_at "pa") ?_ ⟨_, fun _ => rfl⟩ rfl rfl) (by intros; rfl))
    refine HC.mono (c_does_leave g (n := n) h' fun b => ⟨b, Tru.bool _, fun _ => ?_, fun _ => ?_⟩) (show n + 2 ≤ n + 4 from nle rfl)
    · (first | ((with_reducible refine' hs_setattrp ?z742_1 ?z742_2 ?z742_3 ?z742_4 ?z742_5 ?z742_6 ?z742_7); (case z742_1 => walk_at "pv"); (case z742_2 => walk_at "pv"); (case z742_3 => walk_at "inst"); (case z742_4 => (with_reducible exact SetI_ok _ (by constructor))); (case z742_5 => (first | (apply APut.old; walk_at "put") | (apply aput_new; kernel_rfl; exact Nat.le_of_ble_eq_true rfl))); (case z742_7 => (intro; rfl))) | fail "no")
      have h2 := h'.setw false
      have h2' := h2
      obtain ⟨hn, hr, hj, ht, hb, ho, -⟩ := h2
      (first | ((with_reducible refine' hs_methp ?z743_1 ?z743_2 ?z743_3 ?z743_4 ?z743_5 ?z743_6 ?z743_7 ?z743_8 ?z743_9 ?z743_10 ?z743_11); (case z743_1 => walk_at "pv"); (case z743_2 => walk_at "inst"); (case z743_3 => walk_at "meth"); (case z743_4 => kernel_rfl); (case z743_5 => walk_at "pa"); (case z743_7 => exact ⟨_, fun _ => rfl⟩); (case z743_8 => rfl); (case z743_9 => rfl); (case z743_10 => exact interactive_no); (case z743_11 => (intro; rfl))) | fail "no")
      refine c_leave g (n := n) h2' (hI.setw false) rfl hz hc' h1' fun σ' v' a b d => ⟨rfl, ?_⟩
      (((repeat (with_reducible first | refine' hs_endN ?_ | refine' hs_nil ?_)); first | assumption | skip))
      exact p σ' v' a b ((Kp.upd wfj).trans d)
    · (try (with_reducible refine' hs_endN ?_))
      (first | ((with_reducible refine' hs_ifp ?z746_1 ?z746_2 ?z746_3); (case z746_1 => walk_at "pb")) | fail "no")
      · intro h2
        have h2' : c < 65536 := by simpa using h2
        (first | ((with_reducible refine' hs_methp ?z747_1 ?z747_2 ?z747_3 ?z747_4 ?z747_5 ?z747_6 ?z747_7 ?z747_8 ?z747_9 ?z747_10 ?z747_11); (case z747_1 => walk_at "pv"); (case z747_2 => walk_at "inst"); (case z747_3 => walk_at "meth"); (case z747_4 => kernel_rfl); (case z747_5 => walk_at "pa"); (case z747_7 => exact ⟨_, fun _ => rfl⟩); (case z747_8 => rfl); (case z747_9 => rfl); (case z747_10 => exact interactive_no); (case z747_11 => (intro; rfl))) | fail "no")
        refine HC.weaken (unit h' (.refl _ _) h2') fun x σ2 q => ⟨q.1, ?_⟩
        (((repeat (with_reducible first | refine' hs_endN ?_ | refine' hs_nil ?_)); first | assumption | skip))
        exact q.2
      · intro h2; (try (with_reducible refine' hs_endN ?_))
        have h2' : 65536 ≤ c := by simpa using h2
        have hA := half_hi h2' hc1
        have hB := half_lo c
        (first | ((with_reducible refine' hs_methp ?z750_1 ?z750_2 ?z750_3 ?z750_4 ?z750_5 ?z750_6 ?z750_7 ?z750_8 ?z750_9 ?z750_10 ?z750_11); (case z750_1 => walk_at "pv"); (case z750_2 => walk_at "inst"); (case z750_3 => walk_at "meth"); (case z750_4 => kernel_rfl); (case z750_5 => walk_at "pa"); (case z750_7 => exact ⟨_, fun _ => rfl⟩); (case z750_8 => rfl); (case z750_9 => rfl); (case z750_10 => exact interactive_no); (case z750_11 => (intro; rfl))) | fail "no")
        refine HC.mono (c_put_unitW g (n := n) h' (by lia) ⟨hA.1, hA.2.2⟩ fun σ2 h2 k2 => ⟨rfl, ?_⟩) (show n + 1 ≤ n + 4 from nle rfl)
        rw [uOct_half hA.2.1] at h2
        have h3 := h2
        obtain ⟨hn, hr, hj, ht, hb, ho, -⟩ := h2
        (first | ((with_reducible refine' hs_methp ?z751_1 ?z751_2 ?z751_3 ?z751_4 ?z751_5 ?z751_6 ?z751_7 ?z751_8 ?z751_9 ?z751_10 ?z751_11); (case z751_1 => walk_at "pv"); (case z751_2 => walk_at "inst"); (case z751_3 => walk_at "meth"); (case z751_4 => kernel_rfl); (case z751_5 => walk_at "pa"); (case z751_7 => exact ⟨_, fun _ => rfl⟩); (case z751_8 => rfl); (case z751_9 => rfl); (case z751_10 => exact interactive_no); (case z751_11 => (intro; rfl))) | fail "no")
        refine HC.mono (c_put_unitW g (n := n) h3 (by simp; lia) ⟨hB.1, hB.2.2⟩ fun σ4 h4 k4 => ⟨rfl, ?_⟩) (show n + 1 ≤ n + 4 from nle rfl)
        rw [uOct_half hB.2.1] at h4
        (((repeat (with_reducible first | refine' hs_endN ?_ | refine' hs_nil ?_)); first | assumption | skip))
        refine p σ4 _ h4 ?_ (k2.trans k4)
        dsimp only
        have := hI.add (B' := B + 6) (rd_pair ⟨h2', hc1⟩) (by simp)
        rw [← hv, ← List.append_assoc] at this
        exact this
end
set_option hygiene false in
local macro_rules | `(tactic| walk_at "pc") => `(tactic| exact pc_range)

section
theorem c_windows_init (g : Gp) {n : Nat} {σ i j} {Q : MV → MH → Prop} {X : MX → MH → Prop} (hij : i ≠ j) (hi : σ i = some (.inst 306 j)) (hj : σ j = some (.ns [])) (p : ∀ σ' s u us, (us : List Int).length = 8 → σ' i = some (.inst 306 j) → σ' j = some (.ns [("starts", .loc s), ("active", .int 0), ("used", .loc u), ("count", .int 0)]) → σ' s = some (.list (firsts.map MV.int)) → σ' u = some (.list (us.map MV.int)) → s ≠ u → σ s = none → σ u = none → Kp [j] σ σ' → Q .none σ') : HCc (Gd g) (n + 2) (.ref 268) [.loc i] σ Q X := by
  apply fn_at 159 [("self", .loc i)] [] rfl; kernel_rfl; ((kernel_rfl; (((intro W s av XK h; first | (have e := vreps0 h; subst e; exact ⟨_, BindsTo.of_eq rfl, .nil⟩) | (obtain ⟨v1, e, h1⟩ := vreps1 h; subst e; exact ⟨_, BindsTo.of_eq rfl, .cons h1 .nil⟩) | (obtain ⟨v1, v2, e, h1, h2⟩ := vreps2 h; subst e; exact ⟨_, BindsTo.of_eq rfl, .cons h1 (.cons h2 .nil)⟩) | (obtain ⟨v1, v2, v3, e, h1, h2, h3⟩ := vreps3 h; subst e; exact ⟨_, BindsTo.of_eq rfl, .cons h1 (.cons h2 (.cons h3 .nil))⟩) | (obtain ⟨v1, v2, v3, v4, e, h1, h2, h3, h4⟩ := vreps4 h; subst e; exact ⟨_, BindsTo.of_eq rfl, .cons h1 (.cons h2 (.cons h3 (.cons h4 .nil)))⟩) | (obtain ⟨v1, v2, v3, v4, v5, e, h1, h2, h3, h4, h5⟩ := vreps5 h; subst e; exact ⟨_, BindsTo.of_eq rfl, .cons h1 (.cons h2 (.cons h3 (.cons h4 (.cons h5 .nil))))⟩)))); ((focus ((repeat (with_reducible first | exact L0.nil | apply L0.oth | apply L0.bind)); done))); ((focus ((repeat (with_reducible first | exact Nm.nil | apply Nm.cons)); done))); decide +kernel; decide +kernel; rfl; rfl; rfl; rfl))
  refine hs_setattr1 ?_ (by intro; rfl)
  refine he_callp (by walk_at "pv") (by walk_at "pa") ?_ ?_ ?_ ?_
  rotate_left; (walk_at "keeps"); rfl; rfl
  refine HCc.hc (c_firsts g (n := n) fun a ha => ?_)
  have na : a ≠ i := ne_fresh ha hi
  have na' : a ≠ j := ne_fresh ha hj
  refine ⟨i, 306, j, _, _, pv_loc (by walk_at "mem"), by walk_at "inst", s_306_starts _, aput_new (by kernel_rfl) (Nat.le_of_ble_eq_true rfl), ?_⟩
  (first | ((with_reducible refine' hs_setattrp ?z761_1 ?z761_2 ?z761_3 ?z761_4 ?z761_5 ?z761_6 ?z761_7); (case z761_1 => walk_at "pv"); (case z761_2 => walk_at "pv"); (case z761_3 => walk_at "inst"); (case z761_4 => (with_reducible exact SetI_ok _ (by constructor))); (case z761_5 => (first | (apply APut.old; walk_at "put") | (apply aput_new; kernel_rfl; exact Nat.le_of_ble_eq_true rfl))); (case z761_7 => (intro; rfl))) | fail "no")
  refine hs_setattr1 ?_ (by intro; rfl)
  refine he_listcomp (hi_rng (he_pv (v := .rng 8) (by walk_at "pv") ⟨8, rfl, by decide, fun k ys σ' => σ' = _ ∧ ∃ ns : List Int, ys = ns.map MV.int ∧ ns.length = k, ⟨rfl, [], rfl, rfl⟩, fun _ _ _ _ => trivial, ?_, by decide, ?_⟩)) (fun C => ⟨_, rfl⟩) (by decide) rfl rfl (by decide) (by intros; rfl) rfl
  · rintro k ys v σ' hx ⟨rfl, ns, rfl, rfl⟩
    obtain ⟨hk, rfl⟩ := nums_get hx
    refine hel_bin (hel_int (hel_x rfl rfl rfl ⟨_, Bin.sub _ _, rfl, ns ++ [_], by rw [List.map_append]; rfl, by simp⟩))
  · rintro ys σ' ⟨rfl, ns, rfl, hns⟩ u hu
    rw [nums_len] at hns
    have nu : u ≠ i := ne_fresh hu (by walk_at "hp")
    have nu' : u ≠ j := ne_fresh hu (by walk_at "hp")
    have nu'' : u ≠ a := ne_fresh hu (by walk_at "hp")
    refine ⟨i, 306, j, _, _, pv_loc (by walk_at "mem"), by walk_at "inst", s_306_used _, aput_new (by kernel_rfl) (Nat.le_of_ble_eq_true rfl), ?_⟩
    (first | ((with_reducible refine' hs_setattrp ?z762_1 ?z762_2 ?z762_3 ?z762_4 ?z762_5 ?z762_6 ?z762_7); (case z762_1 => walk_at "pv"); (case z762_2 => walk_at "pv"); (case z762_3 => walk_at "inst"); (case z762_4 => (with_reducible exact SetI_ok _ (by constructor))); (case z762_5 => (first | (apply APut.old; walk_at "put") | (apply aput_new; kernel_rfl; exact Nat.le_of_ble_eq_true rfl))); (case z762_7 => (intro; rfl))) | fail "no")
    (((repeat (with_reducible first | refine' hs_endN ?_ | refine' hs_nil ?_)); first | assumption | skip))
    have hu0 : σ u = none := by
      repeat rw [upd_other (by assumption)] at hu
      exact hu
    refine p _ a u ns hns ?_ ?_ ?_ ?_ nu''.symm ha hu0 ?_
    · walk_at "hp"
    · exact upd_same
    · walk_at "hp"
    · walk_at "hp"
    · intro k o hk e
      have k1 : k ≠ j := fun z => hk (by rw [z]; exact .head _)
      have k2 : k ≠ a := fun z => by rw [z, ha] at e; cases e
      have k3 : k ≠ u := fun z => by rw [z, hu0] at e; cases e
      walk_at "hp"
theorem c_windows_new (g : Gp) {n : Nat} {σ} {Q : MV → MH → Prop} {X : MX → MH → Prop} (p : ∀ σ' w k s u us, (us : List Int).length = 8 → σ' w = some (.inst 306 k) → σ' k = some (.ns [("starts", .loc s), ("active", .int 0), ("used", .loc u), ("count", .int 0)]) → σ' s = some (.list (firsts.map MV.int)) → σ' u = some (.list (us.map MV.int)) → s ≠ u → (σ w = none ∧ σ k = none ∧ σ s = none ∧ σ u = none) → Kp [] σ σ' → Q (.loc w) σ') : HC (Gd g) (n + 5) (.ref 306) [] σ Q X := by
  refine hc_new (n := n + 2) (mk_306 g) (in_306 g) (if_306 g) fun i j hij hi hj => ?_
  have k0 : Kp [] σ (upd (upd σ j (.ns [])) i (.inst 306 j)) := (Kp.new hj).trans (.new ((upd_other hij).trans hi))
  refine c_windows_init g hij upd_same ((upd_other (Ne.symm hij)).trans upd_same) fun σ' s u us hus e1 e2 e3 e4 su hs hu k => ⟨rfl, ?_⟩
  exact p σ' i j s u us hus e1 e2 e3 e4 su ⟨hi, hj, fresh_back' k0 hs, fresh_back' k0 hu⟩ (kp_new k0 k fun a z => by rw [List.mem_singleton.mp z]; exact hj)
theorem c_writer_init (g : Gp) {n : Nat} {σ i j t} {text : List Int} {Q : MV → MH → Prop} {X : MX → MH → Prop} (hij : i ≠ j) (hi : σ i = some (.inst 432 j)) (hj : σ j = some (.ns [])) (ht : σ t = some (.list (text.map MV.int)))
    (p : ∀ σ' l v, l.r = i → l.j = j → Wr σ' l text v → Inv v [] 0 false → v.wide = false → (σ l.k = none ∧ σ l.s = none ∧ σ l.u = none ∧ σ l.o = none) → Kp [j] σ σ' → Q .none σ') : HCc (Gd g) (n + 6) (.ref 331) [.loc i, .loc t, .int 32] σ Q X := by
  apply fn_at 199 [("self", .loc i), ("text", .loc t), ("ahead", .int 32)] [] rfl; kernel_rfl; ((kernel_rfl; (((intro W s av XK h; first | (have e := vreps0 h; subst e; exact ⟨_, BindsTo.of_eq rfl, .nil⟩) | (obtain ⟨v1, e, h1⟩ := vreps1 h; subst e; exact ⟨_, BindsTo.of_eq rfl, .cons h1 .nil⟩) | (obtain ⟨v1, v2, e, h1, h2⟩ := vreps2 h; subst e; exact ⟨_, BindsTo.of_eq rfl, .cons h1 (.cons h2 .nil)⟩) | (obtain ⟨v1, v2, v3, e, h1, h2, h3⟩ := vreps3 h; subst e; exact ⟨_, BindsTo.of_eq rfl, .cons h1 (.cons h2 (.cons h3 .nil))⟩) | (obtain ⟨v1, v2, v3, v4, e, h1, h2, h3, h4⟩ := vreps4 h; subst e; exact ⟨_, BindsTo.of_eq rfl, .cons h1 (.cons h2 (.cons h3 (.cons h4 .nil)))⟩) | (obtain ⟨v1, v2, v3, v4, v5, e, h1, h2, h3, h4, h5⟩ := vreps5 h; subst e; exact ⟨_, BindsTo.of_eq rfl, .cons h1 (.cons h2 (.cons h3 (.cons h4 (.cons h5 .nil))))⟩)))); ((focus ((repeat (with_reducible first | exact L0.nil | apply L0.oth | apply L0.bind)); done))); ((focus ((repeat (with_reducible first | exact Nm.nil | apply Nm.cons)); done))); decide +kernel; decide +kernel; rfl; rfl; rfl; rfl))
  have tj : t ≠ j := ne_of ht hj (by intro z; cases z)
  (first | ((with_reducible refine' hs_setattrp ?z765_1 ?z765_2 ?z765_3 ?z765_4 ?z765_5 ?z765_6 ?z765_7); (case z765_1 => walk_at "pv"); (case z765_2 => walk_at "pv"); (case z765_3 => walk_at "inst"); (case z765_4 => (with_reducible exact SetI_ok _ (by constructor))); (case z765_5 => (first | (apply APut.old; walk_at "put") | (apply aput_new; kernel_rfl; exact Nat.le_of_ble_eq_true rfl))); (case z765_7 => (intro; rfl))) | fail "no")
  (first | ((with_reducible refine' hs_setattrp ?z766_1 ?z766_2 ?z766_3 ?z766_4 ?z766_5 ?z766_6 ?z766_7); (case z766_1 => walk_at "pv"); (case z766_2 => walk_at "pv"); (case z766_3 => walk_at "inst"); (case z766_4 => (with_reducible exact SetI_ok _ (by constructor))); (case z766_5 => (first | (apply APut.old; walk_at "put") | (apply aput_new; kernel_rfl; exact Nat.le_of_ble_eq_true rfl))); (case z766_7 => (intro; rfl))) | fail "no")
  refine hs_setattr1 ?_ (by intro; rfl)
  refine he_callp (by walk_at "pv") (by walk_at "pa") ?_ ?_ ?_ ?_
  rotate_left; (walk_at "keeps"); rfl; rfl
  have hia : (upd (upd σ j (.ns [("text", .loc t)])) j (.ns [("text", .loc t), ("ahead", .int 32)])) i = some (.inst 432 j) := by walk_at "hp"
  have hja : (upd (upd σ j (.ns [("text", .loc t)])) j (.ns [("text", .loc t), ("ahead", .int 32)])) j = some (.ns [("text", .loc t), ("ahead", .int 32)]) := upd_same
  have hta : (upd (upd σ j (.ns [("text", .loc t)])) j (.ns [("text", .loc t), ("ahead", .int 32)])) t = some (.list (text.map MV.int)) := by walk_at "hp"
  have kka : Kp [j] σ (upd (upd σ j (.ns [("text", .loc t)])) j (.ns [("text", .loc t), ("ahead", .int 32)])) := (Kp.upd (.head _)).trans (.upd (.head _))
  have fra : ∀ a, (upd (upd σ j (.ns [("text", .loc t)])) j (.ns [("text", .loc t), ("ahead", .int 32)])) a = none → σ a = none := fun a z => by
    by_cases e : a = j
    · rw [e, upd_same] at z; cases z
    · rwa [upd_other e, upd_other e] at z
  show HC _ _ _ _ (upd (upd σ j (.ns [("text", .loc t)])) j (.ns [("text", .loc t), ("ahead", .int 32)])) _ _
  revert hia hja hta kka fra
  generalize upd (upd σ j (.ns [("text", .loc t)])) j (.ns [("text", .loc t), ("ahead", .int 32)]) = σa
  intro hia hja hta kka fra
  refine c_windows_new g (n := n) fun σ1 w k s u us hus e1 e2 e3 e4 su ⟨fw, fk, fs, fu⟩ k1 => ?_
  have hi1 := k1 _ _ (fun z => absurd z List.not_mem_nil) hia
  have hj1 := k1 _ _ (fun z => absurd z List.not_mem_nil) hja
  have ht1 := k1 _ _ (fun z => absurd z List.not_mem_nil) hta
  have wj : w ≠ j := ne_fresh fw hja
  have kj : k ≠ j := ne_fresh fk hja
  have sj : s ≠ j := ne_fresh fs hja
  have uj : u ≠ j := ne_fresh fu hja
  have st : s ≠ t := ne_fresh fs hta
  have ut : u ≠ t := ne_fresh fu hta
  refine ⟨i, 432, j, _, _, pv_loc (by walk_at "mem"), by walk_at "inst", s_432_windows _, aput_new (by kernel_rfl) (Nat.le_of_ble_eq_true rfl), ?_⟩
  refine hs_setattr1 ?_ (by intro; rfl)
  refine he_callp (by walk_at "pv") (by walk_at "pa") ?_ ?_ ?_ ?_
  rotate_left; (walk_at "keeps"); rfl; rfl
  refine HCc.hc (HCc.mono (c_statics g (n := n) fun b hb => ?_) (show n + 1 ≤ n + 5 from nle rfl))
  have nb0 : b ≠ i := ne_fresh hb (by walk_at "hp")
  have nb1 : b ≠ j := ne_fresh hb (by walk_at "hp")
  have nb2 : b ≠ t := ne_fresh hb (by walk_at "hp")
  have nb3 : b ≠ w := ne_fresh hb (by walk_at "hp")
  have nb4 : b ≠ k := ne_fresh hb (by walk_at "hp")
  have nb5 : b ≠ s := ne_fresh hb (by walk_at "hp")
  have nb6 : b ≠ u := ne_fresh hb (by walk_at "hp")
  refine ⟨i, 432, j, _, _, pv_loc (by walk_at "mem"), by walk_at "inst", s_432_statics _, aput_new (by kernel_rfl) (Nat.le_of_ble_eq_true rfl), ?_⟩
  (first | ((with_reducible refine' hs_setattrp ?z767_1 ?z767_2 ?z767_3 ?z767_4 ?z767_5 ?z767_6 ?z767_7); (case z767_1 => walk_at "pv"); (case z767_2 => walk_at "pv"); (case z767_3 => walk_at "inst"); (case z767_4 => (with_reducible exact SetI_ok _ (by constructor))); (case z767_5 => (first | (apply APut.old; walk_at "put") | (apply aput_new; kernel_rfl; exact Nat.le_of_ble_eq_true rfl))); (case z767_7 => (intro; rfl))) | fail "no")
  refine hs_setattr1 ?_ (by intro; rfl)
  refine he_list_int (ns := []) (by walk_at "pai") (Nat.zero_le _) ?_
  intro o hO
  have no0 : o ≠ i := ne_fresh hO (by walk_at "hp")
  have no1 : o ≠ j := ne_fresh hO (by walk_at "hp")
  have no2 : o ≠ t := ne_fresh hO (by walk_at "hp")
  have no3 : o ≠ w := ne_fresh hO (by walk_at "hp")
  have no4 : o ≠ k := ne_fresh hO (by walk_at "hp")
  have no5 : o ≠ s := ne_fresh hO (by walk_at "hp")
  have no6 : o ≠ u := ne_fresh hO (by walk_at "hp")
  have no7 : o ≠ b := ne_fresh hO (by walk_at "hp")
  refine ⟨i, 432, j, _, _, pv_loc (by walk_at "mem"), by walk_at "inst", s_432_octets _, aput_new (by kernel_rfl) (Nat.le_of_ble_eq_true rfl), ?_⟩
  (((repeat (with_reducible first | refine' hs_endN ?_ | refine' hs_nil ?_)); first | assumption | skip))
  have hb1 : σ1 b = none := by
    repeat rw [upd_other (by assumption)] at hb
    exact hb
  have ho1 : σ1 o = none := by
    repeat rw [upd_other (by assumption)] at hO
    exact hO
  refine p _ ⟨i, j, t, w, k, s, u, b, o⟩ ⟨firsts, us, [], 0, 0, false⟩ rfl rfl ⟨⟨?_, ?_, ?_, ?_, su⟩, ?_, upd_same, ?_, ?_, ?_, kj.symm, st.symm, ut.symm, no2.symm, nb5, nb6, no7.symm, no5, no6⟩ ⟨.nil _, rfl, hus, (show (0 : Int) ≤ 0 from by decide), (show (0 : Int) < 8 from by decide), Nat.le_refl _⟩ rfl ⟨fra _ fk, fra _ fs, fra _ fu, fra _ (fresh_back' k1 ho1)⟩ ?_
  · walk_at "hp"
  · walk_at "hp"
  · walk_at "hp"
  · walk_at "hp"
  · walk_at "hp"
  · walk_at "hp"
  · walk_at "hp"
  · show (upd _ _ _) o = some (.list (([] : List Int).map MV.int)); walk_at "hp"
  · intro x ob hx e
    have x1 : x ≠ j := fun z => hx (by rw [z]; exact .head _)
    have e2 := k1 _ _ (fun z => absurd z List.not_mem_nil) (kka _ _ hx e)
    have x2 : x ≠ b := fun z => by rw [z, hb1] at e2; cases e2
    have x3 : x ≠ o := fun z => by rw [z, ho1] at e2; cases e2
    walk_at "hp"
theorem c_writer_new (g : Gp) {n : Nat} {σ t} {text : List Int} {Q : MV → MH → Prop} {X : MX → MH → Prop} (ht : σ t = some (.list (text.map MV.int)))
    (p : ∀ σ' l v, Wr σ' l text v → Inv v [] 0 false → v.wide = false → (∀ a ∈ wfoot l, σ a = none) → Kp [] σ σ' → Q (.loc l.r) σ') : HC (Gd g) (n + 9) (.ref 432) [.loc t, .int 32] σ Q X := by
  refine hc_new (n := n + 6) (mk_432 g) (in_432 g) (if_432 g) fun i j hij hi hj => ?_
  have k0 : Kp [] σ (upd (upd σ j (.ns [])) i (.inst 432 j)) := (Kp.new hj).trans (.new ((upd_other hij).trans hi))
  refine c_writer_init g (n := n) hij upd_same ((upd_other (Ne.symm hij)).trans upd_same) (k0 _ _ (fun z => absurd z List.not_mem_nil) ht) fun σ' l v e1 e2 hw hI hv ⟨f1, f2, f3, f4⟩ k => ⟨rfl, ?_⟩
  subst e1 e2
  refine p σ' l v hw hI hv (fun a ha => ?_) (kp_new k0 k fun a z => by rw [List.mem_singleton.mp z]; exact hj)
  rcases List.mem_cons.mp ha with rfl | ha
  · exact hj
  rcases List.mem_cons.mp ha with rfl | ha
  · exact fresh_back' k0 f1
  rcases List.mem_cons.mp ha with rfl | ha
  · exact fresh_back' k0 f2
  rcases List.mem_cons.mp ha with rfl | ha
  · exact fresh_back' k0 f3
  rw [List.mem_singleton.mp ha]; exact fresh_back' k0 f4
end

section
theorem rd_first {c : Int} (h : 0 ≤ c ∧ c < 65536) (hs : NoSur c) {t s a} : Reads (lst t s a false) [14, c / 256, c % 256] (lst (t ++ [c]) s a false) := rd_unitN h hs
theorem c_written (g : Gp) {n : Nat} {σ l text v} {Q : MV → MH → Prop} {X : MX → MH → Prop} (h : Wr σ l text v) (hI : Inv v [] 0 false) (hv : v.wide = false) (hz : text.length ≤ 1000) (hsc : ∀ c ∈ text, Sc c)
    (p : ∀ b σ', lread b = .text text → b.length ≤ 6 * text.length → Kp (wfoot l) σ σ' → Q (.bytes b) σ') : HC (Gd g) (n + 6) (.ref 338) [.loc l.r] σ Q X := by
  have ht0 := h.t
  have h0 := h
  obtain ⟨hn, hr, hj, ht, hb, ho, -⟩ := h
  refine HCc.hc ?_
  apply fn_at 204 [("self", .loc l.r)] ["at", "code"] rfl; kernel_rfl; ((kernel_rfl; (((intro W s av XK h; first | (have e := vreps0 h; subst e; exact ⟨_, BindsTo.of_eq rfl, .nil⟩) | (obtain ⟨v1, e, h1⟩ := vreps1 h; subst e; exact ⟨_, BindsTo.of_eq rfl, .cons h1 .nil⟩) | (obtain ⟨v1, v2, e, h1, h2⟩ := vreps2 h; subst e; exact ⟨_, BindsTo.of_eq rfl, .cons h1 (.cons h2 .nil)⟩) | (obtain ⟨v1, v2, v3, e, h1, h2, h3⟩ := vreps3 h; subst e; exact ⟨_, BindsTo.of_eq rfl, .cons h1 (.cons h2 (.cons h3 .nil))⟩) | (obtain ⟨v1, v2, v3, v4, e, h1, h2, h3, h4⟩ := vreps4 h; subst e; exact ⟨_, BindsTo.of_eq rfl, .cons h1 (.cons h2 (.cons h3 (.cons h4 .nil)))⟩) | (obtain ⟨v1, v2, v3, v4, v5, e, h1, h2, h3, h4, h5⟩ := vreps5 h; subst e; exact ⟨_, BindsTo.of_eq rfl, .cons h1 (.cons h2 (.cons h3 (.cons h4 (.cons h5 .nil))))⟩)))); ((focus ((repeat (with_reducible first | exact L0.nil | apply L0.oth | apply L0.bind)); done))); ((focus ((repeat (with_reducible first | exact Nm.nil | apply Nm.cons)); done))); decide +kernel; decide +kernel; rfl; rfl; rfl; rfl))
  refine hs_for (hi_enum (by walk_at "pv") rfl (he_pv (v := .loc l.t) (by walk_at "pv") ⟨l.t, _, rfl, ht0, fun i ρ' σ' => (∃ (av cv : Option MV), ρ' = ([("self", some (.loc l.r)), ("at", av), ("code", cv)] : Loc)) ∧ (∃ v', Wr σ' l text v' ∧ Inv v' (text.take i) (6 * i) v'.wide ∧ (i = 0 → v'.wide = false)) ∧ Kp (wfoot l) σ σ', ⟨⟨none, none, rfl⟩, ⟨v, h0, by rw [hv]; exact hI, fun _ => hv⟩, .refl _ _⟩, fun _ _ _ ⟨_, ⟨_, z, _⟩, _⟩ => z.t, ?_, ?_⟩)) (by intros; rfl) rfl rfl
  · rintro i x ρ' σ' hx ⟨⟨av, cv, rfl⟩, ⟨v', hw, hi, h00⟩, kk⟩
    obtain ⟨y, hy, rfl⟩ := enums_get hx
    rw [List.getElem?_map] at hy
    cases hq : text[i]? with
    | none => rw [hq] at hy; simp at hy
    | some c =>
      rw [hq] at hy
      have hy' : MV.int c = y := Option.some.inj hy
      subst hy'
      have hil : i < text.length := (List.getElem?_eq_some_iff.mp hq).1
      have hcs := hsc c (List.mem_of_getElem? hq)
      have htk : text.take (i + 1) = text.take i ++ [c] := by rw [List.take_succ, hq]; rfl
      have hw' := hw
      obtain ⟨hn, hr, hj, ht, hb, ho, -⟩ := hw
      have bd := hi.bd
      have hz6 : v'.octets.length ≤ 6000 := by lia
      refine ⟨_, .tup (.cons (by walk_at "lput") (.cons (by walk_at "lput") .nil)), ?_⟩
      (first | ((with_reducible refine' hs_ifp ?z781_1 ?z781_2 ?z781_3); (case z781_1 => walk_at "pb")) | fail "no")
      · intro h1
        have h1' : (i : Int) = 0 ∧ c = 65279 := by simpa using h1
        obtain ⟨i0, rfl⟩ := h1'
        have i0' : i = 0 := by lia
        subst i0'
        have hvf := h00 rfl
        rw [hvf] at hi
        (first | ((with_reducible refine' hs_extend_int ?z782_1 ?z782_2 ?z782_3 ?z782_4 ?z782_5 ?z782_6 ?z782_7 ?z782_8); (case z782_1 => walk_at "pv"); (case z782_2 => walk_at "hp"); (case z782_3 => walk_at "pai"); (case z782_4 => first | lia | (simp only [List.length_append, List.length_cons, List.length_nil]; lia)); (case z782_6 => exact ⟨_, fun _ => rfl⟩); (case z782_7 => exact interactive_no); (case z782_8 => (intro; rfl))) | fail "no")
        intro l2 hl2
        (((repeat (with_reducible first | refine' hs_endN ?_ | refine' hs_nil ?_)); first | assumption | skip))
        refine ⟨⟨_, _, rfl⟩, ⟨{ v' with octets := v'.octets ++ [_, _, _] }, (hw'.kp (.new hl2)).oct _, ?_, fun z => absurd z (Nat.succ_ne_zero _)⟩, (kk.trans (.new hl2)).trans (.upd wfo)⟩
        rw [htk]
        exact Inv.atw (hi.add (B' := 6 * (0 + 1)) (rd_unitN ⟨by decide, by decide⟩ hcs.2) (by simp)) hvf
      · intro h1; (try (with_reducible refine' hs_endN ?_))
        cases hvw : v'.wide with
        | true =>
          rw [hvw] at hi hj
          refine hs_ifp (c := true) (pb_val (x := .bool true) (by walk_at "pv") (Tru.bool _) (by intros; rfl)) (fun _ => ?_) fun z => by cases z
          (first | ((with_reducible refine' hs_methp ?z785_1 ?z785_2 ?z785_3 ?z785_4 ?z785_5 ?z785_6 ?z785_7 ?z785_8 ?z785_9 ?z785_10 ?z785_11); (case z785_1 => walk_at "pv"); (case z785_2 => walk_at "inst"); (case z785_3 => walk_at "meth"); (case z785_4 => kernel_rfl); (case z785_5 => walk_at "pa"); (case z785_7 => exact ⟨_, fun _ => rfl⟩); (case z785_8 => rfl); (case z785_9 => rfl); (case z785_10 => exact interactive_no); (case z785_11 => (intro; rfl))) | fail "no")
          refine c_put_wide g (n := n) hw' hi hvw (by lia) hcs fun σ2 v2 a b d => ⟨rfl, ?_⟩
          (((repeat (with_reducible first | refine' hs_endN ?_ | refine' hs_nil ?_)); first | assumption | skip))
          exact ⟨⟨_, _, rfl⟩, ⟨v2, a, by rw [htk]; exact b.le (by lia), fun z => absurd z (Nat.succ_ne_zero _)⟩, kk.trans d⟩
        | false =>
          rw [hvw] at hi hj
          refine hs_ifp (c := false) (pb_val (x := .bool false) (by walk_at "pv") (Tru.bool _) (by intros; rfl)) (fun z => by cases z) fun _ => ?_
          (try (with_reducible refine' hs_endN ?_))
          (((repeat (with_reducible first | refine' hs_endN ?_ | refine' hs_nil ?_)); first | assumption | skip))
          (first | ((with_reducible refine' hs_methp ?z789_1 ?z789_2 ?z789_3 ?z789_4 ?z789_5 ?z789_6 ?z789_7 ?z789_8 ?z789_9 ?z789_10 ?z789_11); (case z789_1 => walk_at "pv"); (case z789_2 => walk_at "inst"); (case z789_3 => walk_at "meth"); (case z789_4 => kernel_rfl); (case z789_5 => walk_at "pa"); (case z789_7 => exact ⟨_, fun _ => rfl⟩); (case z789_8 => rfl); (case z789_9 => rfl); (case z789_10 => exact interactive_no); (case z789_11 => (intro; rfl))) | fail "no")
          refine c_put_narrow g (n := n) hw' hi hvw (by lia) hz hcs fun σ2 v2 a b d => ⟨rfl, ?_⟩
          (((repeat (with_reducible first | refine' hs_endN ?_ | refine' hs_nil ?_)); first | assumption | skip))
          exact ⟨⟨_, _, rfl⟩, ⟨v2, a, by rw [htk]; exact b.le (by lia), fun z => absurd z (Nat.succ_ne_zero _)⟩, kk.trans d⟩
  · rintro ρ' σ' ⟨⟨av, cv, rfl⟩, ⟨v', hw, hi, h00⟩, kk⟩
    rw [enums_len, List.length_map, List.take_length] at hi
    obtain ⟨hn, hr, hj, ht, hb, ho, -⟩ := hw
    refine hs_ret ?_
    (first | ((with_reducible refine' he_callp ?z791_1 ?z791_2 ?z791_3 ?z791_4 ?z791_5 ?z791_6); (case z791_1 => walk_at "pv"); (case z791_2 => walk_at "pa"); (case z791_4 => walk_at "keeps"); (case z791_5 => rfl); (case z791_6 => rfl)) | fail "no")
    have hoct := hi.rd.oct
    refine pc_bytes ho hoct _ _ ?_
    exact p _ _ (lread_of hi.rd) (by rw [octs_len]; exact hi.bd) kk
end

section
theorem k_437 (g : Gp) : ∃ o t n, (Gd g).K.lookup 437 = some o ∧ o.data = .seq #[.int 32 t] n := ⟨_, _, _, lookup_at (i := 275) rfl (by kernel_rfl), rfl⟩
theorem isScalar_sc {c : Int} (h : isScalar c = true) : Sc c := by
  unfold isScalar isCode isSurr at h
  simp at h
  refine ⟨h.1, ?_⟩
  unfold NoSur
  have := h.2
  lia
theorem c_encode (g : Gp) {n : Nat} {σ t} {text : List Int} {Q : MV → MH → Prop} {X : MX → MH → Prop} (ht : σ t = some (.list (text.map MV.int))) (hz : text.length ≤ 1000)
    (p : (∀ c ∈ text, isScalar c = true) → ∀ b σ', lread b = .text text → b.length ≤ 6 * text.length → Kp [] σ σ' → Q (.bytes b) σ') (px : ∀ c ∈ text, isScalar c = false → X ⟨57, .int c⟩ σ) : HCc (Gd g) (n + 10) (.ref 444) [.loc t] σ Q X := by
  apply fn_at 280 [("text", .loc t), ("ahead", .int 32)] [] rfl; kernel_rfl; kernel_rfl
  · intro W s av XK h
    obtain ⟨v1, e, h1⟩ := vreps1 h
    subst e
    obtain ⟨o, tk, m, hK, hd⟩ := k_437 g
    exact ⟨_, BindsTo.of_defaults rfl (XK _ _ hK) hd rfl rfl, .cons h1 (.cons (.int _ _) .nil)⟩
  · (focus ((repeat (with_reducible first | exact L0.nil | apply L0.oth | apply L0.bind)); done))
  · (focus ((repeat (with_reducible first | exact Nm.nil | apply Nm.cons)); done))
  · decide +kernel
  · decide +kernel
  · rfl
  · rfl
  · rfl
  · rfl
  refine hs_expr ?_ interactive_no (by intro; rfl)
  (first | ((with_reducible refine' he_callp ?z797_1 ?z797_2 ?z797_3 ?z797_4 ?z797_5 ?z797_6); (case z797_1 => walk_at "pv"); (case z797_2 => walk_at "pa"); (case z797_4 => walk_at "keeps"); (case z797_5 => rfl); (case z797_6 => rfl)) | fail "no")
  refine HCc.hc (HCc.mono (c_check g (n := n) ht (fun hsc => ⟨rfl, ?_⟩) px) (show n + 4 ≤ n + 9 from nle rfl))
  refine hs_ret ?_
  refine he_meth (he_callp (by walk_at "pv") (by walk_at "pa") (c_writer_new g (n := n) ht fun σ1 l v hw hI hv hfr k1 => ?_) (by walk_at "keeps") rfl rfl) ⟨_, fun _ => rfl⟩ rfl rfl
  refine ⟨l.r, 432, l.j, _, 338, rfl, ⟨hw.r, hw.j⟩, m_432_written _, notKey_mem (by kernel_rfl), ?_⟩
  refine ha_nil ?_
  refine HC.mono (c_written g (n := n) hw hI hv hz (fun c hc => isScalar_sc (hsc c hc)) fun b σ2 h1 h2 k2 => ?_) (show n + 6 ≤ n + 9 from nle rfl)
  exact p hsc b σ2 h1 h2 (kp_new k1 k2 hfr)
end

section
theorem try_at {G : Gl} {f : Addr} {name qual : Str} {params : Arguments} {scope : Scope} {dV kV doc pm cdv ct oc : Value} {an od : Option Addr} {osl : Array (Option Value)} {k : Nat} {vs : List MV} {σ : MH} {Q : MV → MH → Prop}
    {s0 b0 r0 : Stmt} {tb suite : List Stmt} {cid n : Str} {np hpos tpos : Pos} {cx fI : Addr} (i : Nat) (binds : List (Str × MV)) (others pre post : List Str) {ρ0 : Loc} {names : List Str}
    (hi : G.K[i]? = some (f, ⟨oc, od, .func (fnOf name qual params [s0, .Try tb [.ExceptHandler (some (.Name cid np)) (some n) (b0 :: suite) hpos] [] [] tpos, r0] scope dV kV doc pm an cdv ct), osl⟩)) (hno : (G.K.take i).all (fun p => !(p.1 == f)) = true) (hcd : codeIn G.K cdv qual = true)
    (hb : ∀ (W : Wd) (s : Shared) av, G.K.In s.heap → VReps W vs av → ∃ bv, BindsTo s (fnOf name qual params [s0, .Try tb [.ExceptHandler (some (.Name cid np)) (some n) (b0 :: suite) hpos] [] [] tpos, r0] scope dV kV doc pm an cdv ct) ⟨av, []⟩ bv ∧ BReps W binds bv)
    (h0 : L0 binds others ρ0) (hn' : Nm ρ0 names) (hnd : names.Nodup) (hloc : kindOk scope names = true) (hco : scope.isCoroutine = false) (hgen : scope.isGenerator = false) (hk : scope.kind = .function) (hcell : noCell scope = true) (hnames : names = pre ++ n :: post)
    (hX : XCls G.K cx fI) (hcid : nsIn G.K mainGlobals cid = some (some (.ref cx))) (hcl : scope.names.lookup cid = some .globalImplicit) (hcdb : (cid == ("__debug__" : Str)) = false)
    (h : HX G ⟨qual, scope, k, false, false, false, [], []⟩ ρ0 σ s0 (fun fl ρ1 σ1 => fl = .next ∧ HS G ⟨qual, scope, k, true, false, false, [], []⟩ ρ1 σ1 tb
      (fun fl ρ2 σ2 => fl = .next ∧ HS G ⟨qual, scope, k, false, false, false, [], []⟩ ρ2 σ2 [r0] (fun fl _ σ3 => ∃ v, fl = .ret v ∧ Q v σ3) (fun _ _ => False))
      (fun x σ2 => x.C = cx ∧ HS G ⟨qual, scope, k, true, true, false, [], []⟩ (locX pre n (.exc x.C x.told) post) σ2 (b0 :: suite)
        (fun fl ρ3 σ3 => fl = .next ∧ ∃ ρ4, LDel n ρ3 ρ4 ∧ HS G ⟨qual, scope, k, false, false, false, [], []⟩ ρ4 σ3 [r0] (fun fl _ σ4 => ∃ v, fl = .ret v ∧ Q v σ4) (fun _ _ => False)) (fun _ _ => False))) (fun _ _ => False)) :
    HCt G (k + 1) (.ref f) vs σ Q := by
  have e := h0.eq
  have hn := hn'.eq
  refine hct_try (binds := binds) (others := others) (pre := pre) (post := post) (lookup_at hi hno) hcd hb (by rw [e, hn]; exact hnd) (fun p hp => ?_) hco hgen hk (fun x hx => ?_) (by rw [e, hn]; exact hnames) hX hcid hcl hcdb (by rw [e]; exact h)
  · rw [e] at hp
    have hp1 : p.1 ∈ names := hn ▸ List.mem_map_of_mem hp
    have := List.all_eq_true.mp hloc p.1 hp1
    simp only [Bool.and_eq_true, beq_iff_eq, Bool.not_eq_true'] at this
    exact this
  · have := List.all_eq_true.mp hcell x hx
    intro z
    rw [z] at this; cases this
theorem HS.weaken {G : Gl} {F : Fx} {ρ : Loc} {σ : MH} {ss : List Stmt} {Q Q' : MFlow → Loc → MH → Prop} {X X' : MX → MH → Prop} (h : HS G F ρ σ ss Q X) (hq : ∀ fl ρ' σ', Q fl ρ' σ' → Q' fl ρ' σ') (hx : ∀ x σ', X x σ' → X' x σ') : HS G F ρ σ ss Q' X' :=
  fun C W s QQ EE st eo p px => h C W s QQ EE st eo (fun W' fl ρ' σ' f s' a b c d e => p W' fl ρ' σ' f s' a b (hq _ _ _ c) d e) (fun W' x σ' e s' a b c d => px W' x σ' e s' a b (hx _ _ c) d)
theorem run_ok : ∀ (fu : Nat) (v : RdV) (b : List UInt8) {v' r}, RdOk v → v.run fu b = .ok (v', r) → RdOk v' ∧ r.length ≤ b.length ∧ v'.found.length + r.length ≤ v.found.length + b.length := by
  intro fu
  induction fu with
  | zero =>
    intro v b v' r hv e
    have e' : (Except.ok (v, b) : Except Int (RdV × List UInt8)) = .ok (v', r) := by rw [← e]; cases b <;> rfl
    cases e'; exact ⟨hv, Nat.le_refl _, Nat.le_refl _⟩
  | succ fu ih =>
    intro v b v' r hv e
    cases b with
    | nil =>
      have e' : (Except.ok (v, []) : Except Int (RdV × List UInt8)) = .ok (v', r) := by rw [← e]; rfl
      cases e'; exact ⟨hv, Nat.le_refl _, Nat.le_refl _⟩
    | cons o t =>
      rw [run_step] at e
      have hp := len_pos v (o.toNat : Int)
      by_cases hl : (o :: t).length < (v.len (o.toNat : Int)).toNat
      · rw [if_pos hl] at e
        cases e; exact ⟨hv, Nat.le_refl _, Nat.le_refl _⟩
      · rw [if_neg hl] at e
        have hle := Nat.le_of_not_lt hl
        have hk : ∀ v1, v.take ((o :: t).take (v.len (o.toNat : Int)).toNat) = .ok v1 → RdOk v1 ∧ v1.found.length ≤ v.found.length + 1 := fun v1 => ok_take (c := (o :: t).take (v.len (o.toNat : Int)).toNat) hv (by
          have hc0 : u8 ((o :: t).take (v.len (o.toNat : Int)).toNat) 0 = (o.toNat : Int) := by
            obtain ⟨k, hk'⟩ := adv_succ hp
            rw [hk', List.take_succ_cons]; rfl
          rw [hc0, List.length_take]; exact Nat.min_eq_left hle)
        revert e hk
        cases v.take ((o :: t).take (v.len (o.toNat : Int)).toNat) with
        | error e1 => intro e; cases e
        | ok v1 =>
          intro e hk
          obtain ⟨hk1, h3⟩ := hk v1 rfl
          obtain ⟨r1, h2, h2'⟩ := ih { v1 with gone := v1.gone + (v.len (o.toNat : Int)).toNat } _ ⟨hk1.len, hk1.a0, hk1.a8, hk1.hi⟩ e
          dsimp only at h2'
          rw [List.length_drop] at h2 h2'
          have hn := adv_pos hp
          generalize (v.len (o.toNat : Int)).toNat = n at *
          generalize (o :: t).length = m at *
          clear hk1 e ih hv hl hp
          exact ⟨r1, Nat.le_trans h2 (Nat.sub_le _ _), by lia⟩
theorem feed_ok {v v' : RdV} {b : List UInt8} (hv : RdOk v) (e : v.feed b = .ok v') : RdOk v' ∧ v'.rest.length ≤ v.rest.length + b.length ∧ v'.found.length ≤ v.rest.length + b.length := by
  unfold RdV.feed at e
  split at e
  · cases e
  · rename_i h1
    cases e
    have := run_ok _ { v with found := [] } _ ⟨hv.len, hv.a0, hv.a8, hv.hi⟩ h1
    exact ⟨⟨this.1.len, this.1.a0, this.1.a8, this.1.hi⟩, by dsimp only; have := this.2; rw [List.length_append] at this; exact this.1, by have := this.2.2; rw [List.length_append] at this; dsimp only [List.length_nil] at this ⊢; lia⟩
theorem cut_to {α : Type} (b : List α) {i : Nat} (h : i ≤ b.length) : cut b none (some (i : Int)) = b.take i := by
  unfold cut
  simp only [Option.elim, clipAt_nat]
  rw [Nat.min_eq_left h, List.drop_zero, Nat.sub_zero]
noncomputable def DecPost (σ : MH) (r : Except Int (List Int)) (Q : MV → MH → Prop) : Prop := match r with
  | .ok cs => ∀ σ' f, σ f = none → σ' f = some (.list (cs.map MV.int)) → Kp [] σ σ' → Q (.loc f) σ'
  | .error e => ∀ σ', Kp [] σ σ' → Q (.tup [.int e]) σ'
theorem c_law_decoded (g : Gp) {n : Nat} {σ} {b : List UInt8} {cutv : MV} {Q : MV → MH → Prop} (hz : b.length ≤ 20000) (hcut : cutv = .none ∨ ∃ k : Nat, cutv = .int k ∧ k ≤ b.length) (p : DecPost σ (decode b) Q) : HCt (Gd g) (n + 10) (.ref 555) [.bytes b, cutv] σ Q := by
  apply try_at 359 [("octets", .bytes b), ("cut", cutv)] ["found", "reader", "e"] ["octets", "cut", "found", "reader"] [] rfl; kernel_rfl; kernel_rfl
  · ((intro W s av XK h; first | (have e := vreps0 h; subst e; exact ⟨_, BindsTo.of_eq rfl, .nil⟩) | (obtain ⟨v1, e, h1⟩ := vreps1 h; subst e; exact ⟨_, BindsTo.of_eq rfl, .cons h1 .nil⟩) | (obtain ⟨v1, v2, e, h1, h2⟩ := vreps2 h; subst e; exact ⟨_, BindsTo.of_eq rfl, .cons h1 (.cons h2 .nil)⟩) | (obtain ⟨v1, v2, v3, e, h1, h2, h3⟩ := vreps3 h; subst e; exact ⟨_, BindsTo.of_eq rfl, .cons h1 (.cons h2 (.cons h3 .nil))⟩) | (obtain ⟨v1, v2, v3, v4, e, h1, h2, h3, h4⟩ := vreps4 h; subst e; exact ⟨_, BindsTo.of_eq rfl, .cons h1 (.cons h2 (.cons h3 (.cons h4 .nil)))⟩) | (obtain ⟨v1, v2, v3, v4, v5, e, h1, h2, h3, h4, h5⟩ := vreps5 h; subst e; exact ⟨_, BindsTo.of_eq rfl, .cons h1 (.cons h2 (.cons h3 (.cons h4 (.cons h5 .nil))))⟩)))
  · (focus ((repeat (with_reducible first | exact L0.nil | apply L0.oth | apply L0.bind)); done))
  · (focus ((repeat (with_reducible first | exact Nm.nil | apply Nm.cons)); done))
  · decide +kernel
  · decide +kernel
  · rfl
  · rfl
  · rfl
  · rfl
  · rfl
  · exact xo_45 g
  · exact k_BadEncoding g
  · rfl
  · rfl
  refine hx_assign (he_pv pv_none ⟨_, by walk_at "lput", rfl, ?_⟩) (by intro; rfl)
  refine HS.weaken (Q := fun fl ρ2 σ2 => fl = .next ∧ ∃ v, (("found" : Str), some v) ∈ ρ2 ∧ Q v σ2) (X := fun x σ2 => ∃ e m, x = ⟨45, .tup [.int e, .str m]⟩ ∧ decode b = .error e ∧ Kp [] σ σ2) ?_ (fun fl ρ2 σ2 q => ?_) fun x σ2 q => ?_
  · rcases hcut with rfl | ⟨k, rfl, hk⟩
    · refine hs_ifp (c := true) (pb_cmp (by walk_at "pv") (by walk_at "pv") (cmp_isN 0) rfl) (fun _ => ?_) fun z => by cases z
      (first | ((with_reducible refine' hs_assign_call ?z801_1 ?z801_2 ?z801_3 ?z801_4 ?z801_5 ?z801_6 ?z801_7); (case z801_1 => walk_at "pv"); (case z801_2 => walk_at "pa"); (case z801_4 => walk_at "keeps"); (case z801_5 => rfl); (case z801_6 => rfl); (case z801_7 => (intro; rfl))) | fail "no")
      refine c_decode g (n := n) (b := b) (by lia) ?_
      cases hd : decode b with
      | error e => exact fun σ' m hk => ⟨e, m, rfl, rfl, hk⟩
      | ok cs =>
        rw [hd] at p
        intro σ' f hf hf' hk
        refine ⟨_, by walk_at "lput", ?_⟩
        (((repeat (with_reducible first | refine' hs_endN ?_ | refine' hs_nil ?_)); first | assumption | skip))
        exact ⟨rfl, _, by walk_at "mem", p σ' f hf hf' hk⟩
    · refine hs_ifp (c := false) (pb_cmp (by walk_at "pv") (by walk_at "pv") (cmp_isI _) rfl) (fun z => by cases z) fun _ => ?_
      (try (with_reducible refine' hs_endN ?_))
      have hdec : decode b = decode2 (b.take k) (b.drop k) := by rw [decode_two, List.take_append_drop]
      have htl : (b.take k).length ≤ b.length := by rw [List.length_take]; lia
      have hdl : (b.drop k).length ≤ b.length := by rw [List.length_drop]; lia
      unfold decode2 at hdec
      (first | ((with_reducible refine' hs_assign_call ?z804_1 ?z804_2 ?z804_3 ?z804_4 ?z804_5 ?z804_6 ?z804_7); (case z804_1 => walk_at "pv"); (case z804_2 => walk_at "pa"); (case z804_4 => walk_at "keeps"); (case z804_5 => rfl); (case z804_6 => rfl); (case z804_7 => (intro; rfl))) | fail "no")
      refine HC.mono (c_reader_new g (n := n) fun σ1 l hr hF k1 => ⟨_, by walk_at "lput", ?_⟩) (show n + 5 ≤ n + 9 from nle rfl)
      have kk : ∀ {σ'}, Kp [l.j, l.a] σ1 σ' → Kp [] σ σ' := fun k => kp_new k1 k fun a z => by
        rcases List.mem_cons.mp z with rfl | z
        · exact hF.j
        · rw [List.mem_singleton.mp z]; exact hF.a
      have hr' := hr
      obtain ⟨zi, zj, za, zb, zf, zab, zaf, zbf⟩ := hr'
      refine hs_assign (he_addl ?_) (by intro; rfl)
      refine he_methp (by walk_at "pv") (by walk_at "inst") (m_245_feed g) (notKey_mem (by kernel_rfl)) (.cons (pv_slice (by walk_at "pv") .none (.some (by walk_at "pv")) (by lia)) rfl .nil) ?_ ⟨_, fun _ => rfl⟩ rfl rfl
      rw [cut_to b hk]
      refine HC.mono (c_feed g (n := n) hr new_ok (by show 0 + _ ≤ 60000; lia) ?_) (show n + 8 ≤ n + 9 from nle rfl)
      cases hf1 : RdV.new.feed (b.take k) with
      | error e =>
        rw [hf1] at hdec
        exact fun σ2 m k2 => ⟨e, m, rfl, hdec, kk k2⟩
      | ok v1 =>
        rw [hf1] at hdec
        obtain ⟨ok1, rl⟩ := feed_ok new_ok hf1
        have hr0 : RdV.new.rest.length = 0 := rfl
        have rl' : v1.rest.length ≤ b.length := by lia
        intro σ2 f1 ff1 hr2 k2
        have hr2' := hr2
        obtain ⟨yi, yj, ya, yb, yf, yab, yaf, ybf⟩ := hr2'
        dsimp only at yi yj ya yb yf yab yaf ybf hdec
        have nf1j : f1 ≠ l.j := ne_of yf yj (by intro z; cases z)
        refine he_methp (i := l.r) (c := 245) (j := l.j) (by walk_at "pv") (by walk_at "inst") (m_245_feed g) (notKey_mem (by kernel_rfl)) (.cons (pv_slice (by walk_at "pv") (.some (by walk_at "pv")) .none (by lia)) rfl .nil) ?_ ⟨_, fun _ => rfl⟩ rfl rfl
        rw [cut_from b hk]
        refine HC.mono (c_feed g (n := n) (l := { l with f := f1 }) hr2 ok1 (by lia) ?_) (show n + 8 ≤ n + 9 from nle rfl)
        cases hf2 : v1.feed (b.drop k) with
        | error e =>
          rw [hf2] at hdec
          exact fun σ3 m k3 => ⟨e, m, rfl, hdec, kk (k2.trans k3)⟩
        | ok v2 =>
          rw [hf2] at hdec
          intro σ3 f2 ff2 hr3 k3
          have hr3' := hr3
          obtain ⟨xi, xj, xa, xb, xf, xab, xaf, xbf⟩ := hr3'
          dsimp only at xi xj xa xb xf xab xaf xbf hdec
          have yf3 : σ3 f1 = some (.list (v1.found.map MV.int)) := k3 _ _ (fun z => by
            rcases List.mem_cons.mp z with z | z
            · exact nf1j z
            · exact yaf (List.mem_singleton.mp z).symm) yf
          refine ⟨f1, f2, _, _, rfl, rfl, yf3, xf, ?_, fun c hc => ⟨_, by walk_at "lput", ?_⟩⟩
          · have := (feed_ok ok1 hf2).2.2
            simp only [List.length_map]
            lia
          have cr : c ≠ l.r := ne_fresh hc xi
          have cj : c ≠ l.j := ne_fresh hc xj
          have ca : c ≠ l.a := ne_fresh hc xa
          have cb : c ≠ l.b := ne_fresh hc xb
          have cf : c ≠ f2 := ne_fresh hc xf
          (first | ((with_reducible refine' hs_methp ?z805_1 ?z805_2 ?z805_3 ?z805_4 ?z805_5 ?z805_6 ?z805_7 ?z805_8 ?z805_9 ?z805_10 ?z805_11); (case z805_1 => walk_at "pv"); (case z805_2 => walk_at "inst"); (case z805_3 => walk_at "meth"); (case z805_4 => kernel_rfl); (case z805_5 => walk_at "pa"); (case z805_7 => exact ⟨_, fun _ => rfl⟩); (case z805_8 => rfl); (case z805_9 => rfl); (case z805_10 => exact interactive_no); (case z805_11 => (intro; rfl))) | fail "no")
          refine HC.mono (c_finish g (l := { l with f := f2 }) (v := v2) (n := n) ?_ ?_) (show n + 4 ≤ n + 9 from nle rfl)
          · refine ⟨?_, ?_, ?_, ?_, ?_, xab, xaf, xbf⟩ <;> ((try dsimp only); walk_at "hp")
          have kc : Kp [] σ (upd σ3 c (.list (v1.found.map MV.int ++ v2.found.map MV.int))) := (kk (k2.trans k3)).trans (.new hc)
          cases hfi : v2.finish with
          | some e =>
            rw [hfi] at hdec
            exact fun m => ⟨e, m, rfl, hdec, kc⟩
          | none =>
            rw [hfi] at hdec
            rw [hdec] at p
            refine ⟨rfl, ?_⟩
            (((repeat (with_reducible first | refine' hs_endN ?_ | refine' hs_nil ?_)); first | assumption | skip))
            refine ⟨rfl, _, by walk_at "mem", p _ c (fresh_back' (kk (k2.trans k3)) hc) ?_ kc⟩
            rw [List.map_append]; exact upd_same
  · obtain ⟨rfl, v, hm, q⟩ := q
    refine ⟨rfl, ?_⟩
    exact hs_retp (pv_loc hm) ⟨v, rfl, q⟩
  · obtain ⟨e, m, rfl, hd, hk⟩ := q
    refine ⟨rfl, ?_⟩
    rw [hd] at p
    show HS _ _ ([("octets", none), ("cut", none), ("found", none), ("reader", none), ("e", some (.exc 45 (.tup [.int e, .str m])))] : Loc) _ _ _ _
    refine hs_assignp (v := .tup [.int e]) (pv_tuple (.cons (pv_sub (pv_xattr (pv_loc (mv := .exc 45 (.tup [.int e, .str m])) ?_) (xo_45 g) (xg_45 g) rfl ?_) pv_int (.tup (by decide) (by decide) rfl) ?_) rfl .nil) (by simp)) (by walk_at "lput") ?_ (by intro; rfl)
    · walk_at "mem"
    · intros; rfl
    · intros; rfl
    · refine hs_nil ⟨rfl, _, .there (.there (.there (.there .here))), hs_retp (pv_loc (by walk_at "mem")) ⟨_, rfl, p _ hk⟩⟩
end

section
theorem cut_map {α β : Type} (f : α → β) (xs : List α) (l u : Option Int) : cut (xs.map f) l u = (cut xs l u).map f := by
  unfold cut; rw [List.map_take, List.map_drop, List.length_map]
theorem vreps_of_ints {W : Wd} {its : List Value} {ns : List Int} (h : IntsAre its ns) : VReps W (ns.map MV.int) its := by
  induction h with
  | nil => exact .nil
  | cons n t _ ih => exact .cons (.int n t) ih
theorem he_sliceK {G : Gl} {F : Fx} {ρ : Loc} {σ : MH} {X : MX → MH → Prop} {o : Expr} {lo hi : Option Expr} {l u : Option Int} {sp pos : Pos} {lp : Addr} {ob : Obj} {its : List Value} {ns : List Int} {n : Nat} {Q : MV → MH → Prop} (hK : G.K.lookup lp = some ob) (hc : ob.cls = .type "list") (hdt : ob.data = .seq its.toArray n) (hint : IntsAre its ns) (hz : ns.length ≤ 65536)
    (ho : PV G F ρ σ o (.raw (.ref lp))) (pl : PPart G F ρ σ lo l) (pu : PPart G F ρ σ hi u) (q : ∀ c, σ c = none → Q (.loc c) (upd σ c (.list ((cut ns l u).map MV.int)))) : HE G F ρ σ (.Subscript o (.Slice lo hi none sp) pos) Q X := by
  intro C W s QQ EE st eo p px
  refine Subscript_ (he_use (ho (fun z σ' => z = .raw (.ref lp) ∧ σ' = σ) X ⟨rfl, rfl⟩) st eo px fun W1 x σ1 v s1 h1 h2 q1 r1 st1 px1 => ?_)
  obtain ⟨rfl, rfl⟩ := q1
  cases r1
  refine wpAny_Slice (part_ok pl st1 eo px1 fun W2 vl s2 h3 h4 il st2 => part_ok pu st2 eo (px1.from h3 h4) fun W3 vu s3 h5 h6 iu st3 => ?_)
  refine wpAny_pure ?_
  obtain ⟨m, led, hF, hN, hl, hm⟩ := st3.ex
  have hoo := (st3.ok.inK.keeps hF.keep) _ _ hK
  have g4 : s3.heap.IsList lp its.toArray := ⟨_, hoo, hc, _, hdt⟩
  have hlen : its.length = ns.length := hint.length
  refine tail_any (T := "list") (id := "list.__getitem__") (ops := [.ref s3.heap.objs.size, .ref _]) (Heap.IsList.typeIs (s := { s3 with heap := s3.heap.push { cls := .type "slice", data := .fields #[vl, vu, .none] } }) (g4.push _)) slot_list_getitem.lookup
    (wpAny_getItem_list_slice (g4.push _) (Heap.IsSliceOf.new ..) il iu .none (by simp) ?_ (by rw [List.size_toArray]; exact size_ok hz hlen)) rfl
  have F' := (hF.push { cls := .type "slice", data := .fields #[vl, vu, .none] }).push { cls := .type "list", data := .seq (slicePick its.toArray l u none) }
  have N' := News.push (hF.push { cls := .type "slice", data := .fields #[vl, vu, .none] }) (hN.grown fun _ _ e => Heap.get?_push_of_some _ e) { cls := .type "list", data := .seq (slicePick its.toArray l u none) }
  rw [Heap.size_push] at N'
  show QQ (.ref (s3.heap.push _).objs.size) _
  rw [Heap.size_push]
  have hlt : ∀ p ∈ led, p.1 < s3.heap.objs.size + 1 := fun p hp => Nat.lt_succ_of_lt (Heap.lt_size (hN p hp).1)
  refine p _ _ _ _ _ (((h1.trans h3).trans h5).trans (W3.grow_le _)) (((h2.trans h4).trans h6).trans (Same.of s3 _ _)) (q _ (mem_fresh hm)) (.loc (W3.grow_get _)) (st3.grow (s' := { s3 with heap := _ }) F' N' hl hm hlt ?_)
  rw [slicePick_plain, ← cut_map]
  have hs : its.toArray.size = (ns.map MV.int).length := by rw [List.size_toArray, List.length_map]; exact hlen
  rw [hs]
  refine .list (vreps_take (vreps_drop (vreps_of_ints hint) _) _) ?_
  exact Nat.le_trans (cut_len _ _ _) (by rw [List.length_map]; exact hz)
theorem c_law_deck (g : Gp) {n : Nat} {σ} {lp : Addr} {ob : Obj} {its : List Value} {ns : List Int} {m : Nat} {Q : MV → MH → Prop} {X : MX → MH → Prop} (hK : (Gd g).K.lookup lp = some ob) (hc : ob.cls = .type "list") (hdt : ob.data = .seq its.toArray m) (hint : IntsAre its ns) (hz : ns.length ≤ 65536)
    (p : ∀ d c σ', Dk σ' d c 0 → σ c = none → σ d = none → Kp [] σ σ' → Q (.loc d) σ') : HCc (Gd g) (n + 1) (.ref 485) [.raw (.ref lp)] σ Q X := by
  apply fn_at 309 [("script", .raw (.ref lp))] [] rfl; kernel_rfl; ((kernel_rfl; (((intro W s av XK h; first | (have e := vreps0 h; subst e; exact ⟨_, BindsTo.of_eq rfl, .nil⟩) | (obtain ⟨v1, e, h1⟩ := vreps1 h; subst e; exact ⟨_, BindsTo.of_eq rfl, .cons h1 .nil⟩) | (obtain ⟨v1, v2, e, h1, h2⟩ := vreps2 h; subst e; exact ⟨_, BindsTo.of_eq rfl, .cons h1 (.cons h2 .nil)⟩) | (obtain ⟨v1, v2, v3, e, h1, h2, h3⟩ := vreps3 h; subst e; exact ⟨_, BindsTo.of_eq rfl, .cons h1 (.cons h2 (.cons h3 .nil))⟩) | (obtain ⟨v1, v2, v3, v4, e, h1, h2, h3, h4⟩ := vreps4 h; subst e; exact ⟨_, BindsTo.of_eq rfl, .cons h1 (.cons h2 (.cons h3 (.cons h4 .nil)))⟩) | (obtain ⟨v1, v2, v3, v4, v5, e, h1, h2, h3, h4, h5⟩ := vreps5 h; subst e; exact ⟨_, BindsTo.of_eq rfl, .cons h1 (.cons h2 (.cons h3 (.cons h4 (.cons h5 .nil))))⟩)))); ((focus ((repeat (with_reducible first | exact L0.nil | apply L0.oth | apply L0.bind)); done))); ((focus ((repeat (with_reducible first | exact Nm.nil | apply Nm.cons)); done))); decide +kernel; decide +kernel; rfl; rfl; rfl; rfl))
  refine hs_ret (he_dict (hds_cons ?_) rfl rfl (List.cons_ne_nil _ _) (Nat.le_of_ble_eq_true rfl))
  refine he_listcomp (hi_list (he_sliceK hK hc hdt hint hz (by walk_at "pv") .none (.some (by walk_at "pv")) fun s hs => ⟨s, _, rfl, upd_same, fun k ys σ' => σ' = upd σ s (.list ((cut ns none (some 60)).map MV.int)) ∧ ∃ cs : List Int, ys = cs.map MV.int ∧ cs.length = k ∧ ∀ x ∈ cs, 0 ≤ x ∧ x < 1000000007, ⟨rfl, [], rfl, rfl, fun x hx => absurd hx List.not_mem_nil⟩, fun _ _ _ z => z.1 ▸ upd_same, ?_, ?_, ?_⟩)) (fun C => ⟨_, rfl⟩) (by decide) rfl rfl (by decide) (by intros; rfl) rfl
  · rintro k ys v σ' hx ⟨rfl, cs, rfl, rfl, hcs⟩
    obtain ⟨y, hy, rfl⟩ := List.mem_map.mp (List.mem_of_getElem? hx)
    refine hel_bin (hel_call rfl rfl rfl (fun Q' q' => hel_built (k_int g) b_int (by decide +kernel) rfl (fun _ _ _ => rfl) rfl q') ⟨rfl, hel_x rfl rfl rfl (pc_int _ _ (hel_int ⟨_, Bin.mod (by decide), rfl, cs ++ [_], by rw [List.map_append]; rfl, by simp, fun x hx => ?_⟩))⟩)
    rcases List.mem_append.mp hx with hx | hx
    · exact hcs x hx
    · rw [List.mem_singleton.mp hx]; lia
  · rw [List.length_map]; exact Nat.le_trans (cut_len _ _ _) hz
  · rintro ys σ' ⟨rfl, cs, rfl, hlen, hcs⟩ l hl
    have hl60 : cs.length ≤ 60 := by
      rw [hlen, List.length_map]; unfold cut
      rw [List.length_take]
      have : Option.elim (some (60 : Int)) ns.length (clipAt ns.length) ≤ 60 := by
        show clipAt ns.length 60 ≤ 60
        rw [show (60 : Int) = ((60 : Nat) : Int) from rfl, clipAt_nat]; exact Nat.min_le_left _ _
      exact Nat.le_trans (Nat.min_le_left _ _) (Nat.le_trans (Nat.sub_le _ _) this)
    refine hds_cons (he_pv (by walk_at "pv") (hds_nil ⟨(show (["cells", "at"] : List Str).Nodup from by decide +kernel), Nat.le_of_ble_eq_true rfl, fun d hd => ?_⟩))
    have nld : l ≠ d := fun z => by rw [z, upd_same] at hd; cases hd
    have nls : l ≠ s := fun z => by rw [z, upd_same] at hl; cases hl
    have k1 : Kp [] σ (upd σ s (.list ((cut ns none (some 60)).map MV.int))) := .new hs
    have k2 : Kp [] σ (upd (upd σ s (.list ((cut ns none (some 60)).map MV.int))) l (.list (cs.map MV.int))) := k1.trans (.new hl)
    exact p d l _ ⟨0, cs, upd_same, upd_get nld upd_same, by decide, by decide, hl60, hcs⟩ (fresh_back' k1 hl) (fresh_back' k2 hd) (k2.trans (.new hd))
end

section
theorem c_law_written (g : Gp) {n : Nat} {σ t} {text : List Int} {Q : MV → MH → Prop} (ht : σ t = some (.list (text.map MV.int))) (hz : text.length ≤ 1000)
    (p : (∀ c ∈ text, isScalar c = true) → ∀ b σ', lread b = .text text → b.length ≤ 6 * text.length → Kp [] σ σ' → Q (.bytes b) σ') (px : ∀ c ∈ text, isScalar c = false → ∀ σ', Kp [] σ σ' → Q (.int c) σ') : HCt (Gd g) (n + 11) (.ref 562) [.loc t] σ Q := by
  apply try_at 364 [("text", .loc t)] ["found", "e"] ["text", "found"] [] rfl; kernel_rfl; kernel_rfl
  · ((intro W s av XK h; first | (have e := vreps0 h; subst e; exact ⟨_, BindsTo.of_eq rfl, .nil⟩) | (obtain ⟨v1, e, h1⟩ := vreps1 h; subst e; exact ⟨_, BindsTo.of_eq rfl, .cons h1 .nil⟩) | (obtain ⟨v1, v2, e, h1, h2⟩ := vreps2 h; subst e; exact ⟨_, BindsTo.of_eq rfl, .cons h1 (.cons h2 .nil)⟩) | (obtain ⟨v1, v2, v3, e, h1, h2, h3⟩ := vreps3 h; subst e; exact ⟨_, BindsTo.of_eq rfl, .cons h1 (.cons h2 (.cons h3 .nil))⟩) | (obtain ⟨v1, v2, v3, v4, e, h1, h2, h3, h4⟩ := vreps4 h; subst e; exact ⟨_, BindsTo.of_eq rfl, .cons h1 (.cons h2 (.cons h3 (.cons h4 .nil)))⟩) | (obtain ⟨v1, v2, v3, v4, v5, e, h1, h2, h3, h4, h5⟩ := vreps5 h; subst e; exact ⟨_, BindsTo.of_eq rfl, .cons h1 (.cons h2 (.cons h3 (.cons h4 (.cons h5 .nil))))⟩)))
  · (focus ((repeat (with_reducible first | exact L0.nil | apply L0.oth | apply L0.bind)); done))
  · (focus ((repeat (with_reducible first | exact Nm.nil | apply Nm.cons)); done))
  · decide +kernel
  · decide +kernel
  · rfl
  · rfl
  · rfl
  · rfl
  · rfl
  · exact xo_57 g
  · exact k_BadCode g
  · rfl
  · rfl
  refine hx_assign (he_pv pv_none ⟨_, by walk_at "lput", rfl, ?_⟩) (by intro; rfl)
  refine HS.weaken (Q := fun fl ρ2 σ2 => fl = .next ∧ ∃ v, (("found" : Str), some v) ∈ ρ2 ∧ Q v σ2) (X := fun x σ2 => ∃ c, x = ⟨57, .int c⟩ ∧ c ∈ text ∧ isScalar c = false ∧ σ2 = σ) ?_ (fun fl ρ2 σ2 q => ?_) fun x σ2 q => ?_
  · (first | ((with_reducible refine' hs_assign_call ?z814_1 ?z814_2 ?z814_3 ?z814_4 ?z814_5 ?z814_6 ?z814_7); (case z814_1 => walk_at "pv"); (case z814_2 => walk_at "pa"); (case z814_4 => walk_at "keeps"); (case z814_5 => rfl); (case z814_6 => rfl); (case z814_7 => (intro; rfl))) | fail "no")
    refine HCc.hc (c_encode g (n := n) ht hz (fun hsc b σ' h1 h2 hk => ⟨_, by walk_at "lput", ?_⟩) fun c hc hs => ⟨c, rfl, hc, hs, rfl⟩)
    (((repeat (with_reducible first | refine' hs_endN ?_ | refine' hs_nil ?_)); first | assumption | skip))
    exact ⟨rfl, _, by walk_at "mem", p hsc b σ' h1 h2 hk⟩
  · obtain ⟨rfl, v, hm, q⟩ := q
    refine ⟨rfl, ?_⟩
    exact hs_retp (pv_loc hm) ⟨v, rfl, q⟩
  · obtain ⟨c, rfl, hc, hs, rfl⟩ := q
    refine ⟨rfl, ?_⟩
    show HS _ _ ([("text", none), ("found", none), ("e", some (.exc 57 (.int c)))] : Loc) _ _ _ _
    refine hs_assignp (v := .int c) (pv_xattr (pv_loc (mv := .exc 57 (.int c)) ?_) (xo_57 g) (xg_57 g) rfl ?_) (by walk_at "lput") ?_ (by intro; rfl)
    · walk_at "mem"
    · intros; rfl
    · refine hs_nil ⟨rfl, _, .there (.there .here), hs_retp (pv_loc (by walk_at "mem")) ⟨_, rfl, px c hc hs _ (.refl _ _)⟩⟩
end

section
theorem law_ast {G : Gl} {oc oc' : Value} {od od' : Option Addr} {osl osl' : Array (Option Value)} {name qual name' qual' : Str} {params params' : Arguments} {body body' : List Stmt} {scope scope' : Scope} {dV kV doc pm cdv ct dV' kV' doc' pm' cdv' ct' : Value} {an an' : Option Addr} {i : Nat} {f : Addr}
    (h : G.K[i]? = some (f, ⟨oc, od, .func (fnOf name qual params body scope dV kV doc pm an cdv ct), osl⟩)) (h' : G.K[i]? = some (f, ⟨oc', od', .func (fnOf name' qual' params' body' scope' dV' kV' doc' pm' an' cdv' ct'), osl'⟩)) : body = body' ∧ scope = scope' := by
  rw [h] at h'
  simp only [Option.some.injEq, Prod.mk.injEq, Obj.mk.injEq, Data.func.injEq, fnOf, FuncData.mk.injEq, FuncBody.stmts.injEq] at h'
  simp_all
theorem f_kp {σ σ' : MH} {f : Nat} {o : MObj} {S : List Nat} (h : σ f = some o) (k : Kp S σ σ') (hf : f ∉ S) : σ' f = some o := k _ _ hf h
theorem bn_self {σ d c f k ns} (h : Dk σ d c k) (hf : σ f = some (.list ((ns : List Int).map MV.int))) (fd : f ≠ d) (fc : f ≠ c) : Bn σ σ d c f k ns := ⟨h, hf, .refl _ _, fd, fc⟩
noncomputable def DueRep (σ : MH) (due : MV) (r : LRes) : Prop := match r with
  | .text cs => ∃ t, due = .loc t ∧ σ t = some (.list (cs.map MV.int))
  | .err e => due = .tup [mvo e]
theorem DueRep.kp {σ σ' due r} (h : DueRep σ due r) (k : Kp [] σ σ') : DueRep σ' due r := by
  cases r with
  | text cs => obtain ⟨t, e, e2⟩ := h; exact ⟨t, e, k _ _ (fun z => absurd z List.not_mem_nil) e2⟩
  | err e => exact h
theorem lpost_of {σ : MH} {r : LRes} {Q : MV → MH → Prop} (q : ∀ due σ', DueRep σ' due r → Kp [] σ σ' → (∀ t, due = .loc t → σ t = none) → Q due σ') : LPost σ r Q := by
  cases r with
  | text cs => exact fun σ' t h1 h2 k => q (.loc t) σ' ⟨t, rfl, h2⟩ k fun t' e => by cases e; exact h1
  | err e => exact fun σ' k => q _ σ' rfl k fun t' z => by cases z
theorem eqv_ints (ns : List Int) : PyData.eqv (.list (ns.map PyData.int)) (.list (ns.map PyData.int)) = true := by
  have h := drep_depth (σ := fun _ => some (.list (ns.map MV.int))) (DRep.ints (l := 0) (ns := ns) rfl)
  exact PySem.SeqAt.eqv_refl _ h.1
theorem ned_ints {σ t t0} {ns : List Int} (h : σ t = some (.list (ns.map MV.int))) (h' : σ t0 = some (.list (ns.map MV.int))) : Cmp σ .NotEq (.loc t) (.loc t0) false := by
  have := Cmp.ned (σ := σ) (.ints h) (.ints h')
  rw [eqv_ints] at this; exact this
theorem ned_tup {σ} (a : Int) : Cmp σ .NotEq (.tup [.int a]) (.tup [.int a]) false := by
  have := Cmp.ned (σ := σ) (.tupI a) (.tupI a)
  have e : PyData.eqv (.tuple [.int a]) (.tuple [.int a]) = true := by simp [PyData.eqv, PyData.eqvAll]
  rw [e] at this; exact this
noncomputable def lcodes : List Int := [65, 32, 7, 233, 945, 1046, 1488, 12354, 19968, 40869, 57344, 65279, 66560, 128512, 1114111, 44032, 890, 969, 720, 592, 8212, 65377, 65438]
theorem lc_ok : ∀ x ∈ lcodes, isScalar x = true := by decide
theorem k_480 (g : Gp) : ∃ ob its n, (Gd g).K.lookup 480 = some ob ∧ ob.cls = .type "list" ∧ ob.data = .seq (its : List Value).toArray n ∧ IntsAre its lcodes :=
  ⟨_, _, _, lookup_at (i := 306) rfl (by kernel_rfl), rfl, rfl, by unfold lcodes; repeat (first | exact .nil | refine .cons _ _ ?_)⟩
inductive RestInv (lp : Addr) (f d c : Nat) (i : Nat) (ρ' : Loc) (σ' : MH) : Prop
  | mk (w : Bool) (tv : Option MV) (ns : List Int) (h1 : ρ' = ([("script", some (.raw (.ref lp))), ("some", some (.loc f)), ("is_wide", some (.bool w)), ("turn", tv), ("octets", none), ("due", none), ("cut", none), ("told", none), ("text", none)] : Loc))
    (h2 : Dk σ' d c (1 + 4 * i)) (h3 : σ' f = some (.list (ns.map MV.int))) (h4 : Oct ns) (h5 : ns.length ≤ 4 * i) : RestInv lp f d c i ρ' σ'
theorem c_law_rest (g : Gp) {name qual : Str} {params : Arguments} {s1 : Stmt} {rest : List Stmt} {scope : Scope} {dV kV doc pm cdv ct oc : Value} {an od : Option Addr} {osl : Array (Option Value)} {lp ca : Addr} {nm : Str} {n : Nat} {σ : MH} {d c f : Nat}
    (hi : (Gd g).K[367]? = some (567, ⟨oc, od, .func (fnOf name qual params (s1 :: rest) scope dV kV doc pm an cdv ct), osl⟩)) (hD : Dk σ d c 0) (hf : σ f = some (.list [])) (fd : f ≠ d) (fc : f ≠ c) :
    HS (Gd g) ⟨nm, scope, n + 13, false, false, true, [("deck", ca)], [("deck", .loc d)]⟩ [("script", some (.raw (.ref lp))), ("some", some (.loc f)), ("is_wide", some (.bool false)), ("turn", none), ("octets", none), ("due", none), ("cut", none), ("told", none), ("text", none)] σ rest (fun fl _ _ => fl = .ret (.bool true)) (fun _ _ => False) := by
  obtain ⟨e1, rfl⟩ := law_ast hi (show (Gd g).K[367]? = some (567, ⟨_, _, .func (fnOf _ _ _ _ _ _ _ _ _ _ _ _), _⟩) from rfl)
  obtain ⟨rfl, rfl⟩ := List.cons.inj e1
  clear e1 hi
  refine hs_for (hi_rng (he_calla (by walk_at "pv") ?_ (by walk_at "keeps") rfl rfl)) (by intros; rfl) rfl rfl
  refine ha_cons (he_bin (he_pv (v := .int 1) (by walk_at "pv") ?_)) rfl
  refine he_callp (by walk_at "pv") (by walk_at "pa") ?_ (by walk_at "keeps") rfl rfl
  refine HCc.hc (HCc.mono (c_law_draw g (n := n) hD (by decide) (by decide) fun v σ1 v0 v1 hD1 k1 => ⟨_, Bin.add _ _, ?_⟩) (show n + 1 ≤ n + 13 from nle rfl))
  have hf1 : σ1 f = some (.list (([] : List Int).map MV.int)) := f_kp hf k1 (nin1 fd)
  refine ha_nil (pc_range _ _ ⟨(1 + v).toNat, by rw [show (((1 + v).toNat : Nat) : Int) = 1 + v from by lia], by lia, ?_⟩)
  refine ⟨RestInv lp f d c, ⟨false, none, [], rfl, hD1.le (by lia), hf1, .nil, Nat.le_refl _⟩, fun _ _ _ _ => trivial, ?_, ?_⟩
  · rintro i x ρ' σ' hx ⟨w, tv, ns, rfl, hD2, hf2, ho, hl⟩
    obtain ⟨hi, rfl⟩ := nums_get hx
    refine ⟨_, .name (by walk_at "lput"), ?_⟩
    have hB := bn_self hD2 hf2 fd fc
    have fin : OPost σ' d c f (1 + 4 * i + 4) ns (fun v σ2 => ∃ ρ2, LPut "is_wide" v ([("script", some (.raw (.ref lp))), ("some", some (.loc f)), ("is_wide", some (.bool w)), ("turn", some (.int i)), ("octets", none), ("due", none), ("cut", none), ("told", none), ("text", none)] : Loc) ρ2 ∧ RestInv lp f d c (i + 1) ρ2 σ2) :=
      fun b σ2 e hd he hoe hle _ => ⟨_, by walk_at "lput", b, _, ns ++ e, rfl, hd.le (by lia), he, ho.app hoe, by rw [List.length_append]; lia⟩
    refine hs_assign ?_ (by intro; rfl)
    cases w with
    | true =>
      refine he_ifexpp (c := true) (pb_val (x := .bool true) (by walk_at "pv") (Tru.bool _) (by intros; rfl)) (fun _ => ?_) fun z => by cases z
      (first | ((with_reducible refine' he_callp ?z816_1 ?z816_2 ?z816_3 ?z816_4 ?z816_5 ?z816_6); (case z816_1 => walk_at "pv"); (case z816_2 => walk_at "pa"); (case z816_4 => walk_at "keeps"); (case z816_5 => rfl); (case z816_6 => rfl)) | fail "no")
      refine HCc.hc (HCc.mono (c_law_wide g (n := n) hB (by lia) (by lia) fun b σ2 e hd he hoe hle k2 => ?_) (show n + 2 ≤ n + 13 from nle rfl))
      obtain ⟨ρ2, hp, q⟩ := fin b σ2 e hd he hoe hle k2
      exact ⟨ρ2, hp, hs_nil q⟩
    | false =>
      refine he_ifexpp (c := false) (pb_val (x := .bool false) (by walk_at "pv") (Tru.bool _) (by intros; rfl)) (fun z => by cases z) fun _ => ?_
      (first | ((with_reducible refine' he_callp ?z817_1 ?z817_2 ?z817_3 ?z817_4 ?z817_5 ?z817_6); (case z817_1 => walk_at "pv"); (case z817_2 => walk_at "pa"); (case z817_4 => walk_at "keeps"); (case z817_5 => rfl); (case z817_6 => rfl)) | fail "no")
      refine HCc.hc (HCc.mono (c_law_narrow g (n := n) hB (by lia) (by lia) fun b σ2 e hd he hoe hle k2 => ?_) (show n + 2 ≤ n + 13 from nle rfl))
      obtain ⟨ρ2, hp, q⟩ := fin b σ2 e hd he hoe hle k2
      exact ⟨ρ2, hp, hs_nil q⟩
  · rintro ρ' σ' ⟨w, tv, ns, rfl, hD2, hf2, ho, hl⟩
    rw [nums_len] at hD2 hl
    have hD3 : Dk σ' d c 40 := hD2.le (by lia)
    have hl3 : ns.length ≤ 36 := by lia
    clear hD2 hl hf1 k1 hD1
    refine hs_assign_call (by walk_at "pv") (by walk_at "pa") (pc_bytes hf2 ho _ _ ⟨_, by walk_at "lput", ?_⟩) (by walk_at "keeps") rfl rfl (by intro; rfl)
    have hbl : (octs ns).length ≤ 36 := by rw [octs_len]; exact hl3
    generalize octs ns = b at hbl ⊢
    suffices hrest : ∀ (b' : List UInt8) σ2, b'.length ≤ 36 → Dk σ2 d c 41 → HS (Gd g) _ ([("script", some (.raw (.ref lp))), ("some", some (.loc f)), ("is_wide", some (.bool w)), ("turn", tv), ("octets", some (.bytes b')), ("due", none), ("cut", none), ("told", none), ("text", none)] : Loc) σ2 _ (fun fl _ _ => fl = .ret (.bool true)) (fun _ _ => False) by
      refine hs_if (hb_cmp (he_callp (by walk_at "pv") (by walk_at "pa") ?_ (by walk_at "keeps") rfl rfl) rfl)
      refine HCc.hc (HCc.mono (c_law_draw g (n := n) hD3 (by decide) (by decide) fun x σ2 x0 x1 hD4 k4 => ?_) (show n + 1 ≤ n + 13 from nle rfl))
      refine he_pv (v := .int 4) (by walk_at "pv") ⟨_, Cmp.eq _ _, fun h1 => ?_, fun h1 => ?_⟩
      · refine hs_assignp (pv_slice (by walk_at "pv") .none (.some (by walk_at "pv")) (by lia)) (by walk_at "lput") ?_ (by intro; rfl)
        (((repeat (with_reducible first | refine' hs_endN ?_ | refine' hs_nil ?_)); first | assumption | skip))
        refine hrest _ _ ?_ hD4
        exact Nat.le_trans (cut_len _ _ _) hbl
      · (try (with_reducible refine' hs_endN ?_))
        exact hrest b _ hbl hD4
    clear hD3 hf2 ho hl3 hbl b
    intro b σ2 hbl hD5
    refine hs_assign_call (by walk_at "pv") (by walk_at "pa") ?_ (by walk_at "keeps") rfl rfl (by intro; rfl)
    refine HCc.hc (HCc.mono (c_law_read g (n := n) (b := b) (by lia) (lpost_of fun due σ3 hdue k3 hfr => ⟨_, by walk_at "lput", ?_⟩)) (show n + 5 ≤ n + 13 from nle rfl))
    have hD6 := hD5.kp k3 (fun z => absurd z List.not_mem_nil) (fun z => absurd z List.not_mem_nil)
    refine hs_for (hi_tup (he_tuple (ha_cons (he_pv (v := .none) (by walk_at "pv") (ha_cons ?_ rfl)) rfl))) (by intros; rfl) rfl rfl
    refine he_callp (by walk_at "pv") (by walk_at "pa") ?_ (by walk_at "keeps") rfl rfl
    refine HCc.hc (HCc.mono (c_law_draw g (n := n) hD6 (by decide) (by lia) fun x σ4 x0 x1 hD7 k4 => ?_) (show n + 1 ≤ n + 13 from nle rfl))
    have hdue4 : DueRep σ4 due (lread b) := by
      revert hdue
      cases lread b with
      | text cs =>
        rintro ⟨t, rfl, ht⟩
        refine ⟨t, rfl, k4 _ _ (nin1 fun z => ?_) ht⟩
        obtain ⟨a', cells, e1, -⟩ := hD5
        rw [← z, hfr t rfl] at e1; cases e1
      | err e => exact id
    refine ha_nil ⟨Nat.le_of_ble_eq_true rfl, _, rfl, ?_⟩
    refine ⟨fun i ρ' σ' => (∃ (cv tl : Option MV), ρ' = ([("script", some (.raw (.ref lp))), ("some", some (.loc f)), ("is_wide", some (.bool w)), ("turn", tv), ("octets", some (.bytes b)), ("due", some due), ("cut", cv), ("told", tl), ("text", none)] : Loc)) ∧ Dk σ' d c 42 ∧ DueRep σ' due (lread b), ⟨⟨none, none, rfl⟩, hD7, hdue4⟩, fun _ _ _ _ => trivial, ?_, ?_⟩
    · clear hD6 hD7 hdue hdue4 hfr hD5
      rintro i y ρ' σ' hy ⟨⟨cv, tl, rfl⟩, hD8, hdue⟩
      have hcut : y = .none ∨ ∃ k : Nat, y = .int k ∧ k ≤ b.length := by
        rcases i with _ | _ | i
        · left; simpa using hy.symm
        · right
          have hy' : MV.int x = y := by simpa using hy
          exact ⟨x.toNat, by rw [← hy']; congr 1; lia, by lia⟩
        · simp at hy
      refine ⟨_, .name (by walk_at "lput"), ?_⟩
      refine hs_assign (he_callT (by walk_at "pv") (by walk_at "keeps") (ha_pa (xs := [.bytes b, y]) (by walk_at "pa") ?_) rfl rfl rfl) (by intro; rfl)
      refine c_law_decoded g (n := n + 3) (by lia) hcut ?_
      have hag := decode_agree b
      cases hlr : lread b with
      | text cs =>
        rw [hlr] at hag hdue
        obtain ⟨t0, rfl, ht0⟩ := hdue
        rw [show decode b = .ok cs from hag]
        intro σ5 t hft ht k5
        refine ⟨_, by walk_at "lput", ?_⟩
        have ht0' := k5 _ _ (fun z => absurd z List.not_mem_nil) ht0
        have hD9 := hD8.kp k5 (fun z => absurd z List.not_mem_nil) (fun z => absurd z List.not_mem_nil)
        refine hs_ifp (c := false) (pb_val (x := .bool false) (pv_call (by walk_at "pv") (by walk_at "pa") (pc_isTup (x := .loc t0) (.inr ⟨t0, _, rfl, ht0'⟩)) (by walk_at "keeps") rfl rfl) (Tru.bool _) (by intros; rfl)) (fun z => by cases z) fun _ => ?_
        (try (with_reducible refine' hs_endN ?_))
        refine hs_ifp (pb_cmp (by walk_at "pv") (by walk_at "pv") (ned_ints ht ht0') rfl) (fun z => by cases z) fun _ => ?_
        (try (with_reducible refine' hs_endN ?_))
        (((repeat (with_reducible first | refine' hs_endN ?_ | refine' hs_nil ?_)); first | assumption | skip))
        exact ⟨⟨_, _, rfl⟩, hD9, t0, rfl, ht0'⟩
      | err e0 =>
        rw [hlr] at hag hdue
        have hdue' : due = .tup [mvo e0] := hdue
        subst hdue'
        cases e0 with
        | some a =>
          rw [show decode b = .error a from hag]
          intro σ5 k5
          refine ⟨_, by walk_at "lput", ?_⟩
          have hD9 := hD8.kp k5 (fun z => absurd z List.not_mem_nil) (fun z => absurd z List.not_mem_nil)
          refine hs_ifp (c := true) (pb_val (x := .bool true) (pv_call (by walk_at "pv") (by walk_at "pa") (pc_isTup (x := .tup [.int a]) (.inl rfl)) (by walk_at "keeps") rfl rfl) (Tru.bool _) (by intros; rfl)) (fun _ => ?_) fun z => by cases z
          refine hs_ifp (c := false) (pb_or2 (b := false) (pb_not (b := true) (pb_val (x := .bool true) (pv_call (by walk_at "pv") (by walk_at "pa") (pc_isTup (x := .tup [.int a]) (.inl rfl)) (by walk_at "keeps") rfl rfl) (Tru.bool _) (by intros; rfl))) (c := false) fun _ => pb_or1 (pb_and2 (b := true) (pb_cmp (x := .int a) (by walk_at "pv") (by walk_at "pv") (cmp_notI a) rfl) (c := false) fun _ => pb_and1 (pb_cmp (by walk_at "pv") (by walk_at "pv") (ned_tup a) rfl))) (fun z => by cases z) fun _ => ?_
          (try (with_reducible refine' hs_endN ?_))
          (((repeat (with_reducible first | refine' hs_endN ?_ | refine' hs_nil ?_)); first | assumption | skip))
          exact ⟨⟨_, _, rfl⟩, hD9, rfl⟩
        | none =>
          obtain ⟨e1, he1⟩ := hag
          rw [he1]
          intro σ5 k5
          refine ⟨_, by walk_at "lput", ?_⟩
          have hD9 := hD8.kp k5 (fun z => absurd z List.not_mem_nil) (fun z => absurd z List.not_mem_nil)
          refine hs_ifp (c := true) (pb_val (x := .bool true) (pv_call (by walk_at "pv") (by walk_at "pa") (pc_isTup (x := .tup [.none]) (.inl rfl)) (by walk_at "keeps") rfl rfl) (Tru.bool _) (by intros; rfl)) (fun _ => ?_) fun z => by cases z
          refine hs_ifp (c := false) (pb_or2 (b := false) (pb_not (b := true) (pb_val (x := .bool true) (pv_call (by walk_at "pv") (by walk_at "pa") (pc_isTup (x := .tup [.int e1]) (.inl rfl)) (by walk_at "keeps") rfl rfl) (Tru.bool _) (by intros; rfl))) (c := false) fun _ => pb_or1 (pb_and2 (b := false) (pb_cmp (x := .none) (by walk_at "pv") (by walk_at "pv") cmp_notNone rfl) (c := false) fun z => by cases z)) (fun z => by cases z) fun _ => ?_
          (try (with_reducible refine' hs_endN ?_))
          (((repeat (with_reducible first | refine' hs_endN ?_ | refine' hs_nil ?_)); first | assumption | skip))
          exact ⟨⟨_, _, rfl⟩, hD9, rfl⟩
    · rintro ρ' σ' ⟨⟨cv, tl, rfl⟩, hD8, -⟩
      clear hD7 hD6 hD5 hdue hdue4 hfr k3 k4
      obtain ⟨ob, its, m, hK, hKc, hKd, hKi⟩ := k_480 g
      refine hs_cons (hx_assign_listcomp (y := "text") (hi_rng (he_calla (by walk_at "pv") (ha_cons (he_callp (by walk_at "pv") (by walk_at "pa") ?_ (by walk_at "keeps") rfl rfl) rfl) (by walk_at "keeps") rfl rfl)) (fun C => rfl) (fun C => ⟨_, rfl⟩) (by decide) rfl rfl (by decide) (by intros; rfl) rfl)
      refine HCc.hc (HCc.mono (c_law_draw g (n := n) hD8 (by decide) (by decide) fun x σ4 x0 x1 hD9 k4 => ?_) (show n + 1 ≤ n + 13 from nle rfl))
      refine ha_nil (pc_range _ _ ⟨x.toNat, by rw [show ((x.toNat : Nat) : Int) = x from by lia], by lia, ?_⟩)
      refine ⟨fun i ys σ' => Dk σ' d c (43 + i) ∧ ∃ cs : List Int, ys = cs.map MV.int ∧ cs.length = i ∧ ∀ x ∈ cs, isScalar x = true, ⟨hD9.le (by lia), [], rfl, rfl, fun x hx => absurd hx List.not_mem_nil⟩, fun _ _ _ _ => trivial, ?_, by rw [nums_len]; lia, ?_⟩
      · rintro i ys v σ' hx ⟨hD10, cs, rfl, rfl, hcs⟩
        have hil := (nums_get hx).1
        refine hel_subK hK hKc hKd hKi (by intros; rfl) (hel_glob (k__law_codes g) rfl (fun _ _ _ => rfl) rfl ⟨rfl, ?_⟩)
        refine hel_call (kk_492 g) rfl rfl (fun Q' q' => hel_glob (k__law_draw g) rfl (fun _ _ _ => rfl) rfl q') ⟨rfl, hel_cell (.head _) rfl (fun _ _ _ => rfl) ?_ rfl ⟨rfl, hel_int ?_⟩⟩
        · intro C cl h
          have h2 : (Sem.pure [(("deck" : Str), ca)] : Sem (List (Str × Addr))) = Sem.pure cl := h
          injection h2 with h2
          subst h2; rfl
        · refine HCc.hc (HCc.mono (c_law_draw g (n := n) hD10 (by lia) (by decide) fun y σ5 y0 y1 hD11 k5 => ?_) (show n + 1 ≤ n + 13 from nle rfl))
          refine ⟨y, rfl, y0, y1, by decide, hD11.le (by lia), cs ++ [_], by rw [List.map_append]; rfl, by simp, fun z hz => ?_⟩
          rcases List.mem_append.mp hz with hz | hz
          · exact hcs z hz
          · rw [List.mem_singleton.mp hz]
            exact getD_all lc_ok (by show y.toNat < 23; lia)
      · rintro ys σ' ⟨hD10, cs, rfl, hlen, hcs⟩ l hl
        refine ⟨_, by walk_at "lput", ?_⟩
        rw [nums_len] at hlen
        have htx : upd σ' l (.list (cs.map MV.int)) l = some (.list (cs.map MV.int)) := upd_same
        revert htx
        generalize upd σ' l (.list (cs.map MV.int)) = σ5
        intro htx
        refine hs_assign (he_callT (by walk_at "pv") (by walk_at "keeps") (ha_pa (xs := [.loc l]) (by walk_at "pa") ?_) rfl rfl rfl) (by intro; rfl)
        refine c_law_written g (n := n + 2) htx (by lia) (fun hsc b2 σ6 hrd hbl2 k6 => ⟨_, by walk_at "lput", ?_⟩) fun cc hcc hns => by rw [hcs cc hcc] at hns; cases hns
        have htx6 := k6 _ _ (fun z => absurd z List.not_mem_nil) htx
        have hag : decode b2 = .ok cs := by
          have := decode_agree b2
          rw [hrd] at this; exact this
        refine hs_if (HT.weaken (Q := fun c σ7 => c = false ∧ σ7 l = some (.list (cs.map MV.int))) (X := fun _ _ => False) ?_ (fun c σ7 q => ?_) fun _ _ z => z)
        · refine hb_or (hb_pb (v := false) (pb_not (b := true) (pb_val (x := .bool true) (pv_call (by walk_at "pv") (by walk_at "pa") pc_isBytes (by walk_at "keeps") rfl rfl) (Tru.bool _) (by intros; rfl))) ?_)
          rw [if_neg (by decide)]
          refine hb_or (hb_cmp (he_callp (by walk_at "pv") (by walk_at "pa") ?_ (by walk_at "keeps") rfl rfl) rfl)
          refine HCc.hc (HCc.mono (c_law_read g (n := n) (b := b2) (by lia) ?_) (show n + 5 ≤ n + 13 from nle rfl))
          rw [hrd]
          intro σ7 t7 hf7 ht7 k7
          have htx7 := k7 _ _ (fun z => absurd z List.not_mem_nil) htx6
          refine he_pv (by walk_at "pv") ⟨_, ned_ints ht7 htx7, ?_⟩
          rw [if_neg (by decide)]
          refine hb_or (hb_cmp (he_callp (by walk_at "pv") (by walk_at "pa") ?_ (by walk_at "keeps") rfl rfl) rfl)
          refine HC.mono (c_decode g (n := n) (b := b2) (by lia) ?_) (show n + 9 ≤ n + 13 from nle rfl)
          rw [hag]
          intro σ8 t8 hf8 ht8 k8
          have htx8 := k8 _ _ (fun z => absurd z List.not_mem_nil) htx7
          refine he_pv (by walk_at "pv") ⟨_, ned_ints ht8 htx8, ?_⟩
          rw [if_neg (by decide)]
          exact hb_or_nil ⟨rfl, htx8⟩
        · obtain ⟨rfl, htx7⟩ := q
          refine ⟨(fun z => by cases z), fun _ => ?_⟩
          (try (with_reducible refine' hs_endN ?_))
          refine hs_ret (he_cmp (he_callT (by walk_at "pv") (by walk_at "keeps") (ha_cons (he_addl (he_pv (by walk_at "pv") (he_list_int (ns := [55296]) ?_ (by decide) fun l2 hl2 => ⟨l, l2, _, _, rfl, rfl, upd_get (ne_fresh hl2 htx7).symm htx7, upd_same, by simp; lia, fun l3 hl3 => ha_nil ?_⟩))) rfl) rfl rfl rfl) rfl)
          · walk_at "pai"
          refine c_law_written g (n := n + 2) (text := cs ++ [55296]) (by rw [List.map_append]; exact upd_same) (by simp; lia) (fun hsc => ?_) fun cc hcc hns σ9 k9 => ?_
          · have := hsc 55296 (by simp)
            exact absurd this (by decide)
          · have hcc' : cc = 55296 := by
              rcases List.mem_append.mp hcc with z | z
              · rw [hcs cc z] at hns; cases hns
              · exact List.mem_singleton.mp z
            subst hcc'
            exact he_pv (v := .int 55296) (by walk_at "pv") ⟨_, Cmp.eq _ _, rfl⟩
end

section
theorem st_cell {G : Gl} {F : Fx} {C : Cx} {W : Wd} {ρ : Loc} {σ : MH} {s : Shared} {x : Str} {c : Addr} {o : Obj} {v0 : Option Value} {mv : MV} {v : Value} {QQ : Unit → Shared → Prop} {EE : Value → Shared → Prop} (st : St G F C W ρ σ s) (hW : W.hid = [(c, o)]) (hd : o.data = .cell v0) (hcl : F.cl.lookup x = some c) (hk : (C.env F).kindOf x = some .cell) (hr : VRep W mv v)
    (k : ∀ W' s', (∀ my u, VRep W my u → VRep W' my u) → Same s s' → St G { F with cells := [(x, mv)] } C W' ρ σ s' → QQ () s') : wpAny G.M (C.A F) (storeName (C.env F) x v) QQ EE s := by
  obtain ⟨m, led, hF, hN, hl, hm⟩ := st.ex
  have hmem : (c, o) ∈ led := hm.hid _ (by rw [hW]; exact .head _)
  have hnd := hm.nd
  rw [show W.hid = [(c, o)] ++ [] from by rw [hW]; rfl, List.map_append] at hnd
  have hbad := nd_bad (a := c) hnd (.head _)
  have hm2 : Mem G (W.hide []) σ (but led c) := mem_rehid (bad := [c]) hm (nd_sub hnd (List.sublist_append_right _ _)) (fun b hb => by rw [List.mem_singleton.mp hb]; exact hbad.1) (fun b hb => by rw [List.mem_singleton.mp hb]; exact hbad.2.1)
    (fun p hp hn => mem_but hp (by simpa using hn)) fun p hp => absurd hp List.not_mem_nil
  refine storeX_C hF (news_but hN hmem) hcl (UpdF.head but_ne) hd (fun h' o' F' N' d' => ?_) st.ok.kind hk
  have hcn : c ∉ (W.hide []).as ++ ((W.hide []).im.map (·.1) ++ (W.hide []).hid.map (·.1)) := fun z => by
    rcases List.mem_append.mp z with z | z
    · exact hbad.1 z
    · rcases List.mem_append.mp z with z | z
      · exact hbad.2.1 z
      · exact absurd z List.not_mem_nil
  have hm3 : Mem G ((W.hide []).keep (c, o')) σ ((c, o') :: but led c) := mem_keep hm2 hcn
  refine k ((W.hide []).keep (c, o')) _ (fun my u q => q.hide.mono ((W.hide []).keep_le _)) (Same.of s h' _) ⟨⟨st.ok.kind, st.ok.below, st.ok.inK, st.ok.top, st.ok.room, st.ok.units, st.ok.hd, st.ok.top0⟩, m, _, F', N', ?_, hm3⟩
  refine ⟨hl.nd, hl.kind, fun y my e => let ⟨u, a, b⟩ := hl.val y my e; ⟨u, a, b.hide.mono ((W.hide []).keep_le _)⟩, fun p hp => ?_⟩
  rw [List.mem_singleton.mp hp]
  exact ⟨c, o', v, hcl, .head _, d', hr.hide.mono ((W.hide []).keep_le _)⟩
theorem first3 {G : Gl} {F : Fx} {C : Cx} {W : Wd} {ρ : Loc} {σ : MH} {s : Shared} {n1 n2 n3 : Str} {np1 np2 np3 : Pos} {k tpos value pos} {rest : List Stmt} {c : Addr} {o : Obj} {v0 : Option Value} {QQ : Flow → Shared → Prop} {EE : Value → Shared → Prop} {Q : MFlow → Loc → MH → Prop} (st : St G F C W ρ σ s) (eo : EOk G F C EE) (hd : F.hd = false) (hW : W.hid = [(c, o)]) (hd0 : o.data = .cell v0) (hcl : F.cl.lookup n1 = some c) (hk1 : (C.env F).kindOf n1 = some .cell)
    (hs : swapsWithSole [.Tuple [.Name n1 np1, .Name n2 np2, .Name n3 np3] k tpos] value pos.line (C.env F) = pure false) (hw : swappedStores [.Tuple [.Name n1 np1, .Name n2 np2, .Name n3 np3] k tpos] value (C.env F) = pure none)
    (h : HE G F ρ σ value (fun v σ1 => ∃ m1 m2 m3 ρ1 ρ2, v = .tup [m1, m2, m3] ∧ LPut n2 m2 ρ ρ1 ∧ LPut n3 m3 ρ1 ρ2 ∧ HS G { F with cells := [(n1, m1)] } ρ2 σ1 rest Q (fun _ _ => False)) (fun _ _ => False))
    (p : ∀ W' fl ρ' σ' f s' m, Same s s' → Q fl ρ' σ' → FlRep W' fl f → Fr C.h₀ C.L s'.heap m → QQ f s') : wpAny G.M (C.A F) (execs (.Assign [.Tuple [.Name n1 np1, .Name n2 np2, .Name n3 np3] k tpos] value pos :: rest) (C.env F)) QQ EE s := by
  refine wpAny_execs_cons (Assign_Tuple (he_use h st eo (fun _ _ _ _ _ _ _ z _ => z.elim) fun W1 v σ1 vv s1 h1 h2 q r1 st1 px1 => ?_) hs hw)
  obtain ⟨m1, m2, m3, ρ1, ρ2, rfl, p2, p3, q⟩ := q
  cases r1 with
  | tup m rs =>
    obtain ⟨v1, v2, v3, rfl, r1, r2, r3⟩ := vreps3 rs
    obtain ⟨_, led, hF, hN, hl, hm⟩ := st1.ex
    refine wpAny_assign_Tuple (items := [v1, v2, v3].toArray) (st1.ok.hd hd) ⟨_, (hN _ (hm.im _ m)).1, rfl, _, rfl⟩ rfl rfl fun h' hx => ?_
    have hk : ∀ b ob, s1.heap.get? b = some ob → h'.get? b = some ob := fun b ob e => hx b ob (Nat.ne_of_lt (Heap.lt_size e)) e
    have st2 := st1.push (s' := { s1 with heap := h' }) hk
    refine assignInOrder_cons (wpAny_assign_Name (st_cell st2 (h1.hid.trans hW) hd0 hcl hk1 r1 fun W5 s3 hmono h3 st3 => ?_))
    refine assignInOrder_cons (wpAny_assign_Name (store_loc (F := { F with cells := [(n1, m1)] }) (C := C) st3 p2 (hmono _ _ r2) fun s4 h4 st4 => ?_))
    refine assignInOrder_cons (wpAny_assign_Name (store_loc (F := { F with cells := [(n1, m1)] }) (C := C) st4 p3 (hmono _ _ r3) fun s5 h5 st5 => ?_))
    refine assignInOrder_nil ?_
    refine q C W5 s5 QQ EE st5 eo (fun W6 fl ρ6 σ6 f s6 a1 a2 a3 a4 a5 => ?_) fun _ _ _ _ _ _ _ z _ => z.elim
    obtain ⟨m6, led6, hF6, -⟩ := a5.ex
    have hs2 : Same s1 { s1 with heap := h' } := ⟨rfl, rfl, rfl⟩
    exact p W6 fl ρ6 σ6 f s6 m6 (h2.trans (hs2.trans (h3.trans (h4.trans (h5.trans a2))))) a3 a4 hF6
end

section
theorem frag_app {K : Frag} {h : Heap} (hK : K.In h) {lp : Addr} {ob : Obj} (hg : h.get? lp = some ob) : (K ++ [(lp, ob)] : Frag).In h ∧ (K ++ [(lp, ob)] : Frag).lookup lp = some ob := by
  have key : ∀ a o, (K ++ [(lp, ob)] : Frag).lookup a = some o → h.get? a = some o := by
    intro a o e
    rw [List.lookup_append] at e
    cases q : K.lookup a with
    | some o' => rw [q] at e; cases e; exact hK a o q
    | none =>
      rw [q] at e
      simp only [Option.none_or, List.lookup_cons, List.lookup_nil] at e
      cases h2 : (a == lp) with
      | true => rw [h2] at e; cases e; rw [show a = lp from by simpa using h2]; exact hg
      | false => rw [h2] at e; cases e
  refine ⟨key, ?_⟩
  rw [List.lookup_append]
  cases q : K.lookup lp with
  | some o' =>
    have := hK lp o' q
    rw [hg] at this; cases this; rfl
  | none => simp [List.lookup_cons]
theorem kind_of {scope : Scope} {names : List Str} {ρ : Loc} (h : kindOk scope names = true) (hn : Nm ρ names) : ∀ p ∈ ρ, scope.names.lookup p.1 = some .local ∧ (p.1 == ("__debug__" : Str)) = false := fun p hp => by
  have hp1 : p.1 ∈ names := hn.eq ▸ List.mem_map_of_mem hp
  have := List.all_eq_true.mp h p.1 hp1
  simp only [Bool.and_eq_true, beq_iff_eq, Bool.not_eq_true'] at this
  exact this
theorem law_run (g : Gp) {name qual nm : Str} {params : Arguments} {body : List Stmt} {scope : Scope} {dV kV doc pm cdv ct oc : Value} {an od : Option Addr} {osl : Array (Option Value)} {s₁ : Shared} {h₁ : Heap} {tk : Nat} {fa lp : Addr} {cd : Value} {ob cobj : Obj} {its : List Value} {ns : List Int} {n : Nat} {v0 : Option Value} {m : Str → Option Value} {QQ : Flow → Shared → Prop} {EE : Value → Shared → Prop}
    (hi : (Gd g).K[367]? = some (567, ⟨oc, od, .func (fnOf name qual params body scope dV kV doc pm an cdv ct), osl⟩))
    (hIn : (Gd g).K.In s₁.heap) (hT : Top (Gd g).p (Gd g).loose (Gd g).mean (Gd g).mg (Gd g).mb s₁.heap) (hK : (Gd g).K.lookup lp = some ob) (hc : ob.cls = .type "list") (hdt : ob.data = .seq its.toArray n) (hint : IntsAre its ns) (hz : ns.length ≤ 63)
    (hF : Fr s₁.heap s₁.heap.objs.size h₁ m) (hN : News s₁.heap s₁.heap.objs.size h₁ [(s₁.heap.objs.size + 1, cobj)]) (hcd : cobj.data = .cell v0) (hm : m "script" = some (.ref lp))
    (eo : PassesOwn (Gd g).M (callerA.deeper (envX nm scope s₁.heap.objs.size fa cd [("deck", s₁.heap.objs.size + 1)])) (envX nm scope s₁.heap.objs.size fa cd [("deck", s₁.heap.objs.size + 1)]) EE)
    (p : ∀ s' m', Fr s₁.heap s₁.heap.objs.size s'.heap m' → s'.gens = s₁.gens → s'.os = s₁.os → QQ (.ret (.bool true)) s') :
    wpAny (Gd g).M (callerA.deeper (envX nm scope s₁.heap.objs.size fa cd [("deck", s₁.heap.objs.size + 1)])) (execs body (envX nm scope s₁.heap.objs.size fa cd [("deck", s₁.heap.objs.size + 1)])) QQ EE { s₁ with heap := h₁, toks := tk } := by
  have hi' := hi
  obtain ⟨rfl, rfl⟩ := law_ast hi (show (Gd g).K[367]? = some (567, ⟨_, _, .func (fnOf _ _ _ _ _ _ _ _ _ _ _ _), _⟩) from rfl)
  let C : Cx := { dp := callerA.depth + 1, un := callerA.units + 3, gd := callerA.guards, hdv := none, L := s₁.heap.objs.size, a := fa, cd := cd, outer := [], A₀ := callerA, base := s₁.heap, h₀ := s₁.heap }
  refine first3 (F := ⟨nm, _, 13, false, false, true, [("deck", s₁.heap.objs.size + 1)], []⟩) (C := C) (W := ⟨[], [], [(s₁.heap.objs.size + 1, cobj)]⟩) (ρ := [("script", some (.raw (.ref lp))), ("some", none), ("is_wide", none), ("turn", none), ("octets", none), ("due", none), ("cut", none), ("told", none), ("text", none)]) (σ := fun _ => none) (n1 := "deck") (n2 := "some") (n3 := "is_wide") (Q := fun fl _ _ => fl = .ret (.bool true)) ?_ (fun _ => eo) rfl rfl hcd rfl rfl ?_ ?_ ?_ ?_
  · refine ⟨⟨rfl, below_caller _, hIn, hT, (show callerA.depth + 1 + 13 < recursionLimit from by decide), (show callerA.units + 3 + 8 * 13 + 8 < cLine from by decide), fun _ => rfl, fun _ => ⟨rfl, rfl⟩⟩, m, _, hF, hN, ⟨?_, ?_, ?_, fun p hp => absurd hp List.not_mem_nil⟩, ⟨by simp, (fun i o e => by cases e), fun i _ => rfl, fun i hi => absurd hi (Nat.not_lt_zero _), (fun p hp => absurd hp List.not_mem_nil), fun p hp => hp⟩⟩
    · show (["script", "some", "is_wide", "turn", "octets", "due", "cut", "told", "text"] : List Str).Nodup
      decide +kernel
    · refine kind_of (names := ["script", "some", "is_wide", "turn", "octets", "due", "cut", "told", "text"]) ?_ (by (focus ((repeat (with_reducible first | exact Nm.nil | apply Nm.cons)); done)))
      dsimp only
      decide +kernel
    · intro x mv e
      rcases List.mem_cons.mp e with e | e
      · cases e; exact ⟨_, hm, .raw _⟩
      · simp at e
  · kernel_rfl
  · kernel_rfl
  · refine he_tuple (ha_cons (he_callp (by walk_at "pv") (by walk_at "pa") ?_ (by walk_at "keeps") rfl rfl) rfl)
    refine HCc.hc (HCc.mono (c_law_deck g (n := 0) hK hc hdt hint (by lia) fun d c σ1 hD hcn hdn k1 => ?_) (by show 0 + 1 ≤ 13; decide))
    refine ha_cons (he_list_int (ns := []) .nil (by decide) fun f hf => ?_) rfl
    refine ha_cons (he_pv (v := .bool false) (by walk_at "pv") ?_) rfl
    have hDf := hD
    obtain ⟨a, cells, e1, e2, -⟩ := hDf
    refine ha_nil ⟨Nat.le_of_ble_eq_true rfl, .loc d, .loc f, .bool false, _, _, rfl, (by walk_at "lput"), (by walk_at "lput"), ?_⟩
    exact c_law_rest g (n := 0) hi' (hD.kp (S := []) (.new hf) (fun z => absurd z List.not_mem_nil) (fun z => absurd z List.not_mem_nil)) upd_same (ne_fresh hf e1) (ne_fresh hf e2)
  · intro W' fl ρ' σ' f s' m' hsm hfl hr hFr
    subst hfl
    cases hr with
    | ret hv => cases hv; exact p s' m' hFr hsm.gens hsm.os
end
end Mine
end
section
set_option Elab.async false
set_option linter.all false
set_option maxRecDepth 100000
set_option maxHeartbeats 8000000
namespace Mine
open PySem PySem.W PySem.Calls PyProof.Rows
theorem law_holds.tw10007947361888340627 : True := trivial
theorem law_holds.tw10024239376800412576 : True := trivial
theorem law_holds.tw10027879121665395642 : True := trivial
theorem law_holds.tw10028117763298573888 : True := trivial
theorem law_holds.tw10079444305495103266 : True := trivial
theorem law_holds.tw10093380194815717143 : True := trivial
theorem law_holds.tw10108825076125807744 : True := trivial
theorem law_holds.tw10188763426450519768 : True := trivial
theorem law_holds.tw10189704592693192966 : True := trivial
theorem law_holds.tw10222300733896627045 : True := trivial
theorem law_holds.tw10264638600885302300 : True := trivial
theorem law_holds.tw10283916278828761575 : True := trivial
theorem law_holds.tw10296202853966499060 : True := trivial
theorem law_holds.tw10301956948240465243 : True := trivial
theorem law_holds.tw10346744231138586394 : True := trivial
theorem law_holds.tw10350734228115807855 : True := trivial
theorem law_holds.tw1035469204868569938 : True := trivial
theorem law_holds.tw10362271348294423435 : True := trivial
theorem law_holds.tw10368410895845634921 : True := trivial
theorem law_holds.tw10371022188087798493 : True := trivial
theorem law_holds.tw10441050188594101415 : True := trivial
theorem law_holds.tw10442559174759676424 : True := trivial
theorem law_holds.tw10458381655096516384 : True := trivial
theorem law_holds.tw10465528174321978529 : True := trivial
theorem law_holds.tw10486713781251687710 : True := trivial
theorem law_holds.tw10516828495840041881 : True := trivial
theorem law_holds.tw10517181812226103804 : True := trivial
theorem law_holds.tw1053317679998426468 : True := trivial
theorem law_holds.tw10566571302883470556 : True := trivial
theorem law_holds.tw10609929442622069884 : True := trivial
theorem law_holds.tw10726639523019406850 : True := trivial
theorem law_holds.tw10756053368327666013 : True := trivial
theorem law_holds.tw10767655046202684341 : True := trivial
theorem law_holds.tw10812634152524527747 : True := trivial
theorem law_holds.tw10841264019214440115 : True := trivial
theorem law_holds.tw10876394233666535175 : True := trivial
theorem law_holds.tw10897144627088453450 : True := trivial
theorem law_holds.tw10958410103948607464 : True := trivial
theorem law_holds.tw10968802771074238664 : True := trivial
theorem law_holds.tw1096898596823417342 : True := trivial
theorem law_holds.tw10983241140555628109 : True := trivial
theorem law_holds.tw1099259369241382048 : True := trivial
theorem law_holds.tw11067727234611919522 : True := trivial
theorem law_holds.tw11097158420108258118 : True := trivial
theorem law_holds.tw11098625913536864229 : True := trivial
theorem law_holds.tw11100686419730198450 : True := trivial
theorem law_holds.tw11126432536435168541 : True := trivial
theorem law_holds.tw11169275537108399364 : True := trivial
theorem law_holds.tw11182679623053108816 : True := trivial
theorem law_holds.tw11223184984439025696 : True := trivial
theorem law_holds.tw11232796583565578275 : True := trivial
theorem law_holds.tw11289095316329951393 : True := trivial
theorem law_holds.tw11297062200503488469 : True := trivial
theorem law_holds.tw11303081109005220762 : True := trivial
theorem law_holds.tw11315637435222106236 : True := trivial
theorem law_holds.tw11330957891505755796 : True := trivial
theorem law_holds.tw11347954631545130290 : True := trivial
theorem law_holds.tw11404014056486942332 : True := trivial
theorem law_holds.tw11463670642173560981 : True := trivial
theorem law_holds.tw11484002064277903863 : True := trivial
theorem law_holds.tw11532970265236058100 : True := trivial
theorem law_holds.tw11544315989524547432 : True := trivial
theorem law_holds.tw11586273756423631628 : True := trivial
theorem law_holds.tw11625900857008200698 : True := trivial
theorem law_holds.tw11666318101497114028 : True := trivial
theorem law_holds.tw11690447701083486646 : True := trivial
theorem law_holds.tw11714151634956498000 : True := trivial
theorem law_holds.tw1172607208729018732 : True := trivial
theorem law_holds.tw11764581739189218997 : True := trivial
theorem law_holds.tw11781800970755023335 : True := trivial
theorem law_holds.tw11795792742502079742 : True := trivial
theorem law_holds.tw11846676642670509255 : True := trivial
theorem law_holds.tw1186782194237197914 : True := trivial
theorem law_holds.tw11881114122080957857 : True := trivial
theorem law_holds.tw11946022803392826334 : True := trivial
theorem law_holds.tw11956458263131016624 : True := trivial
theorem law_holds.tw11966672015165255308 : True := trivial
theorem law_holds.tw11977050620070087417 : True := trivial
theorem law_holds.tw12001131798957381970 : True := trivial
theorem law_holds.tw12108977868540685583 : True := trivial
theorem law_holds.tw12115171985352901274 : True := trivial
theorem law_holds.tw12116493165278983582 : True := trivial
theorem law_holds.tw12134408205421670959 : True := trivial
theorem law_holds.tw12153922251378674784 : True := trivial
theorem law_holds.tw12223724995276690173 : True := trivial
theorem law_holds.tw12253411696296436870 : True := trivial
theorem law_holds.tw12291295341487003417 : True := trivial
theorem law_holds.tw12296726922439171297 : True := trivial
theorem law_holds.tw12303009252429188658 : True := trivial
theorem law_holds.tw12320438053989627958 : True := trivial
theorem law_holds.tw123295346585929383 : True := trivial
theorem law_holds.tw12342728606916771844 : True := trivial
theorem law_holds.tw12394330538082041428 : True := trivial
theorem law_holds.tw12419048959643632839 : True := trivial
theorem law_holds.tw1242418559920758562 : True := trivial
theorem law_holds.tw12429492816068935716 : True := trivial
theorem law_holds.tw1247253217256132012 : True := trivial
theorem law_holds.tw12476058986133298565 : True := trivial
theorem law_holds.tw12481875629721207810 : True := trivial
theorem law_holds.tw12503156628232749375 : True := trivial
theorem law_holds.tw1258919526383655059 : True := trivial
theorem law_holds.tw12597187120891498251 : True := trivial
theorem law_holds.tw12622292602297523153 : True := trivial
theorem law_holds.tw12626328134170644701 : True := trivial
theorem law_holds.tw12645607732203181651 : True := trivial
theorem law_holds.tw12663309570017281627 : True := trivial
theorem law_holds.tw12668044768207566790 : True := trivial
theorem law_holds.tw12684681026606017882 : True := trivial
theorem law_holds.tw12732824653754844360 : True := trivial
theorem law_holds.tw12780804625047726367 : True := trivial
theorem law_holds.tw12800644894191811977 : True := trivial
theorem law_holds.tw12831907817818079685 : True := trivial
theorem law_holds.tw12835091436910803158 : True := trivial
theorem law_holds.tw12847567107135931479 : True := trivial
theorem law_holds.tw1285599515219305098 : True := trivial
theorem law_holds.tw12889056044993165476 : True := trivial
theorem law_holds.tw12889673554181485818 : True := trivial
theorem law_holds.tw12949845418750544790 : True := trivial
theorem law_holds.tw12977093529070104392 : True := trivial
theorem law_holds.tw13028658284911697911 : True := trivial
theorem law_holds.tw13055523775352357715 : True := trivial
theorem law_holds.tw13087128984098923117 : True := trivial
theorem law_holds.tw13092103797297032270 : True := trivial
theorem law_holds.tw13101961327849317808 : True := trivial
theorem law_holds.tw13154458805202713791 : True := trivial
theorem law_holds.tw13190703287169160282 : True := trivial
theorem law_holds.tw13250372474279835810 : True := trivial
theorem law_holds.tw13280740594461564331 : True := trivial
theorem law_holds.tw13301187468288870568 : True := trivial
theorem law_holds.tw13336368349410954346 : True := trivial
theorem law_holds.tw13342137609418717338 : True := trivial
theorem law_holds.tw13342518741750886279 : True := trivial
theorem law_holds.tw1335265377702380343 : True := trivial
theorem law_holds.tw13392613628428298086 : True := trivial
theorem law_holds.tw13397297893571687751 : True := trivial
theorem law_holds.tw13402424001964919149 : True := trivial
theorem law_holds.tw1341266762083198811 : True := trivial
theorem law_holds.tw13429453918920967058 : True := trivial
theorem law_holds.tw13431030151845061361 : True := trivial
theorem law_holds.tw13454136545276886934 : True := trivial
theorem law_holds.tw13478230802861573701 : True := trivial
theorem law_holds.tw13482675847692870326 : True := trivial
theorem law_holds.tw13642005409729077643 : True := trivial
theorem law_holds.tw13667737974841707781 : True := trivial
theorem law_holds.tw13709617746848070560 : True := trivial
theorem law_holds.tw13766487248619392586 : True := trivial
theorem law_holds.tw1377309892636839040 : True := trivial
theorem law_holds.tw13780023080261437657 : True := trivial
theorem law_holds.tw13800329570527188203 : True := trivial
theorem law_holds.tw13800757232730249582 : True := trivial
theorem law_holds.tw13840902789983287329 : True := trivial
theorem law_holds.tw13882729330811710610 : True := trivial
theorem law_holds.tw13902218012105463410 : True := trivial
theorem law_holds.tw13958071646730322851 : True := trivial
theorem law_holds.tw13983371404066579822 : True := trivial
theorem law_holds.tw14051398506283589457 : True := trivial
theorem law_holds.tw14064573792008682920 : True := trivial
theorem law_holds.tw14160533322030094474 : True := trivial
theorem law_holds.tw14281342344845405768 : True := trivial
theorem law_holds.tw14289194402921355359 : True := trivial
theorem law_holds.tw14326059299131336239 : True := trivial
theorem law_holds.tw14335913921861858828 : True := trivial
theorem law_holds.tw14377833709258309704 : True := trivial
theorem law_holds.tw14385925486924208373 : True := trivial
theorem law_holds.tw14390602165704524457 : True := trivial
theorem law_holds.tw14489315793263303861 : True := trivial
theorem law_holds.tw14497384708736915567 : True := trivial
theorem law_holds.tw14498155544194170393 : True := trivial
theorem law_holds.tw14531881819706719225 : True := trivial
theorem law_holds.tw14545874151571354728 : True := trivial
theorem law_holds.tw14571795756577361901 : True := trivial
theorem law_holds.tw14646867148444618371 : True := trivial
theorem law_holds.tw14746732674962391887 : True := trivial
theorem law_holds.tw14774650325386425613 : True := trivial
theorem law_holds.tw14808693009186965950 : True := trivial
theorem law_holds.tw14822640431511872941 : True := trivial
theorem law_holds.tw14872900085578418628 : True := trivial
theorem law_holds.tw14883556706271630602 : True := trivial
theorem law_holds.tw14892801356780361778 : True := trivial
theorem law_holds.tw14904137174637212347 : True := trivial
theorem law_holds.tw14913908035333294122 : True := trivial
theorem law_holds.tw14925382992726071281 : True := trivial
theorem law_holds.tw14957179600199517237 : True := trivial
theorem law_holds.tw1496123403401453975 : True := trivial
theorem law_holds.tw14983226153234331074 : True := trivial
theorem law_holds.tw14988988175077273356 : True := trivial
theorem law_holds.tw14991590004735058009 : True := trivial
theorem law_holds.tw14997073306097389879 : True := trivial
theorem law_holds.tw15006436103509636135 : True := trivial
theorem law_holds.tw15014403891855920072 : True := trivial
theorem law_holds.tw15031514592837009168 : True := trivial
theorem law_holds.tw15123554796541802991 : True := trivial
theorem law_holds.tw15140378357190847165 : True := trivial
theorem law_holds.tw15150646450996357022 : True := trivial
theorem law_holds.tw15154110283740273250 : True := trivial
theorem law_holds.tw15162217921772873613 : True := trivial
theorem law_holds.tw15191720212996534143 : True := trivial
theorem law_holds.tw15272395603832836080 : True := trivial
theorem law_holds.tw15293083901398250104 : True := trivial
theorem law_holds.tw15298196793531828919 : True := trivial
theorem law_holds.tw15333956030411951890 : True := trivial
theorem law_holds.tw15341342317828512493 : True := trivial
theorem law_holds.tw15352839923633478061 : True := trivial
theorem law_holds.tw15448297888555860652 : True := trivial
theorem law_holds.tw15472126771306010800 : True := trivial
theorem law_holds.tw15514866124879379921 : True := trivial
theorem law_holds.tw15544829507116839252 : True := trivial
theorem law_holds.tw15607887362523206001 : True := trivial
theorem law_holds.tw15643490421465472420 : True := trivial
theorem law_holds.tw15644819842384902770 : True := trivial
theorem law_holds.tw15661869461025623997 : True := trivial
theorem law_holds.tw15694993059591697976 : True := trivial
theorem law_holds.tw15741379261994504178 : True := trivial
theorem law_holds.tw15759456685926392790 : True := trivial
theorem law_holds.tw15796309260620551687 : True := trivial
theorem law_holds.tw15802469936163623734 : True := trivial
theorem law_holds.tw15806970514647361693 : True := trivial
theorem law_holds.tw15829985883664642994 : True := trivial
theorem law_holds.tw15848713872586308078 : True := trivial
theorem law_holds.tw15883345262158282383 : True := trivial
theorem law_holds.tw16009327648451700120 : True := trivial
theorem law_holds.tw16057390660189216267 : True := trivial
theorem law_holds.tw16074064945343616743 : True := trivial
theorem law_holds.tw160851071654074740 : True := trivial
theorem law_holds.tw16092355726972411579 : True := trivial
theorem law_holds.tw16098122237329998606 : True := trivial
theorem law_holds.tw16106779387088534511 : True := trivial
theorem law_holds.tw16165715940066559518 : True := trivial
theorem law_holds.tw16190678330180157336 : True := trivial
theorem law_holds.tw1622690429015379626 : True := trivial
theorem law_holds.tw16245577235439221107 : True := trivial
theorem law_holds.tw16273140198857503625 : True := trivial
theorem law_holds.tw16332274672890094952 : True := trivial
theorem law_holds.tw16381176275627223697 : True := trivial
theorem law_holds.tw16406091861079842607 : True := trivial
theorem law_holds.tw16462895619179043833 : True := trivial
theorem law_holds.tw16470317323979864763 : True := trivial
theorem law_holds.tw16510464861438871135 : True := trivial
theorem law_holds.tw16563099163409725306 : True := trivial
theorem law_holds.tw16606368319796509530 : True := trivial
theorem law_holds.tw16612359704951912572 : True := trivial
theorem law_holds.tw1670043908289496885 : True := trivial
theorem law_holds.tw16760957895259694429 : True := trivial
theorem law_holds.tw16771549258648962210 : True := trivial
theorem law_holds.tw16805829885119392726 : True := trivial
theorem law_holds.tw1681173693875575501 : True := trivial
theorem law_holds.tw16836969012518115619 : True := trivial
theorem law_holds.tw1685627985566243432 : True := trivial
theorem law_holds.tw16873799427995575018 : True := trivial
theorem law_holds.tw16893121556090616931 : True := trivial
theorem law_holds.tw16947615914383616782 : True := trivial
theorem law_holds.tw16963379459963715452 : True := trivial
theorem law_holds.tw16978406815995349258 : True := trivial
theorem law_holds.tw17027635718292003107 : True := trivial
theorem law_holds.tw17028624522117568015 : True := trivial
theorem law_holds.tw17046799393618780204 : True := trivial
theorem law_holds.tw17082034120322769082 : True := trivial
theorem law_holds.tw1710076424337546998 : True := trivial
theorem law_holds.tw17116655550334784131 : True := trivial
theorem law_holds.tw17137235678499792623 : True := trivial
theorem law_holds.tw17156363617357476176 : True := trivial
theorem law_holds.tw17169043682955552997 : True := trivial
theorem law_holds.tw1722738952054099684 : True := trivial
theorem law_holds.tw17249539165995611551 : True := trivial
theorem law_holds.tw17253691774821329096 : True := trivial
theorem law_holds.tw17253903310271361901 : True := trivial
theorem law_holds.tw17274716441693411508 : True := trivial
theorem law_holds.tw17458534234597298029 : True := trivial
theorem law_holds.tw17470365217354309832 : True := trivial
theorem law_holds.tw17499823404086765753 : True := trivial
theorem law_holds.tw17545576798567701639 : True := trivial
theorem law_holds.tw17580165497215679439 : True := trivial
theorem law_holds.tw17598101756349436640 : True := trivial
theorem law_holds.tw1762888911704233025 : True := trivial
theorem law_holds.tw1767730674963353768 : True := trivial
theorem law_holds.tw17713402740875732926 : True := trivial
theorem law_holds.tw17766518349948087953 : True := trivial
theorem law_holds.tw1778412455037948541 : True := trivial
theorem law_holds.tw17792525830624384078 : True := trivial
theorem law_holds.tw17830944117370523080 : True := trivial
theorem law_holds.tw1784627337472249616 : True := trivial
theorem law_holds.tw17865009358878524859 : True := trivial
theorem law_holds.tw17899081815984039989 : True := trivial
theorem law_holds.tw17911580528928914924 : True := trivial
theorem law_holds.tw17923851452625207687 : True := trivial
theorem law_holds.tw17942709131360195518 : True := trivial
theorem law_holds.tw17966089533135325134 : True := trivial
theorem law_holds.tw17974257514489008736 : True := trivial
theorem law_holds.tw17993387198741990920 : True := trivial
theorem law_holds.tw18026530572120702767 : True := trivial
theorem law_holds.tw18051328159682125866 : True := trivial
theorem law_holds.tw18090433342136740992 : True := trivial
theorem law_holds.tw18116031599527039140 : True := trivial
theorem law_holds.tw18135211599370774712 : True := trivial
theorem law_holds.tw18155623678392573649 : True := trivial
theorem law_holds.tw1819975233463548508 : True := trivial
theorem law_holds.tw18203989763732354715 : True := trivial
theorem law_holds.tw18221428039690301666 : True := trivial
theorem law_holds.tw18221580467831097590 : True := trivial
theorem law_holds.tw18234560199702728603 : True := trivial
theorem law_holds.tw18254337876149969668 : True := trivial
theorem law_holds.tw18261290160731607033 : True := trivial
theorem law_holds.tw18326849912455186884 : True := trivial
theorem law_holds.tw1832781179975386347 : True := trivial
theorem law_holds.tw18340598423539479173 : True := trivial
theorem law_holds.tw18388893480867403737 : True := trivial
theorem law_holds.tw18430954121086234272 : True := trivial
theorem law_holds.tw1905533677188600702 : True := trivial
theorem law_holds.tw1909877003179415225 : True := trivial
theorem law_holds.tw1928719863018725356 : True := trivial
theorem law_holds.tw1929443778124869092 : True := trivial
theorem law_holds.tw1973129929022764952 : True := trivial
theorem law_holds.tw1989176631692091739 : True := trivial
theorem law_holds.tw1997475870405608531 : True := trivial
theorem law_holds.tw2006301483956418059 : True := trivial
theorem law_holds.tw2016121425191149895 : True := trivial
theorem law_holds.tw2055734563569237896 : True := trivial
theorem law_holds.tw2075624079617657780 : True := trivial
theorem law_holds.tw2078624436916829710 : True := trivial
theorem law_holds.tw2090888555730037645 : True := trivial
theorem law_holds.tw2096525686368166746 : True := trivial
theorem law_holds.tw2102315897755806987 : True := trivial
theorem law_holds.tw2124134355350193313 : True := trivial
theorem law_holds.tw2139172203440323022 : True := trivial
theorem law_holds.tw2143268655074302082 : True := trivial
theorem law_holds.tw2152083551845799040 : True := trivial
theorem law_holds.tw2175471002772951711 : True := trivial
theorem law_holds.tw2269544990204364226 : True := trivial
theorem law_holds.tw228058311090241170 : True := trivial
theorem law_holds.tw2295933128562542503 : True := trivial
theorem law_holds.tw2303879751551577860 : True := trivial
theorem law_holds.tw2322801206320994539 : True := trivial
theorem law_holds.tw2325693721150917532 : True := trivial
theorem law_holds.tw2387193687640843687 : True := trivial
theorem law_holds.tw2503670479209048990 : True := trivial
theorem law_holds.tw2557128651999224082 : True := trivial
theorem law_holds.tw2558664710541493025 : True := trivial
theorem law_holds.tw2578278018795888234 : True := trivial
theorem law_holds.tw2602977815382960713 : True := trivial
theorem law_holds.tw2618386414584295968 : True := trivial
theorem law_holds.tw2643271747718453845 : True := trivial
theorem law_holds.tw2695550118857162214 : True := trivial
theorem law_holds.tw2782419253953178936 : True := trivial
theorem law_holds.tw2782584491509435139 : True := trivial
theorem law_holds.tw2788888992717563140 : True := trivial
theorem law_holds.tw2842810181116790245 : True := trivial
theorem law_holds.tw2851267720448770887 : True := trivial
theorem law_holds.tw2856731137302751260 : True := trivial
theorem law_holds.tw2865737869514987218 : True := trivial
theorem law_holds.tw2887050238494874643 : True := trivial
theorem law_holds.tw2887994833065977647 : True := trivial
theorem law_holds.tw2903333896348957400 : True := trivial
theorem law_holds.tw2907507879108658156 : True := trivial
theorem law_holds.tw293627430662643474 : True := trivial
theorem law_holds.tw3004322157184113663 : True := trivial
theorem law_holds.tw3005452535816212104 : True := trivial
theorem law_holds.tw3012480247710183994 : True := trivial
theorem law_holds.tw302768837105346163 : True := trivial
theorem law_holds.tw3033269912633744064 : True := trivial
theorem law_holds.tw3035144380315620824 : True := trivial
theorem law_holds.tw3046938939346580660 : True := trivial
theorem law_holds.tw3110860835449505704 : True := trivial
theorem law_holds.tw3127913417769977931 : True := trivial
theorem law_holds.tw3158129796062787159 : True := trivial
theorem law_holds.tw3186734533307500241 : True := trivial
theorem law_holds.tw3253568177066640346 : True := trivial
theorem law_holds.tw3253820488102484341 : True := trivial
theorem law_holds.tw3258674603298201628 : True := trivial
theorem law_holds.tw3307954989432871184 : True := trivial
theorem law_holds.tw3329330481660614911 : True := trivial
theorem law_holds.tw3366817510852727610 : True := trivial
theorem law_holds.tw3390839446522356110 : True := trivial
theorem law_holds.tw3426384778480675251 : True := trivial
theorem law_holds.tw3438298445031660282 : True := trivial
theorem law_holds.tw3494445600050047599 : True := trivial
theorem law_holds.tw3572487005457819259 : True := trivial
theorem law_holds.tw3586223124089845285 : True := trivial
theorem law_holds.tw3595789414353437717 : True := trivial
theorem law_holds.tw3672438013989251361 : True := trivial
theorem law_holds.tw3674665740742831893 : True := trivial
theorem law_holds.tw3682559726232862161 : True := trivial
theorem law_holds.tw3742325753681652743 : True := trivial
theorem law_holds.tw3756308257209627903 : True := trivial
theorem law_holds.tw3756957479349018193 : True := trivial
theorem law_holds.tw3776956092104397036 : True := trivial
theorem law_holds.tw3808703085821546077 : True := trivial
theorem law_holds.tw3850375180904979519 : True := trivial
theorem law_holds.tw3850404396616230974 : True := trivial
theorem law_holds.tw3882201998751590657 : True := trivial
theorem law_holds.tw3896150654470677357 : True := trivial
theorem law_holds.tw3910120701321347557 : True := trivial
theorem law_holds.tw3912811242725288453 : True := trivial
theorem law_holds.tw3927331946688356228 : True := trivial
theorem law_holds.tw3943428198234077543 : True := trivial
theorem law_holds.tw3954825155594196043 : True := trivial
theorem law_holds.tw3955097671198598788 : True := trivial
theorem law_holds.tw3959601488294255719 : True := trivial
theorem law_holds.tw3979707639553702691 : True := trivial
theorem law_holds.tw4008084134468147086 : True := trivial
theorem law_holds.tw4030767218360268280 : True := trivial
theorem law_holds.tw4072507727158212662 : True := trivial
theorem law_holds.tw4146061822495498468 : True := trivial
theorem law_holds.tw415365407113419659 : True := trivial
theorem law_holds.tw41732636909640268 : True := trivial
theorem law_holds.tw4329158554759489670 : True := trivial
theorem law_holds.tw4370086069003782432 : True := trivial
theorem law_holds.tw4396647820988727364 : True := trivial
theorem law_holds.tw4439653461905209652 : True := trivial
theorem law_holds.tw4441770287765753910 : True := trivial
theorem law_holds.tw445335354869643106 : True := trivial
theorem law_holds.tw4464252984393422682 : True := trivial
theorem law_holds.tw447027507633508388 : True := trivial
theorem law_holds.tw4492043994082249198 : True := trivial
theorem law_holds.tw4503035019201841076 : True := trivial
theorem law_holds.tw4515466672771955728 : True := trivial
theorem law_holds.tw4524032621918665186 : True := trivial
theorem law_holds.tw455179833554555240 : True := trivial
theorem law_holds.tw4568741812840581045 : True := trivial
theorem law_holds.tw4581845663705801772 : True := trivial
theorem law_holds.tw4593294709026258786 : True := trivial
theorem law_holds.tw4741859662064258567 : True := trivial
theorem law_holds.tw4776086068340614181 : True := trivial
theorem law_holds.tw4781243967656130014 : True := trivial
theorem law_holds.tw4818577856007422655 : True := trivial
theorem law_holds.tw4916342969005030805 : True := trivial
theorem law_holds.tw4963573110770748834 : True := trivial
theorem law_holds.tw498061464947678834 : True := trivial
theorem law_holds.tw4992725456586698614 : True := trivial
theorem law_holds.tw4995542688137877417 : True := trivial
theorem law_holds.tw5037970770195530229 : True := trivial
theorem law_holds.tw5045712524691215523 : True := trivial
theorem law_holds.tw5062152199769849712 : True := trivial
theorem law_holds.tw5087963091746180759 : True := trivial
theorem law_holds.tw5112083995522966620 : True := trivial
theorem law_holds.tw5117662029339320154 : True := trivial
theorem law_holds.tw5125778097945113979 : True := trivial
theorem law_holds.tw519298541982818421 : True := trivial
theorem law_holds.tw5212653520564569363 : True := trivial
theorem law_holds.tw5274592661964301406 : True := trivial
theorem law_holds.tw5389484754426515990 : True := trivial
theorem law_holds.tw545109181885906688 : True := trivial
theorem law_holds.tw5455921660152230842 : True := trivial
theorem law_holds.tw5506821171919863439 : True := trivial
theorem law_holds.tw5542243279508502960 : True := trivial
theorem law_holds.tw5640673133297012132 : True := trivial
theorem law_holds.tw5731563423909890137 : True := trivial
theorem law_holds.tw575232530192455986 : True := trivial
theorem law_holds.tw5791418645094131800 : True := trivial
theorem law_holds.tw5898729028444588960 : True := trivial
theorem law_holds.tw5907203647135998699 : True := trivial
theorem law_holds.tw5914491427308094424 : True := trivial
theorem law_holds.tw5920216800500632969 : True := trivial
theorem law_holds.tw5950301352895977177 : True := trivial
theorem law_holds.tw5981114437932730796 : True := trivial
theorem law_holds.tw59864651932915081 : True := trivial
theorem law_holds.tw5989267464594152519 : True := trivial
theorem law_holds.tw5994716906283268228 : True := trivial
theorem law_holds.tw602461330855297101 : True := trivial
theorem law_holds.tw6041440012092600215 : True := trivial
theorem law_holds.tw607667584577438428 : True := trivial
theorem law_holds.tw6151024500545611187 : True := trivial
theorem law_holds.tw6159533029260741167 : True := trivial
theorem law_holds.tw6177970194926469781 : True := trivial
theorem law_holds.tw6189876280036216102 : True := trivial
theorem law_holds.tw6260460797876433568 : True := trivial
theorem law_holds.tw6265907326580845545 : True := trivial
theorem law_holds.tw6317479115527610633 : True := trivial
theorem law_holds.tw6333624483447246961 : True := trivial
theorem law_holds.tw6381524096760519305 : True := trivial
theorem law_holds.tw6499956759230125245 : True := trivial
theorem law_holds.tw6507877686720480950 : True := trivial
theorem law_holds.tw653560878884961445 : True := trivial
theorem law_holds.tw6553333263825352884 : True := trivial
theorem law_holds.tw6564709946809587534 : True := trivial
theorem law_holds.tw6580623548314892615 : True := trivial
theorem law_holds.tw660297872995803996 : True := trivial
theorem law_holds.tw6674817763981286723 : True := trivial
theorem law_holds.tw6677821561840896501 : True := trivial
theorem law_holds.tw6719018230134327050 : True := trivial
theorem law_holds.tw6723812968561706957 : True := trivial
theorem law_holds.tw6727219029552735585 : True := trivial
theorem law_holds.tw6746360682218282392 : True := trivial
theorem law_holds.tw6751701741844952029 : True := trivial
theorem law_holds.tw676263390381983339 : True := trivial
theorem law_holds.tw6765152471904792315 : True := trivial
theorem law_holds.tw6776455111828631412 : True := trivial
theorem law_holds.tw6860709855171689206 : True := trivial
theorem law_holds.tw6869992995446874880 : True := trivial
theorem law_holds.tw687851300278632918 : True := trivial
theorem law_holds.tw6882020374766023752 : True := trivial
theorem law_holds.tw6896717019858035522 : True := trivial
theorem law_holds.tw6911747868599837429 : True := trivial
theorem law_holds.tw6934448944433832347 : True := trivial
theorem law_holds.tw699380112222796084 : True := trivial
theorem law_holds.tw7089819591129360890 : True := trivial
theorem law_holds.tw7090730855818797151 : True := trivial
theorem law_holds.tw7091040345339471760 : True := trivial
theorem law_holds.tw718173064312146323 : True := trivial
theorem law_holds.tw7185456241796803578 : True := trivial
theorem law_holds.tw723553956927101924 : True := trivial
theorem law_holds.tw724200737284857819 : True := trivial
theorem law_holds.tw7260445328890291496 : True := trivial
theorem law_holds.tw7304591109411159013 : True := trivial
theorem law_holds.tw7311554392007033315 : True := trivial
theorem law_holds.tw7348542588901171862 : True := trivial
theorem law_holds.tw7356724547972884604 : True := trivial
theorem law_holds.tw7404543985812422374 : True := trivial
theorem law_holds.tw7408322871517469003 : True := trivial
theorem law_holds.tw7408472829698581751 : True := trivial
theorem law_holds.tw745255978533919091 : True := trivial
theorem law_holds.tw7480714314260584917 : True := trivial
theorem law_holds.tw7489966622950365669 : True := trivial
theorem law_holds.tw7495221243884187115 : True := trivial
theorem law_holds.tw7497986649931050792 : True := trivial
theorem law_holds.tw7544913113114293122 : True := trivial
theorem law_holds.tw7566432030715092817 : True := trivial
theorem law_holds.tw7604666192120794032 : True := trivial
theorem law_holds.tw7636989558263936852 : True := trivial
theorem law_holds.tw7664682514474162845 : True := trivial
theorem law_holds.tw7675160084493405025 : True := trivial
theorem law_holds.tw7695934317539461687 : True := trivial
theorem law_holds.tw7767266014307106701 : True := trivial
theorem law_holds.tw7769649832755249146 : True := trivial
theorem law_holds.tw7775064044895347852 : True := trivial
theorem law_holds.tw7820799176418779761 : True := trivial
theorem law_holds.tw7897602043232517924 : True := trivial
theorem law_holds.tw7910590604623066228 : True := trivial
theorem law_holds.tw7983211939772527470 : True := trivial
theorem law_holds.tw8035577848987061507 : True := trivial
theorem law_holds.tw8040771413219435098 : True := trivial
theorem law_holds.tw8061732933902216757 : True := trivial
theorem law_holds.tw808278469055374699 : True := trivial
theorem law_holds.tw811035903429128223 : True := trivial
theorem law_holds.tw8137031500313473552 : True := trivial
theorem law_holds.tw8176227357466254829 : True := trivial
theorem law_holds.tw8191475993861738794 : True := trivial
theorem law_holds.tw8210953160692291510 : True := trivial
theorem law_holds.tw8249079356659094474 : True := trivial
theorem law_holds.tw8266603773606604290 : True := trivial
theorem law_holds.tw8330938851228082562 : True := trivial
theorem law_holds.tw8369274380968253667 : True := trivial
theorem law_holds.tw8481075993509181622 : True := trivial
theorem law_holds.tw850272041215511910 : True := trivial
theorem law_holds.tw8514742172934523775 : True := trivial
theorem law_holds.tw8549365171731915398 : True := trivial
theorem law_holds.tw8553002610548859549 : True := trivial
theorem law_holds.tw8572072892066365893 : True := trivial
theorem law_holds.tw8591876402714022951 : True := trivial
theorem law_holds.tw8634839017697508684 : True := trivial
theorem law_holds.tw8666519363043736892 : True := trivial
theorem law_holds.tw8715444014776630742 : True := trivial
theorem law_holds.tw8720880381367431298 : True := trivial
theorem law_holds.tw8763168800255643514 : True := trivial
theorem law_holds.tw8790382262760724670 : True := trivial
theorem law_holds.tw8804120190785687885 : True := trivial
theorem law_holds.tw8829074647290719032 : True := trivial
theorem law_holds.tw8835965917227929528 : True := trivial
theorem law_holds.tw8854015012368427407 : True := trivial
theorem law_holds.tw8856317710758748564 : True := trivial
theorem law_holds.tw8857742495270377987 : True := trivial
theorem law_holds.tw8860054118572591635 : True := trivial
theorem law_holds.tw8890443458166856008 : True := trivial
theorem law_holds.tw8957123355933967898 : True := trivial
theorem law_holds.tw8970147916757833333 : True := trivial
theorem law_holds.tw8984152853971343422 : True := trivial
theorem law_holds.tw8984712037535005518 : True := trivial
theorem law_holds.tw9009705080361974123 : True := trivial
theorem law_holds.tw9032369906271771983 : True := trivial
theorem law_holds.tw9069877914133315304 : True := trivial
theorem law_holds.tw908389787484368193 : True := trivial
theorem law_holds.tw9168033884955339765 : True := trivial
theorem law_holds.tw9184033795430018204 : True := trivial
theorem law_holds.tw9207643191828677137 : True := trivial
theorem law_holds.tw9255152265573255198 : True := trivial
theorem law_holds.tw9317688335297629284 : True := trivial
theorem law_holds.tw9403268196540146800 : True := trivial
theorem law_holds.tw9423440377400516374 : True := trivial
theorem law_holds.tw9456803100559308350 : True := trivial
theorem law_holds.tw9502071092897418529 : True := trivial
theorem law_holds.tw9529696498207198238 : True := trivial
theorem law_holds.tw9548147230944474901 : True := trivial
theorem law_holds.tw9634471323475708679 : True := trivial
theorem law_holds.tw9682718004065560343 : True := trivial
theorem law_holds.tw972601921857779769 : True := trivial
theorem law_holds.tw9758047768218912823 : True := trivial
theorem law_holds.tw9758593294864014727 : True := trivial
theorem law_holds.tw9779807473162285230 : True := trivial
theorem law_holds.tw981846192996546977 : True := trivial
theorem law_holds.tw9849722394096787677 : True := trivial
theorem law_holds.tw9871626496009991038 : True := trivial
theorem law_holds.tw9875236377963488844 : True := trivial
theorem law_holds.tw9887912731928775018 : True := trivial
theorem law_holds.tw9889521400790421688 : True := trivial
theorem law_holds.tw9975692261777386857 : True := trivial
theorem law_holds.tw9989359697036934923 : True := trivial
theorem law_holds.tw9992725586745946429 : True := trivial
set_option Elab.async true in
theorem law_holds : PySem.Challenge.rw_nt0041_01.Holds := by
  w_on; o_law; k_head; (case hw => w_witness2)
  k_go0
  rename Top _ _ _ _ _ _ => T
  rename Frag.In _ _ => KX
  rename IntsAre _ _ => hI
  rename Heap.IsList _ _ _ => hL
  rename News _ _ _ _ => N0
  rename Fr _ _ _ _ => F0
  rename Obj.data _ = Data.cell _ => hcd
  rename Shared.gens _ = _ => hg
  rename ¬ _ => hc63
  obtain ⟨ob, hg1, hcls, n, hdt⟩ := hL
  obtain ⟨hIn, hK⟩ := frag_app KX hg1
  refine law_run (g := ⟨_, _, [(_, ob)], _, _, _, _⟩) (nm := "law") rfl hIn T hK hcls hdt hI ?_ F0 N0 hcd ?_ ?_ ?_
  · exact Nat.le_of_not_lt fun z => hc63 (by exact_mod_cast z)
  · rfl
  · exact PassesOwn.leaving
  · intro s' m' hF hg' hos
    exact goodW_bool hF (hg'.trans hg) (raisesW_false (by wrow_none_raised)) (by wrow_post) hos
end Mine
end
theorem PySem.Challenge.cw_nt0041_01_holds : PySem.Challenge.rw_nt0041_01.Holds := by
  exact Mine.law_holds
